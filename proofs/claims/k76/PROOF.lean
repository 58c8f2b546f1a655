import PyProof.Rows.All
import Wide.All
import OpenK.AllK
import Wide.FinOn
import HandS.ForMost
import KE.KDictKeyed
import KE.SortData
import HandS.Exc
import HandS.ExcOwn
import HandS.TupAny
import HandS.Conv
import HandS.Deep
import HandS.IsInst
import HandS.Style
import HandS.Zip
import KE.LtData
import KE.KDictSum
import HandS.RaiseMore
import KE.DataMinMax
import KE.GoesEnum
import KE.GoesMore
import PyProof.EnumStmt
import PyProof.EnumMake
import HandS.Iter
import HandS.CallLocal
import HandS.Defaults
import HandS.DictComp
import HandS.Lambda
import HandS.HeadHook1
import HandS.HeadHook2
import HandS.HeadEnd
import HandS.Ends
import HandS.HeadHook3
import HandS.HeadHook4
import HandS.Codes
import KE.Datum
import KE.DatumOrd
import HandS.Head0
import HandS.Head1
import HandS.Head2
import PyProof.ReprText
import PySem.Challenge.RW_neverspent_k76_whole_places_that_last
set_option Elab.async false
set_option linter.all false
set_option maxRecDepth 100000
/-! Mi: a small language of values and steps. -/
namespace Mi
open PySem

inductive Ty where
  | non | bl | int | str | tup | lst | dic
  deriving DecidableEq
def Ty.nm : Ty → String
  | .non => "NoneType"
  | .bl => "bool"
  | .int => "int"
  | .str => "str"
  | .tup => "tuple"
  | .lst => "list"
  | .dic => "dict"
/-- is an a a b -/
def Ty.isa (a b : Ty) : Bool := decide (a = b) || (decide (a = .bl) && decide (b = .int))

inductive D where
  | non | bl (b : Bool) | int (i : Int) | str (x : Str)
  | tup (ds : List D) | lst (ds : List D) | dic (ks vs : List D)
  | ref (n : Nat) | fn (i : Nat) | ty (t : Ty)
  /-- the law's own argument -/
  | inp (ns : List Int)
instance : Inhabited D := ⟨.non⟩

/-- what stands in a cell; fz: it changes no more -/
inductive Cl where
  | lst (fz : Bool) (ds : List D)
  | dic (fz : Bool) (ks vs : List D)
structure S where
  nx : Nat
  cs : List (Nat × Cl)
def S.get (s : S) (n : Nat) : Option Cl := s.cs.lookup n
def putC (n : Nat) (c : Cl) : List (Nat × Cl) → List (Nat × Cl)
  | [] => []
  | (k, d) :: r => if k = n then (k, c) :: r else (k, d) :: putC n c r
def S.put (s : S) (n : Nat) (c : Cl) : S := { s with cs := putC n c s.cs }
def S.add (s : S) (c : Cl) : S := { nx := s.nx + 1, cs := (s.nx, c) :: s.cs }

structure Exc where
  c : Nat
  fl : List (Str × D)

inductive Res (α : Type) where
  | ok (a : α) (s : S)
  | exc (x : Exc) (s : S)
  | stuck
@[reducible] def Res.bind {α β : Type} (r : Res α) (f : α → S → Res β) : Res β := match r with
  | .ok a s => f a s
  | .exc x s => .exc x s
  | .stuck => .stuck

mutual
def toPy (lk : Nat → Option PyData) : D → Option PyData
  | .non => some .none
  | .bl b => some (.bool b)
  | .int i => some (.int i)
  | .str x => some (.str x)
  | .tup ds => (toPys lk ds).map .tuple
  | .lst ds => (toPys lk ds).map .list
  | .ref n => lk n
  | .dic _ _ => none
  | .fn _ => none
  | .ty _ => none
  | .inp _ => none
def toPys (lk : Nat → Option PyData) : List D → Option (List PyData)
  | [] => some []
  | d :: ds => match toPy lk d, toPys lk ds with
    | some p, some ps => some (p :: ps)
    | _, _ => none
end
def S.look (s : S) : Nat → Nat → Option PyData
  | 0, _ => none
  | k + 1, n => match s.get n with
    | some (.lst _ ds) => (toPys (s.look k) ds).map .list
    | _ => none
/-- the data that a value reads as -/
def S.py (s : S) (d : D) : Option PyData := toPy (s.look 4) d
def S.pys (s : S) (ds : List D) : Option (List PyData) := toPys (s.look 4) ds

mutual
def toKey : D → Option NestedKey
  | .non => some .none
  | .bl b => some (.num (if b = true then 1 else 0))
  | .int i => some (.num i)
  | .str x => some (.text x)
  | .tup ds => (toKeys ds).map .tup
  | .lst _ => none
  | .dic _ _ => none
  | .ref _ => none
  | .fn _ => none
  | .ty _ => none
  | .inp _ => none
def toKeys : List D → Option (List NestedKey)
  | [] => some []
  | d :: ds => match toKey d, toKeys ds with
    | some k, some ks => some (k :: ks)
    | _, _ => none
end
/-- a tuple as a key -/
def keyT : D → Option NestedKey
  | .tup ds => match toKeys ds with
    | some ks => if (NestedKey.tup ks).depth ≤ 8 then some (.tup ks) else none
    | none => none
  | _ => none
/-- the value at a key; the keys are tuples all -/
def dget (k : NestedKey) : List D → List D → Option D
  | a :: ks, v :: vs => if keyT a = some k then some v else dget k ks vs
  | _, _ => none
def dputV (k : NestedKey) (w : D) : List D → List D → List D
  | a :: ks, v :: vs => if keyT a = some k then w :: vs else v :: dputV k w ks vs
  | _, _ => []
/-- d[kd] = w, k the key of kd -/
def dput (k : NestedKey) (kd w : D) (ks vs : List D) : List D × List D :=
  match dget k ks vs with
  | some _ => (ks, dputV k w ks vs)
  | none => (ks ++ [kd], vs ++ [w])

mutual
/-- no cell from n on is named in it -/
def below (n : Nat) : D → Bool
  | .ref k => decide (k < n)
  | .tup ds => belows n ds
  | .lst ds => belows n ds
  | .dic ks vs => belows n ks && belows n vs
  | .non => true
  | .bl _ => true
  | .int _ => true
  | .str _ => true
  | .fn _ => true
  | .ty _ => true
  | .inp _ => true
def belows (n : Nat) : List D → Bool
  | [] => true
  | d :: ds => below n d && belows n ds
end
def belowC (n : Nat) : Cl → Bool
  | .lst _ ds => belows n ds
  | .dic _ ks vs => belows n ks && belows n vs
/-- what a call leaves: the cells made in it go, but one that it hands back -/
def clean (n : Nat) (d : D) (s : S) : D × S :=
  let old := s.cs.filter fun p => decide (p.1 < n)
  if old.all (fun p => belowC n p.2) then
    if below n d then (d, ⟨n, old⟩)
    else match d with
      | .ref k => match s.get k with
        | some c => if belowC n c then (.ref n, ⟨n + 1, (n, c) :: old⟩) else (d, s)
        | none => (d, s)
      | _ => (d, s)
  else (d, s)

/-! ### operations -/
inductive Bo where
  | add | sub | mul | fdiv | mod | pow
  deriving DecidableEq
inductive Co where
  | eq | ne | lt | le | gt | ge | isin | notin | is | isnt
  deriving DecidableEq
inductive Bi where
  | len | all | any | min2 | max2 | sum | abs | int | tuple | list | sorted | repr | str | divmod
  deriving DecidableEq
inductive Mt where
  | append | extend | index | get
  deriving DecidableEq

def ok {α : Type} (a : α) (s : S) : Res α := .ok a s
def mulOk (i j : Int) : Bool := (decide (-(2 ^ 64) < i) && decide (i < 2 ^ 64)) || (decide (-(2 ^ 64) < j) && decide (j < 2 ^ 64))
/-- a list that is read: pure, or in a cell -/
def S.items (s : S) : D → Option (List D)
  | .lst ds => some ds
  | .ref n => match s.get n with
    | some (.lst _ ds) => some ds
    | _ => none
  | _ => none
def fits (ds : List D) : Bool := decide (ds.length ≤ sizeLine)
def rep (k : Nat) (ds : List D) : List D := (List.replicate k ds).flatten

def evBin (o : Bo) (a b : D) (s : S) : Res D := match o, a, b with
  | .add, .int i, .int j => .ok (.int (i + j)) s
  | .sub, .int i, .int j => .ok (.int (i - j)) s
  | .mul, .int i, .int j => if mulOk i j then .ok (.int (i * j)) s else .stuck
  | .fdiv, .int i, .int j => if 0 < j ∧ j < 1073741824 then .ok (.int (i / j)) s else .stuck
  | .mod, .int i, .int j => if 0 < j then .ok (.int (i % j)) s else .stuck
  | .pow, .int i, .int j => if (0 ≤ j ∧ j ≤ 1000) ∧ i.natAbs < 2 ^ 64 then .ok (.int (i ^ j.toNat)) s else .stuck
  | .add, .tup xs, .tup ys => if fits (xs ++ ys) then .ok (.tup (xs ++ ys)) s else .stuck
  | .add, x, y => match s.items x, s.items y with
    | some xs, some ys => if fits (xs ++ ys) then .ok (.lst (xs ++ ys)) s else .stuck
    | _, _ => .stuck
  | .mul, x, .int k => match s.items x with
    | some xs => if (-(2 ^ 63) ≤ k ∧ k < 2 ^ 63) ∧ xs.length * k.toNat ≤ sizeLine then .ok (.lst (List.replicate k.toNat xs).flatten) s else .stuck
    | none => .stuck
  | _, _, _ => .stuck
/-- the result, a list, in a cell -/
def evBinC (o : Bo) (x y : D) (s : S) : Res D := match evBin o x y s with
  | .ok (.lst ds) s1 => .ok (.ref s1.nx) (s1.add (.lst false ds))
  | _ => .stuck

def S.eqv (s : S) (a b : D) : Option Bool := match s.py a, s.py b with
  | some p, some q => if SeqAt.shaped p && SeqAt.shaped q then some (PyData.eqv p q) else none
  | _, _ => none
/-- x in c -/
def S.isIn (s : S) (x c : D) : Option Bool := match c with
  | .dic ks vs => (keyT x).map fun k => (dget k ks vs).isSome
  | .ref n => match s.get n with
    | some (.dic _ ks vs) => (keyT x).map fun k => (dget k ks vs).isSome
    | some (.lst _ ds) => match s.py x, s.pys ds with
      | some p, some ps => if SeqAt.shaped p && SeqAt.shaped (.list ps) then some (ps.any fun z => PyData.eqv z p) else none
      | _, _ => none
    | none => none
  | .lst ds => match s.py x, s.pys ds with
      | some p, some ps => if SeqAt.shaped p && SeqAt.shaped (.list ps) then some (ps.any fun z => PyData.eqv z p) else none
      | _, _ => none
  | .tup ds => match s.py x, s.pys ds with
      | some p, some ps => if SeqAt.shaped p && SeqAt.shaped (.tuple ps) then some (ps.any fun z => PyData.eqv z p) else none
      | _, _ => none
  | _ => none
def S.lt (s : S) (a b : D) : Option Bool := match a, b with
  | .int i, .int j => some (decide (i < j))
  | .tup xs, .tup ys => match s.py (.tup xs), s.py (.tup ys) with
    | some p, some q => if SeqAt.shaped p && SeqAt.shaped q && W.alike p q then some (W.dataLt p q) else none
    | _, _ => none
  | _, _ => none
def isNon : D → Bool
  | .non => true
  | _ => false
def evCmp (o : Co) (a b : D) (s : S) : Res D := match o with
  | .eq => match s.eqv a b with
    | some r => .ok (.bl r) s
    | none => .stuck
  | .ne => match s.eqv a b with
    | some r => .ok (.bl (!r)) s
    | none => .stuck
  | .lt => match s.lt a b with
    | some r => .ok (.bl r) s
    | none => .stuck
  | .le => match a, b with
    | .int i, .int j => .ok (.bl (decide (i ≤ j))) s
    | _, _ => .stuck
  | .gt => match a, b with
    | .int i, .int j => .ok (.bl (decide (j < i))) s
    | _, _ => .stuck
  | .ge => match a, b with
    | .int i, .int j => .ok (.bl (decide (j ≤ i))) s
    | _, _ => .stuck
  | .isin => match s.isIn a b with
    | some r => .ok (.bl r) s
    | none => .stuck
  | .notin => match s.isIn a b with
    | some r => .ok (.bl (!r)) s
    | none => .stuck
  | .is => match b with
    | .non => .ok (.bl (isNon a)) s
    | _ => .stuck
  | .isnt => match b with
    | .non => .ok (.bl (!isNon a)) s
    | _ => .stuck

def S.tyOf (s : S) : D → Option Ty
  | .non => some .non
  | .bl _ => some .bl
  | .int _ => some .int
  | .str _ => some .str
  | .tup _ => some .tup
  | .lst _ => some .lst
  | .dic _ _ => some .dic
  | .ref n => match s.get n with
    | some (.lst _ _) => some .lst
    | some (.dic _ _ _) => some .dic
    | none => none
  | .fn _ => none
  | .ty _ => none
  | .inp _ => none

def allBl : List D → Option (List Bool)
  | [] => some []
  | .bl b :: r => (allBl r).map (b :: ·)
  | _ :: _ => none
def allInt : List D → Option (List Int)
  | [] => some []
  | .int i :: r => (allInt r).map (i :: ·)
  | _ :: _ => none
/-- the order by data -/
def leD (s : S) (a b : D) : Bool := !W.dataLt ((s.py b).getD .none) ((s.py a).getD .none)
def isTup : PyData → Bool
  | .tuple (_ :: _) => true
  | _ => false
def isAtom : PyData → Bool
  | .int _ => true
  | .str _ => true
  | _ => false
def sortOk (ps : List PyData) : Bool := ps.all (fun p => ps.all fun q => W.alike p q) && (ps.all isTup || ps.all isAtom) && ps.all (fun p => decide (p.depth ≤ 64))
/-- the first part -/
def fstD : PyData → PyData
  | .tuple (x :: _) => x
  | _ => .none
/-- all first parts are unlike -/
def apart : List PyData → Bool
  | [] => true
  | p :: ps => ps.all (fun q => W.alike (fstD p) (fstD q) && W.alike (fstD q) (fstD p) && !PyData.eqv (fstD p) (fstD q) && !PyData.eqv (fstD q) (fstD p)) && apart ps
def sortFst (ps : List PyData) : Bool := ps.all isTup && ps.all (fun p => W.alike p p) && apart ps && ps.all (fun p => decide (p.depth ≤ 64))

def allTupI : List D → Option (List (List Int))
  | [] => some []
  | .tup xs :: r => match allInt xs, allTupI r with
    | some a, some b => some (a :: b)
    | _, _ => none
  | _ :: _ => none
def tupP (t : List Int) : PyData := .tuple (t.map .int)
/-- the least of tuples of numbers -/
def minTI (t : List Int) (ts : List (List Int)) : List Int := ts.foldl (fun a y => if W.dataLt (tupP y) (tupP a) then y else a) t
def alikeTs (ts : List (List Int)) : Bool := (ts.map tupP).all fun x => (ts.map tupP).all fun y => W.alike x y
def minL (s : S) (x : D) : Res D := match s.items x with
  | some ds => match allInt ds with
    | some (n :: ns) => .ok (.int (ns.foldl min n)) s
    | some [] => .stuck
    | none => match allTupI ds with
      | some (t :: ts) => if alikeTs (t :: ts) then .ok (.tup ((minTI t ts).map .int)) s else .stuck
      | _ => .stuck
  | none => .stuck
def maxL (s : S) (x : D) : Res D := match s.items x with
  | some ds => match allInt ds with
    | some (n :: ns) => .ok (.int (ns.foldl max n)) s
    | _ => .stuck
  | none => .stuck
def evBi (b : Bi) (as : List D) (s : S) : Res D := match b, as with
  | .len, [.str x] => if x.length ≤ sizeLine then .ok (.int x.length) s else .stuck
  | .len, [.tup ds] => .ok (.int ds.length) s
  | .len, [.inp ns] => .ok (.int ns.length) s
  | .len, [x] => match s.items x with
    | some ds => .ok (.int ds.length) s
    | none => .stuck
  | .all, [x] => match (s.items x).bind allBl with
    | some bs => .ok (.bl (bs.all id)) s
    | none => .stuck
  | .any, [x] => match (s.items x).bind allBl with
    | some bs => .ok (.bl (bs.any id)) s
    | none => .stuck
  | .min2, [.int i, .int j] => .ok (.int (if j < i then j else i)) s
  | .max2, [.int i, .int j] => .ok (.int (if j > i then j else i)) s
  | .min2, [x] => minL s x
  | .max2, [x] => maxL s x
  | .sum, [x] => match (s.items x).bind allInt with
    | some ns => .ok (.int ns.sum) s
    | none => .stuck
  | .abs, [.int i] => .ok (.int (if i < 0 then -i else i)) s
  | .int, [.int i] => .ok (.int i) s
  | .int, [.bl b] => .ok (.int (if b = true then 1 else 0)) s
  | .tuple, [.tup ds] => .ok (.tup ds) s
  | .tuple, [x] => match s.items x with
    | some ds => .ok (.tup ds) s
    | none => .stuck
  | .list, [.tup ds] => .ok (.lst ds) s
  | .list, [x] => match s.items x with
    | some ds => .ok (.lst ds) s
    | none => .stuck
  | .sorted, [.dic ks _] => match s.pys ks with
    | some ps => if sortOk ps then .ok (.lst (ks.mergeSort (leD s))) s else .stuck
    | none => .stuck
  | .sorted, [x] => match s.items x with
    | some ds => match s.pys ds with
      | some ps => if (sortOk ps || sortFst ps) = true then .ok (.lst (ds.mergeSort (leD s))) s else .stuck
      | none => .stuck
    | none => .stuck
  | .repr, [x] => match s.py x with
    | some p => if p.showable && !p.hasDict && decide (p.depth ≤ 64) && decide (p.shown.length ≤ sizeLine) then .ok (.str p.shown) s else .stuck
    | none => .stuck
  | .str, [.int i] => if i.natAbs.log2 < 1920 then .ok (.str (toString i)) s else .stuck
  | .divmod, [.int i, .int j] => if 0 < j ∧ j < 1073741824 then .ok (.tup [.int (i / j), .int (i % j)]) s else .stuck
  | _, _ => .stuck

def firstIx (p : PyData) : Nat → List PyData → Option Nat
  | _, [] => none
  | i, q :: r => if PyData.eqv q p then some i else firstIx p (i + 1) r
def notRef (n : Nat) : D → Bool
  | .ref k => decide (k ≠ n)
  | _ => true
def evMt (m : Mt) (x : D) (as : List D) (s : S) : Res D := match m, x, as with
  | .append, .ref n, [d] => match s.get n with
    | some (.lst false ds) => if ds.length < sizeLine then .ok .non (s.put n (.lst false (ds ++ [d]))) else .stuck
    | _ => .stuck
  | .extend, .ref n, [y] => match s.get n, s.items y with
    | some (.lst false ds), some es => if fits (ds ++ es) && notRef n y then .ok .non (s.put n (.lst false (ds ++ es))) else .stuck
    | _, _ => .stuck
  | .index, x, [d] => match s.items x with
    | some ds => match s.py d, s.pys ds with
      | some p, some ps => if SeqAt.shaped p && SeqAt.shaped (.list ps) then (match firstIx p 0 ps with
        | some i => .ok (.int i) s
        | none => .stuck) else .stuck
      | _, _ => .stuck
    | none => .stuck
  | _, _, _ => .stuck

/-- a dict's keys, values -/
def dicOf (x : D) (s : S) : Option (List D × List D) := match x with
  | .dic ks vs => some (ks, vs)
  | .ref n => match s.get n with
    | some (.dic _ ks vs) => some (ks, vs)
    | _ => none
  | _ => none
/-- a.get(b) -/
def evDget (x y : D) (s : S) : Res D := match dicOf x s, keyT y with
  | some (ks, vs), some q => match dget q ks vs with
    | some d => .ok d s
    | none => .ok .non s
  | _, _ => .stuck
/-- a[b] -/
def evIx (a b : D) (s : S) : Res D := match a, b with
  | .tup ds, .int i => match L2.atI ds i with
    | some d => .ok d s
    | none => .stuck
  | .dic ks vs, k => match keyT k with
    | some q => match dget q ks vs with
      | some d => .ok d s
      | none => .stuck
    | none => .stuck
  | .ref n, b => match s.get n, b with
    | some (.lst _ ds), .int i => match L2.atI ds i with
      | some d => .ok d s
      | none => .stuck
    | some (.dic _ ks vs), k => match keyT k with
      | some q => match dget q ks vs with
        | some d => .ok d s
        | none => .stuck
      | none => .stuck
    | _, _ => .stuck
  | .lst ds, .int i => match L2.atI ds i with
      | some d => .ok d s
      | none => .stuck
  | .inp ns, .int i => match L2.atI ns i with
      | some n => .ok (.int n) s
      | none => .stuck
  | _, _ => .stuck
/-- a[b] = v -/
def setIx (a b v : D) (s : S) : Option S := match a with
  | .ref n => match s.get n, b with
    | some (.lst false ds), .int i => (L2.ixN ds.length i).map fun j => s.put n (.lst false (ds.set j v))
    | some (.dic false ks vs), k => match keyT k with
      | some q => if ks.length < sizeLine then some (s.put n (.dic false (dput q k v ks vs).1 (dput q k v ks vs).2)) else none
      | none => none
    | _, _ => none
  | _ => none
def cutD (ds : List D) (lo hi : Option Int) : List D := (ds.drop (HT.sIx ds.length 0 lo)).take (HT.sIx ds.length ds.length hi - HT.sIx ds.length 0 lo)
def evSl (a : D) (lo hi : Option Int) (s : S) : Res D := match a with
  | .tup ds => .ok (.tup (cutD ds lo hi)) s
  | .inp ns => .ok (.lst (cutD (ns.map .int) lo hi)) s
  | x => match s.items x with
    | some ds => .ok (.lst (cutD ds lo hi)) s
    | none => .stuck
def evRev (a : D) (s : S) : Res D := match s.items a with
  | some ds => .ok (.lst ds.reverse) s
  | none => .stuck
def evFrz (a : D) (s : S) : Res D := match a with
  | .ref n => match s.get n with
    | some (.lst _ ds) => .ok (.lst ds) (s.put n (.lst true ds))
    | some (.dic _ ks vs) => .ok (.dic ks vs) (s.put n (.dic true ks vs))
    | none => .stuck
  | d => .ok d s

/-! ### the language -/
mutual
inductive ME where
  | slot (i : Nat)
  | cst (d : D)
  | frz (e : ME)
  | bin (o : Bo) (a b : ME)
  | binc (o : Bo) (a b : ME)
  | neg (a : ME)
  | cmp (o : Co) (a b : ME)
  | chain (o p : Co) (a b c : ME)
  | no (a : ME)
  | and (a b : ME)
  | or (a b : ME)
  | ife (t a b : ME)
  | tup (es : MEs)
  | lst (es : MEs)
  | cell (es : MEs)
  | dic0
  | ix (a b : ME)
  | sl (a : ME) (lo hi : MO)
  | rev (a : ME)
  | isi (a : ME) (ts : List Ty)
  | call (f : Nat) (es : MEs)
  | callK (f : Nat) (es : MEs) (perm : List Nat)
  | lcall (i : Nat) (es : MEs)
  | bi (b : Bi) (es : MEs)
  | dget (a b : ME)
  | mt (m : Mt) (a : ME) (es : MEs)
  | comp (mu : Bool) (g : MG) (src : MI) (t : MO) (e : ME) (own : List Nat)
  | dcomp (mu : Bool) (g : MG) (src : MI) (t : MO) (k v : ME) (own : List Nat)
inductive MEs where
  | nil
  | cons (e : ME) (r : MEs)
inductive MO where
  | no
  | so (e : ME)
inductive MG where
  | nm (i : Nat)
  | tp (gs : MGs)
  | sub (a b : ME)
inductive MGs where
  | nil
  | cons (g : MG) (r : MGs)
inductive MI where
  | it (e : ME)
  | lv (e : ME)
  | lve (e : ME)
  | rng (e : ME)
  | rng2 (a b : ME)
  | zip2 (a b : ME)
  | zip3 (a b c : ME)
  | enu (e : ME)
end
mutual
inductive MS where
  | set (i : Nat) (e : ME)
  | asg (g : MG) (e : ME)
  | par2 (i j : Nat) (a b : ME)
  | par3 (i j k : Nat) (a b c : ME)
  | aug (i : Nat) (o : Bo) (e : ME)
  | augS (a i : ME) (o : Bo) (e : ME)
  | ex (e : ME)
  | ret (e : ME)
  | ifs (t : ME) (a b : MSs)
  | fors (g : MG) (src : MI) (b : MSs)
  | whl (t : ME) (b : MSs)
  | brk
  | cnt
  | pas
  | never
  | gfrz (i : Nat)
inductive MSs where
  | nil
  | cons (s : MS) (r : MSs)
end

abbrev Tau := List (Option D)
structure Cc where
  call : Nat → List D → S → Res D
  wf : Nat
  has : Nat → Bool
def wipeT (τ : Tau) : List Nat → Tau
  | [] => τ
  | v :: vs => (wipeT τ vs).set v none

/-- [f d for d in ds if ..]: f gives none where the test fails -/
def loopC (f : D → S → Res (Option D)) : List D → S → Res (List D)
  | [], s => .ok [] s
  | d :: ds, s => match f d s with
    | .ok o s1 => match loopC f ds s1 with
      | .ok r s2 => .ok (match o with | some x => x :: r | none => r) s2
      | .exc x s2 => .exc x s2
      | .stuck => .stuck
    | .exc x s1 => .exc x s1
    | .stuck => .stuck
def loopK (f : D → S → Res (Option (D × D))) : List D → List D → List D → S → Res (List D × List D)
  | [], ks, vs, s => .ok (ks, vs) s
  | d :: ds, ks, vs, s => match f d s with
    | .ok none s1 => loopK f ds ks vs s1
    | .ok (some (k, v)) s1 => match keyT k with
      | some q => loopK f ds (dput q k v ks vs).1 (dput q k v ks vs).2 s1
      | none => .stuck
    | .exc x s1 => .exc x s1
    | .stuck => .stuck
def zipD : List D → List D → List D
  | a :: as, b :: bs => .tup [a, b] :: zipD as bs
  | _, _ => []
def zipD3 : List D → List D → List D → List D
  | a :: as, b :: bs, c :: cs => .tup [a, b, c] :: zipD3 as bs cs
  | _, _, _ => []
def enumD : Nat → List D → List D
  | _, [] => []
  | i, d :: ds => .tup [.int (i : Nat), d] :: enumD (i + 1) ds
def rangeD (lo : Int) : Nat → List D
  | 0 => []
  | n + 1 => .int lo :: rangeD (lo + 1) n
def small (i : Int) : Bool := decide (-(2 ^ 62) ≤ i) && decide (i < 2 ^ 62)
/-- what may be walked: pure lists and tuples, the keys of a pure dict, frozen cells -/
def S.walk (s : S) : D → Option (List D)
  | .lst ds => some ds
  | .tup ds => some ds
  | .dic ks _ => some ks
  | .ref n => match s.get n with
    | some (.lst true ds) => some ds
    | _ => none
  | _ => none
def S.walkS (s : S) : D → Option (List D)
  | .lst ds => some ds
  | .tup ds => some ds
  | .ref n => match s.get n with
    | some (.lst true ds) => some ds
    | _ => none
  | _ => none
def isTupD : D → Bool
  | .tup _ => true
  | _ => false
def permD (as : List D) (perm : List Nat) : Option (List D) := perm.mapM fun i => as[i]?

def lenMEs : MEs → Nat
  | .nil => 0
  | .cons _ r => lenMEs r + 1
mutual
def evG (c : Cc) : MG → D → Tau → S → Res Tau
  | .nm i, d, τ, s => .ok (τ.set i (some d)) s
  | .tp gs, d, τ, s => match d with
    | .tup ds => evGs c gs ds τ s
    | _ => .stuck
  | .sub a b, d, τ, s => match evE c a τ s with
    | .ok x s1 => match evE c b τ s1 with
      | .ok y s2 => match setIx x y d s2 with
        | some s3 => .ok τ s3
        | none => .stuck
      | _ => .stuck
    | _ => .stuck
def evGs (c : Cc) : MGs → List D → Tau → S → Res Tau
  | .nil, [], τ, s => .ok τ s
  | .nil, _ :: _, _, _ => .stuck
  | .cons _ _, [], _, _ => .stuck
  | .cons g r, d :: ds, τ, s => match evG c g d τ s with
    | .ok τ1 s1 => evGs c r ds τ1 s1
    | _ => .stuck
def evE (c : Cc) : ME → Tau → S → Res D
  | .slot i, τ, s => match τ[i]? with
    | some (some d) => .ok d s
    | _ => .stuck
  | .cst d, _, s => .ok d s
  | .frz e, τ, s => (evE c e τ s).bind evFrz
  | .bin o a b, τ, s => (evE c a τ s).bind fun x s1 => (evE c b τ s1).bind fun y s2 => evBin o x y s2
  | .binc o a b, τ, s => (evE c a τ s).bind fun x s1 => (evE c b τ s1).bind fun y s2 => evBinC o x y s2
  | .neg a, τ, s => (evE c a τ s).bind fun x s1 => match x with
    | .int i => .ok (.int (-i)) s1
    | _ => .stuck
  | .cmp o a b, τ, s => (evE c a τ s).bind fun x s1 => (evE c b τ s1).bind fun y s2 => evCmp o x y s2
  | .chain o p a b e, τ, s => (evE c a τ s).bind fun x s1 => (evE c b τ s1).bind fun y s2 => (evCmp o x y s2).bind fun r s3 => match r with
    | .bl true => (evE c e τ s3).bind fun z s4 => evCmp p y z s4
    | .bl false => .ok (.bl false) s3
    | _ => .stuck
  | .no a, τ, s => (evE c a τ s).bind fun x s1 => match x with
    | .bl b => .ok (.bl (!b)) s1
    | _ => .stuck
  | .and a b, τ, s => (evE c a τ s).bind fun x s1 => match x with
    | .bl true => (evE c b τ s1).bind fun y s2 => match y with
      | .bl r => .ok (.bl r) s2
      | _ => .stuck
    | .bl false => .ok (.bl false) s1
    | _ => .stuck
  | .or a b, τ, s => (evE c a τ s).bind fun x s1 => match x with
    | .bl false => (evE c b τ s1).bind fun y s2 => match y with
      | .bl r => .ok (.bl r) s2
      | _ => .stuck
    | .bl true => .ok (.bl true) s1
    | _ => .stuck
  | .ife t a b, τ, s => (evE c t τ s).bind fun x s1 => match x with
    | .bl true => evE c a τ s1
    | .bl false => evE c b τ s1
    | _ => .stuck
  | .tup es, τ, s => (evEs c es τ s).bind fun ds s1 => if fits ds then .ok (.tup ds) s1 else .stuck
  | .lst es, τ, s => (evEs c es τ s).bind fun ds s1 => if fits ds then .ok (.lst ds) s1 else .stuck
  | .cell es, τ, s => (evEs c es τ s).bind fun ds s1 => if fits ds then .ok (.ref s1.nx) (s1.add (.lst false ds)) else .stuck
  | .dic0, _, s => .ok (.ref s.nx) (s.add (.dic false [] []))
  | .ix a b, τ, s => (evE c a τ s).bind fun x s1 => (evE c b τ s1).bind fun y s2 => evIx x y s2
  | .sl a lo hi, τ, s => (evE c a τ s).bind fun x s1 => (evO c lo τ s1).bind fun l s2 => (evO c hi τ s2).bind fun h s3 => evSl x l h s3
  | .rev a, τ, s => (evE c a τ s).bind evRev
  | .isi a ts, τ, s => (evE c a τ s).bind fun x s1 => match s1.tyOf x with
    | some t => .ok (.bl (ts.any fun u => t.isa u)) s1
    | none => .stuck
  | .call f es, τ, s => (evEs c es τ s).bind fun ds s1 => c.call f ds s1
  | .callK f es perm, τ, s => (evEs c es τ s).bind fun ds s1 => if ds.length = lenMEs es then (match permD ds perm with
    | some as => c.call f as s1
    | none => .stuck) else .stuck
  | .lcall i es, τ, s => match τ[i]? with
    | some (some (.fn f)) => if c.has f then (evEs c es τ s).bind fun ds s1 => c.call f ds s1 else .stuck
    | _ => .stuck
  | .bi b es, τ, s => (evEs c es τ s).bind fun ds s1 => evBi b ds s1
  | .dget a b, τ, s => (evE c a τ s).bind fun x s1 => if (dicOf x s1).isSome then (evE c b τ s1).bind fun y s2 => evDget x y s2 else .stuck
  | .mt m a es, τ, s => (evE c a τ s).bind fun x s1 => if (s1.items x).isSome then (evEs c es τ s1).bind fun ds s2 => evMt m x ds s2 else .stuck
  | .comp mu g src t e own, τ, s => (evI c src τ s).bind fun ds s1 => if fits ds then
      (match loopC (fun d s2 => (evG c g d (wipeT τ own) s2).bind fun τ1 s3 => (evT c t τ1 s3).bind fun b s4 => if b then (evE c e τ1 s4).bind fun y s5 => .ok (some y) s5 else .ok none s4) ds s1 with
      | .ok r s2 => if mu then .ok (.ref s2.nx) (s2.add (.lst false r)) else .ok (.lst r) s2
      | _ => .stuck)
    else .stuck
  | .dcomp mu g src t k v own, τ, s => (evI c src τ s).bind fun ds s1 => if fits ds then
      (match loopK (fun d s2 => (evG c g d (wipeT τ own) s2).bind fun τ1 s3 => (evT c t τ1 s3).bind fun b s4 => if b then (evE c k τ1 s4).bind fun x s5 => (evE c v τ1 s5).bind fun y s6 => .ok (some (x, y)) s6 else .ok none s4) ds [] [] s1 with
      | .ok (ks, vs) s2 => if mu then .ok (.ref s2.nx) (s2.add (.dic false ks vs)) else .ok (.dic ks vs) s2
      | _ => .stuck)
    else .stuck
def evEs (c : Cc) : MEs → Tau → S → Res (List D)
  | .nil, _, s => .ok [] s
  | .cons e r, τ, s => (evE c e τ s).bind fun d s1 => (evEs c r τ s1).bind fun ds s2 => .ok (d :: ds) s2
def evO (c : Cc) : MO → Tau → S → Res (Option Int)
  | .no, _, s => .ok none s
  | .so e, τ, s => (evE c e τ s).bind fun d s1 => match d with
    | .int i => .ok (some i) s1
    | _ => .stuck
def evT (c : Cc) : MO → Tau → S → Res Bool
  | .no, _, s => .ok true s
  | .so e, τ, s => (evE c e τ s).bind fun d s1 => match d with
    | .bl b => .ok b s1
    | _ => .stuck
def evI (c : Cc) : MI → Tau → S → Res (List D)
  | .it e, τ, s => (evE c e τ s).bind fun d s1 => match s1.walk d with
    | some ds => .ok ds s1
    | none => .stuck
  | .lv e, τ, s => (evE c e τ s).bind fun d s1 => match s1.items d with
    | some ds => .ok ds s1
    | none => .stuck
  | .lve e, τ, s => (evE c e τ s).bind fun d s1 => match s1.items d with
    | some ds => .ok (enumD 0 ds) s1
    | none => .stuck
  | .rng e, τ, s => (evE c e τ s).bind fun d s1 => match d with
    | .int j => if small j then .ok (rangeD 0 j.toNat) s1 else .stuck
    | _ => .stuck
  | .rng2 a b, τ, s => (evE c a τ s).bind fun x s1 => (evE c b τ s1).bind fun y s2 => match x, y with
    | .int i, .int j => if small i && small j then .ok (rangeD i (j - i).toNat) s2 else .stuck
    | _, _ => .stuck
  | .zip2 a b, τ, s => (evE c a τ s).bind fun x s1 => (evE c b τ s1).bind fun y s2 => match s2.walkS x, s2.walkS y with
    | some xs, some ys => .ok (zipD xs ys) s2
    | _, _ => .stuck
  | .zip3 a b e, τ, s => (evE c a τ s).bind fun x s1 => (evE c b τ s1).bind fun y s2 => (evE c e τ s2).bind fun z s3 => match s3.walkS x, s3.walkS y, s3.walkS z with
    | some xs, some ys, some zs => .ok (zipD3 xs ys zs) s3
    | _, _, _ => .stuck
  | .enu e, τ, s => (evE c e τ s).bind fun d s1 => match s1.walkS d with
    | some ds => .ok (enumD 0 ds) s1
    | none => .stuck
end

/-- a statement's end -/
inductive Fl where
  | nx (τ : Tau) (s : S)
  | rt (d : D) (s : S)
  | bk (τ : Tau) (s : S)
  | ct (τ : Tau) (s : S)
  | exc (x : Exc) (τ : Tau) (s : S)
  | stuck
@[reducible] def Fl.of {α : Type} (r : Res α) (τ : Tau) (f : α → S → Fl) : Fl := match r with
  | .ok a s => f a s
  | .exc x s => .exc x τ s
  | .stuck => .stuck
@[reducible] def Fl.next (f : Fl) (g : Tau → S → Fl) : Fl := match f with
  | .nx τ s => g τ s
  | f => f
/-- name op= e -/
def augF (o : Bo) (n : Int) (i : Nat) (τ : Tau) (d : D) (s : S) : Fl := match o, d with
  | .add, .int m => .nx (τ.set i (some (.int (n + m)))) s
  | .sub, .int m => .nx (τ.set i (some (.int (n - m)))) s
  | _, _ => .stuck
/-- for d in ds: g; body -/
def loopF (g : D → Tau → S → Res Tau) (b : Tau → S → Fl) : List D → Tau → S → Fl
  | [], τ, s => .nx τ s
  | d :: ds, τ, s => match g d τ s with
    | .ok τ1 s1 => match b τ1 s1 with
      | .nx τ2 s2 => loopF g b ds τ2 s2
      | .ct τ2 s2 => loopF g b ds τ2 s2
      | .bk τ2 s2 => .nx τ2 s2
      | .rt d s2 => .rt d s2
      | .exc x τ2 s2 => .exc x τ2 s2
      | .stuck => .stuck
    | .exc x s1 => .exc x τ s1
    | .stuck => .stuck
def loopW (t : Tau → S → Res D) (b : Tau → S → Fl) : Nat → Tau → S → Fl
  | 0, _, _ => .stuck
  | k + 1, τ, s => match t τ s with
    | .ok (.bl true) s1 => match b τ s1 with
      | .nx τ2 s2 => loopW t b k τ2 s2
      | .ct τ2 s2 => loopW t b k τ2 s2
      | .bk τ2 s2 => .nx τ2 s2
      | .rt d s2 => .rt d s2
      | .exc x τ2 s2 => .exc x τ2 s2
      | .stuck => .stuck
    | .ok (.bl false) s1 => .nx τ s1
    | .ok _ _ => .stuck
    | .exc x s1 => .exc x τ s1
    | .stuck => .stuck
def augZ (o : Bo) (n m : Int) : Option Int := match o with
  | .add => some (n + m)
  | .sub => some (n - m)
  | _ => none
/-- x[y], a number of a list -/
def augGet (x y : D) (s : S) : Option Int := match y with
  | .int k => if 0 ≤ k ∧ k < 2 ^ 63 then (match s.items x with
    | some ds => match ds[k.toNat]? with
      | some (.int n) => some n
      | _ => none
    | none => none) else none
  | _ => none
def augPut (o : Bo) (x y : D) (n : Int) (τ : Tau) (d : D) (s : S) : Fl := match d with
  | .int m => match augZ o n m with
    | some z => match setIx x y (.int z) s with
      | some s1 => .nx τ s1
      | none => .stuck
    | none => .stuck
  | _ => .stuck
mutual
def evS (c : Cc) : MS → Tau → S → Fl
  | .set i e, τ, s => Fl.of (evE c e τ s) τ fun d s1 => .nx (τ.set i (some d)) s1
  | .asg g e, τ, s => Fl.of (evE c e τ s) τ fun d s1 => Fl.of (evG c g d τ s1) τ fun τ1 s2 => .nx τ1 s2
  | .par2 i j a b, τ, s => Fl.of (evE c a τ s) τ fun x s1 => Fl.of (evE c b τ s1) τ fun y s2 => .nx ((τ.set i (some x)).set j (some y)) s2
  | .par3 i j k a b e, τ, s => Fl.of (evE c a τ s) τ fun x s1 => Fl.of (evE c b τ s1) τ fun y s2 => Fl.of (evE c e τ s2) τ fun z s3 => .nx (((τ.set i (some x)).set j (some y)).set k (some z)) s3
  | .aug i o e, τ, s => match τ[i]? with
    | some (some (.int n)) => Fl.of (evE c e τ s) τ (augF o n i τ)
    | _ => .stuck
  | .augS a i o e, τ, s => Fl.of (evE c a τ s) τ fun x s1 => Fl.of (evE c i τ s1) τ fun y s2 => match augGet x y s2 with
    | some n => Fl.of (evE c e τ s2) τ (augPut o x y n τ)
    | none => .stuck
  | .ex e, τ, s => Fl.of (evE c e τ s) τ fun _ s1 => .nx τ s1
  | .ret e, τ, s => Fl.of (evE c e τ s) τ fun d s1 => .rt d s1
  | .ifs t a b, τ, s => Fl.of (evE c t τ s) τ fun d s1 => match d with
    | .bl true => evSs c a τ s1
    | .bl false => evSs c b τ s1
    | _ => .stuck
  | .fors g src b, τ, s => Fl.of (evI c src τ s) τ fun ds s1 => loopF (evG c g) (evSs c b) ds τ s1
  | .whl t b, τ, s => loopW (evE c t) (evSs c b) c.wf τ s
  | .brk, τ, s => .bk τ s
  | .cnt, τ, s => .ct τ s
  | .pas, τ, s => .nx τ s
  | .never, _, _ => .stuck
  | .gfrz i, τ, s => match τ[i]? with
    | some (some d) => match evFrz d s with
      | .ok d1 s1 => .nx (τ.set i (some d1)) s1
      | _ => .stuck
    | _ => .stuck
def evSs (c : Cc) : MSs → Tau → S → Fl
  | .nil, τ, s => .nx τ s
  | .cons a r, τ, s => Fl.next (evS c a τ s) fun τ1 s1 => evSs c r τ1 s1
end

/-- a def: its parameters' number, all its names' number, its body -/
structure Fd where
  ps : Nat
  ns : Nat
  body : MSs
def startT (ns : Nat) (as : List D) : Tau := as.map some ++ List.replicate (ns - as.length) none
def endOf (n : Nat) : Fl → Res D
  | .rt d s => .ok (clean n d s).1 (clean n d s).2
  | .nx _ s => .ok (clean n .non s).1 (clean n .non s).2
  | .exc x _ s => .exc x s
  | _ => .stuck
def callN (tab : Nat → Option Fd) (wf : Nat) : Nat → Nat → List D → S → Res D
  | 0, _, _, _ => .stuck
  | n + 1, f, as, s => match tab f with
    | some fd => if as.length = fd.ps then endOf s.nx (evSs ⟨callN tab wf n, wf, fun f => (tab f).isSome⟩ fd.body (startT fd.ns as) s) else .stuck
    | none => .stuck
end Mi
set_option Elab.async false
set_option linter.all false
set_option maxRecDepth 100000
set_option maxHeartbeats 1000000
/-! Mi2: what a value of the small language stands for in the hand layer's heap. -/
namespace Mi
open PySem PySem.Spec PyProof.Rows L2

abbrev Mm := Nat → Option Addr
/-- where the program's defs and classes stand -/
structure Tb where
  P : Program
  w : World
  K : PySem.W.Frag
  fa : Nat → Addr
  ca : Nat → Addr

abbrev nk (T : Tb) := nestedKind T.P T.w
/-- the object at a is a dict with tuple keys: the keys, where they stand, the values -/
def DicV (T : Tb) (a : Addr) (kvs : List (NestedKey × Addr × V)) (ho : HO) : Prop :=
  ∃ (ob : Obj) (es : Array DictEntry) (ep : Nat) (xs : List (NestedKey × Addr × Value)), ho = .ext (fun h => h.get? a = some ob) ∧ ob.ExactDict ∧ ob.data = .dict es ep ∧ es.toList = xs.map (entryOfKey (nk T)) ∧
    (xs.map (·.1)).Nodup ∧ (a == sysModules) = false ∧ xs.length ≤ sizeLine ∧ Paired (fun (p : NestedKey × Addr × V) (q : NestedKey × Addr × Value) => p.1 = q.1 ∧ p.2.1 = q.2.1 ∧ RelV p.2.2 q.2.2) kvs xs

mutual
inductive Rp (T : Tb) (G : Hp) (m : Mm) : D → V → Prop
  | non : Rp T G m .non .non
  | bl (b : Bool) : Rp T G m (.bl b) (.bl b)
  | int (i : Int) : Rp T G m (.int i) (.int i)
  | str (x : Str) : Rp T G m (.str x) (.str x)
  | tup {a : Addr} {vs : List V} {ds : List D} : SqT T.K G a vs → Rps T G m ds vs → Rp T G m (.tup ds) (.ref a)
  | lst {a : Addr} {vs : List V} {ds : List D} : G a = some (.lst vs) → Rps T G m ds vs → Rp T G m (.lst ds) (.ref a)
  | dic {a : Addr} {ho : HO} {kvs : List (NestedKey × Addr × V)} {ks vs : List D} : G a = some ho → DicV T a kvs ho → Rps T G m ks (kvs.map fun p => V.ref p.2.1) → ks.map keyT = kvs.map (fun p => some p.1) →
      Rps T G m vs (kvs.map fun p => p.2.2) → Rp T G m (.dic ks vs) (.ref a)
  | ref {n : Nat} {a : Addr} : m n = some a → Rp T G m (.ref n) (.ref a)
  | fn (i : Nat) : Rp T G m (.fn i) (.ref (T.fa i))
  | ty (t : Ty) : Rp T G m (.ty t) (.ty t.nm)
  | inp {a : Addr} {ns : List Int} : SqL T.K G a (ns.map V.int) → Rp T G m (.inp ns) (.ref a)
inductive Rps (T : Tb) (G : Hp) (m : Mm) : List D → List V → Prop
  | nil : Rps T G m [] []
  | cons {d : D} {v : V} {ds : List D} {vs : List V} : Rp T G m d v → Rps T G m ds vs → Rps T G m (d :: ds) (v :: vs)
end

def Sub (G H : Hp) : Prop := ∀ a o, G a = some o → H a = some o
theorem Sub.refl (G : Hp) : Sub G G := fun _ _ e => e
theorem Sub.trans {G H I : Hp} (a : Sub G H) (b : Sub H I) : Sub G I := fun c o e => b c o (a c o e)
structure Ext (G : Hp) (m : Mm) (G' : Hp) (m' : Mm) : Prop where
  g : Sub G G'
  m : ∀ n a, m n = some a → m' n = some a
theorem Ext.refl (G : Hp) (m : Mm) : Ext G m G m := ⟨Sub.refl G, fun _ _ e => e⟩
theorem Ext.trans {G G1 G2 : Hp} {m m1 m2 : Mm} (a : Ext G m G1 m1) (b : Ext G1 m1 G2 m2) : Ext G m G2 m2 := ⟨a.g.trans b.g, fun n c e => b.m n c (a.m n c e)⟩

theorem Rd.sub {G H : Hp} {a : Addr} {u : HO} (k : Sub G H) (r : Rd G a u) : Rd H a u := by
  rcases r with e | ⟨o, e⟩
  · exact .inl (k _ _ e)
  · exact .inr ⟨o, k _ _ e⟩
theorem SqL.sub {K : PySem.W.Frag} {G H : Hp} {a : Addr} {xs : List V} (k : Sub G H) (r : SqL K G a xs) : SqL K H a xs := by
  rcases r with e | e
  · exact .inl (Rd.sub k e)
  · exact .inr e
theorem SqT.sub {K : PySem.W.Frag} {G H : Hp} {a : Addr} {xs : List V} (k : Sub G H) (r : SqT K G a xs) : SqT K H a xs := by
  rcases r with e | e
  · exact .inl (Rd.sub k e)
  · exact .inr e

section
variable {T : Tb} {G G' H : Hp} {m m' : Mm}
mutual
theorem Rp.mono (x : Ext G m G' m') : ∀ {d : D} {v : V}, Rp T G m d v → Rp T G' m' d v
  | _, _, .non => .non
  | _, _, .bl b => .bl b
  | _, _, .int i => .int i
  | _, _, .str s => .str s
  | _, _, .tup h r => .tup (SqT.sub x.g h) (Rps.mono x r)
  | _, _, .lst h r => .lst (x.g _ _ h) (Rps.mono x r)
  | _, _, .dic h1 h2 h3 h4 h5 => .dic (x.g _ _ h1) h2 (Rps.mono x h3) h4 (Rps.mono x h5)
  | _, _, .ref e => .ref (x.m _ _ e)
  | _, _, .fn i => .fn i
  | _, _, .ty t => .ty t
  | _, _, .inp h => .inp (SqL.sub x.g h)
theorem Rps.mono (x : Ext G m G' m') : ∀ {ds : List D} {vs : List V}, Rps T G m ds vs → Rps T G' m' ds vs
  | _, _, .nil => .nil
  | _, _, .cons h r => .cons (Rp.mono x h) (Rps.mono x r)
end
mutual
/-- the cells from n on forgotten -/
theorem Rp.cut (n : Nat) (hm : ∀ k, k < n → m k = m' k) : ∀ {d : D} {v : V}, below n d = true → Rp T G m d v → Rp T G m' d v
  | _, _, _, .non => .non
  | _, _, _, .bl b => .bl b
  | _, _, _, .int i => .int i
  | _, _, _, .str s => .str s
  | _, _, h, .tup e r => .tup e (Rps.cut n hm (by simpa [below] using h) r)
  | _, _, h, .lst e r => .lst e (Rps.cut n hm (by simpa [below] using h) r)
  | _, _, h, .dic h1 h2 h3 h4 h5 => by
    have q := Bool.and_eq_true_iff.mp (show (belows n _ && belows n _) = true from by simpa [below] using h)
    exact .dic h1 h2 (Rps.cut n hm q.1 h3) h4 (Rps.cut n hm q.2 h5)
  | _, _, h, .ref e => .ref (by rw [← hm _ (of_decide_eq_true (by simpa [below] using h))]; exact e)
  | _, _, _, .fn i => .fn i
  | _, _, _, .ty t => .ty t
  | _, _, _, .inp h => .inp h
theorem Rps.cut (n : Nat) (hm : ∀ k, k < n → m k = m' k) : ∀ {ds : List D} {vs : List V}, belows n ds = true → Rps T G m ds vs → Rps T G m' ds vs
  | _, _, _, .nil => .nil
  | _, _, h, .cons a r => by
    have q := Bool.and_eq_true_iff.mp (show (below n _ && belows n _) = true from by simpa [belows] using h)
    exact .cons (Rp.cut n hm q.1 a) (Rps.cut n hm q.2 r)
end
theorem Rps.length : ∀ {ds : List D} {vs : List V}, Rps T G m ds vs → ds.length = vs.length
  | _, _, .nil => rfl
  | _, _, .cons _ r => congrArg Nat.succ (Rps.length r)
theorem Rps.get : ∀ {ds : List D} {vs : List V} {i : Nat} {d : D}, Rps T G m ds vs → ds[i]? = some d → ∃ v, vs[i]? = some v ∧ Rp T G m d v
  | _, _, 0, _, .cons h _, e => ⟨_, rfl, by simp at e; exact e ▸ h⟩
  | _, _, i + 1, _, .cons _ r, e => by
    obtain ⟨v, e1, e2⟩ := Rps.get (i := i) r (by simpa using e)
    exact ⟨v, by simpa using e1, e2⟩
theorem Rps.get' : ∀ {ds : List D} {vs : List V} {i : Nat} {v : V}, Rps T G m ds vs → vs[i]? = some v → ∃ d, ds[i]? = some d ∧ Rp T G m d v
  | _, _, 0, _, .cons h _, e => ⟨_, rfl, by simp at e; exact e ▸ h⟩
  | _, _, i + 1, _, .cons _ r, e => by
    obtain ⟨v, e1, e2⟩ := Rps.get' (i := i) r (by simpa using e)
    exact ⟨v, by simpa using e1, e2⟩
theorem Rps.append : ∀ {ds es : List D} {vs ws : List V}, Rps T G m ds vs → Rps T G m es ws → Rps T G m (ds ++ es) (vs ++ ws)
  | _, _, _, _, .nil, s => s
  | _, _, _, _, .cons h r, s => .cons h (Rps.append r s)
theorem Rps.take : ∀ {ds : List D} {vs : List V} (n : Nat), Rps T G m ds vs → Rps T G m (ds.take n) (vs.take n)
  | _, _, 0, _ => .nil
  | _, _, _ + 1, .nil => .nil
  | _, _, n + 1, .cons h r => .cons h (Rps.take n r)
theorem Rps.drop : ∀ {ds : List D} {vs : List V} (n : Nat), Rps T G m ds vs → Rps T G m (ds.drop n) (vs.drop n)
  | _, _, 0, r => r
  | _, _, _ + 1, .nil => .nil
  | _, _, n + 1, .cons _ r => Rps.drop n r
theorem Rps.set {d : D} {v : V} (h : Rp T G m d v) : ∀ {ds : List D} {vs : List V} (i : Nat), Rps T G m ds vs → Rps T G m (ds.set i d) (vs.set i v)
  | _, _, _, .nil => .nil
  | _, _, 0, .cons _ r => .cons h r
  | _, _, i + 1, .cons a r => .cons a (Rps.set h i r)
theorem Rps.reverse {ds : List D} {vs : List V} (h : Rps T G m ds vs) : Rps T G m ds.reverse vs.reverse := by
  induction ds generalizing vs with
  | nil => cases h; exact .nil
  | cons d ds ih =>
    cases h with
    | cons a r =>
      rw [List.reverse_cons, List.reverse_cons]
      exact Rps.append (ih r) (.cons a .nil)
end

/-- what stands in a cell -/
def CellAt (T : Tb) (G : Hp) (m : Mm) (H : Hp) (a : Addr) : Cl → Prop
  | .lst fz ds => ∃ vs, H a = some (.lst vs) ∧ Rps T G m ds vs ∧ (fz = true → G a = some (.lst vs)) ∧ (fz = false → G a = none)
  | .dic fz ks vs => ∃ ho kvs, H a = some ho ∧ DicV T a kvs ho ∧ Rps T G m ks (kvs.map fun p => V.ref p.2.1) ∧ ks.map keyT = kvs.map (fun p => some p.1) ∧ Rps T G m vs (kvs.map fun p => p.2.2) ∧
      (fz = true → G a = some ho) ∧ (fz = false → G a = none)
/-- the state: F is what others have there and stays as it is, G what changes no more, m where the cells stand -/
structure R (T : Tb) (F G : Hp) (m : Mm) (s : S) (H : Hp) : Prop where
  gH : Sub G H
  fH : Sub F H
  fG : ∀ a o, F a = some o → G a = none
  cell : ∀ n c, s.get n = some c → ∃ a, m n = some a ∧ CellAt T G m H a c ∧ F a = none
  inj : ∀ n k a, n ≠ k → (s.get n).isSome = true → (s.get k).isSome = true → m n = some a → m k = some a → False
  lt : ∀ n, (s.get n).isSome = true → n < s.nx
  fresh : ∀ n, s.nx ≤ n → m n = none

theorem Sub.upd {G H : Hp} (k : Sub G H) {p : Addr} {o : HO} (hp : H p = none) : Sub G (upd H p o) := fun a u e => by
  rw [upd_ne (ne_of_none (k a u e) hp)]
  exact k a u e
theorem Sub.upd2 {G H : Hp} (k : Sub G H) {p : Addr} {o : HO} : Sub (L2.upd G p o) (L2.upd H p o) := fun a u e => by
  by_cases h : a = p
  · subst h
    rw [upd_same] at e ⊢
    exact e
  · rw [upd_ne h] at e ⊢
    exact k a u e
theorem none_of_sub {G H : Hp} (k : Sub G H) {a : Addr} (h : H a = none) : G a = none := by
  cases e : G a with
  | none => rfl
  | some o => rw [k a o e] at h; cases h

section
variable {T : Tb} {F G G' H : Hp} {m m' : Mm} {s : S} {a p : Addr} {o : HO} {c : Cl}
theorem Ext.upd {G : Hp} {m : Mm} {p : Addr} {o : HO} (h : G p = none) : Ext G m (L2.upd G p o) m := ⟨Sub.upd (Sub.refl G) h, fun _ _ e => e⟩
theorem CellAt.there (x : CellAt T G m H a c) : H a ≠ none := by
  cases c with
  | lst fz ds => obtain ⟨vs, e, _⟩ := x; rw [e]; simp
  | dic fz ks vs => obtain ⟨ho, kvs, e, _⟩ := x; rw [e]; simp
/-- a thing that changes no more is laid -/
theorem R.imm (r : R T F G m s H) (hp : H p = none) : R T F (upd G p o) m s (upd H p o) where
  gH := r.gH.upd2
  fH := r.fH.upd hp
  fG := fun b u e => by
    rw [upd_ne (ne_of_none (r.fH b u e) hp)]
    exact r.fG b u e
  cell := fun n c e => by
    obtain ⟨b, e1, e2, e3⟩ := r.cell n c e
    have hb : b ≠ p := fun z => by rw [z] at e2; exact e2.there hp
    refine ⟨b, e1, ?_, e3⟩
    have x : Ext G m (upd G p o) m := Ext.upd (none_of_sub r.gH hp)
    cases c with
    | lst fz ds =>
      obtain ⟨vs, h1, h2, h3, h4⟩ := e2
      exact ⟨vs, by rw [upd_ne hb]; exact h1, h2.mono x, fun z => by rw [upd_ne hb]; exact h3 z, fun z => by rw [upd_ne hb]; exact h4 z⟩
    | dic fz ks vs =>
      obtain ⟨ho, kvs, h1, h2, h3, h4, h5, h6, h7⟩ := e2
      exact ⟨ho, kvs, by rw [upd_ne hb]; exact h1, h2, h3.mono x, h4, h5.mono x, fun z => by rw [upd_ne hb]; exact h6 z, fun z => by rw [upd_ne hb]; exact h7 z⟩
  inj := r.inj
  lt := r.lt
  fresh := r.fresh
def mAdd (m : Mm) (n : Nat) (p : Addr) : Mm := fun k => if k = n then some p else m k
theorem Ext.add {G : Hp} {m : Mm} {n : Nat} {p : Addr} (h : m n = none) : Ext G m G (mAdd m n p) := ⟨Sub.refl G, fun k a e => by
  have : k ≠ n := fun z => by rw [z, h] at e; cases e
  show (if k = n then some p else m k) = some a
  rw [if_neg this]
  exact e⟩
theorem S.get_add (s : S) (c : Cl) (n : Nat) : (s.add c).get n = if n = s.nx then some c else s.get n := by
  show List.lookup n ((s.nx, c) :: s.cs) = _
  rw [List.lookup_cons]
  by_cases h : n = s.nx
  · rw [if_pos h, h]
    simp
  · have : (n == s.nx) = false := by simpa using h
    rw [this, if_neg h] <;> rfl
/-- a new cell -/
theorem R.add (r : R T F G m s H) (hp : H p = none) (hc : CellAt T G (mAdd m s.nx p) (upd H p o) p c) : R T F G (mAdd m s.nx p) (s.add c) (upd H p o) where
  gH := r.gH.upd hp
  fH := r.fH.upd hp
  fG := r.fG
  cell := fun n d e => by
    rw [S.get_add] at e
    by_cases h : n = s.nx
    · rw [if_pos h] at e
      cases e
      refine ⟨p, by unfold mAdd; rw [if_pos h], hc, none_of_sub r.fH hp⟩
    · rw [if_neg h] at e
      obtain ⟨b, e1, e2, e3⟩ := r.cell n d e
      have hb : b ≠ p := fun z => by rw [z] at e2; exact e2.there hp
      have x : Ext G m G (mAdd m s.nx p) := Ext.add (r.fresh _ (Nat.le_refl _))
      refine ⟨b, x.m _ _ e1, ?_, e3⟩
      cases d with
      | lst fz ds =>
        obtain ⟨vs, h1, h2, h3, h4⟩ := e2
        exact ⟨vs, by rw [upd_ne hb]; exact h1, h2.mono x, h3, h4⟩
      | dic fz ks vs =>
        obtain ⟨ho, kvs, h1, h2, h3, h4, h5, h6, h7⟩ := e2
        exact ⟨ho, kvs, by rw [upd_ne hb]; exact h1, h2, h3.mono x, h4, h5.mono x, h6, h7⟩
  inj := fun n k b hnk hn hk e1 e2 => by
    rw [S.get_add] at hn hk
    unfold mAdd at e1 e2
    by_cases h : n = s.nx
    · by_cases h' : k = s.nx
      · exact hnk (h.trans h'.symm)
      · rw [if_pos h] at e1
        rw [if_neg h'] at e2 hk
        obtain ⟨d, hd⟩ := Option.isSome_iff_exists.mp hk
        obtain ⟨b', e3, e4, _⟩ := r.cell k d hd
        rw [e2] at e3
        cases e3
        cases e1
        exact e4.there hp
    · by_cases h' : k = s.nx
      · rw [if_neg h] at e1 hn
        rw [if_pos h'] at e2
        obtain ⟨d, hd⟩ := Option.isSome_iff_exists.mp hn
        obtain ⟨b', e3, e4, _⟩ := r.cell n d hd
        rw [e1] at e3
        cases e3
        cases e2
        exact e4.there hp
      · rw [if_neg h] at e1 hn
        rw [if_neg h'] at e2 hk
        exact r.inj n k b hnk hn hk e1 e2
  lt := fun n hn => by
    rw [S.get_add] at hn
    show n < s.nx + 1
    by_cases h : n = s.nx
    · omega
    · rw [if_neg h] at hn
      exact Nat.lt_succ_of_lt (r.lt n hn)
  fresh := fun n hn => by
    have hn' : s.nx + 1 ≤ n := hn
    show (if n = s.nx then some p else m n) = none
    rw [if_neg (by omega)]
    exact r.fresh n (by omega)
theorem lookup_putC (n k : Nat) (c : Cl) : ∀ l : List (Nat × Cl), (putC n c l).lookup k = if k = n then (l.lookup n).map (fun _ => c) else l.lookup k
  | [] => by
    show List.lookup k [] = _
    split <;> simp
  | (j, d) :: r => by
    have ih := lookup_putC n k c r
    unfold putC
    by_cases hj : j = n
    · rw [if_pos hj]
      subst hj
      by_cases hk : k = j
      · subst hk
        simp [List.lookup]
      · have e : (k == j) = false := by simpa using hk
        rw [if_neg hk]
        simp [List.lookup, e]
    · rw [if_neg hj]
      have e0 : (n == j) = false := by simpa using fun z : n = j => hj z.symm
      by_cases hkj : k = j
      · subst hkj
        rw [if_neg hj]
        simp [List.lookup]
      · have e : (k == j) = false := by simpa using hkj
        simp only [List.lookup, e, e0]
        exact ih
theorem S.get_put {s : S} {n : Nat} {c : Cl} {d : Cl} (h : s.get n = some d) (k : Nat) : (s.put n c).get k = if k = n then some c else s.get k := by
  show (putC n c s.cs).lookup k = _
  rw [lookup_putC]
  have h' : s.cs.lookup n = some d := h
  rw [h']
  rfl
/-- a cell is written (it changes still), or frozen -/
theorem R.put {n : Nat} {d : Cl} (r : R T F G m s H) (hn : s.get n = some d) (hm : m n = some a) (hG : G a = none) (hc : CellAt T G m (upd H a o) a c) : R T F G m (s.put n c) (upd H a o) where
  gH := fun b u e => by
    have hb : b ≠ a := fun z => by rw [z, hG] at e; cases e
    rw [upd_ne hb]
    exact r.gH b u e
  fH := fun b u e => by
    have hb : b ≠ a := fun z => by
      obtain ⟨a', e1, _, e3⟩ := r.cell n d hn
      rw [hm] at e1
      cases e1
      rw [z, e3] at e
      cases e
    rw [upd_ne hb]
    exact r.fH b u e
  fG := r.fG
  cell := fun k e h => by
    rw [S.get_put hn] at h
    by_cases hk : k = n
    · rw [if_pos hk] at h
      cases h
      obtain ⟨a', e1, _, e3⟩ := r.cell n d hn
      rw [hm] at e1
      cases e1
      exact ⟨a, by rw [hk]; exact hm, hc, e3⟩
    · rw [if_neg hk] at h
      obtain ⟨b, e1, e2, e3⟩ := r.cell k e h
      have hb : b ≠ a := fun z => r.inj k n a hk (by rw [h]; rfl) (by rw [hn]; rfl) (by rw [← z]; exact e1) hm
      refine ⟨b, e1, ?_, e3⟩
      cases e with
      | lst fz ds =>
        obtain ⟨vs, h1, h2, h3, h4⟩ := e2
        exact ⟨vs, by rw [upd_ne hb]; exact h1, h2, h3, h4⟩
      | dic fz ks vs =>
        obtain ⟨ho, kvs, h1, h2, h3, h4, h5, h6, h7⟩ := e2
        exact ⟨ho, kvs, by rw [upd_ne hb]; exact h1, h2, h3, h4, h5, h6, h7⟩
  inj := fun j k b hjk hj hk e1 e2 => by
    rw [S.get_put hn] at hj hk
    refine r.inj j k b hjk ?_ ?_ e1 e2
    · by_cases z : j = n
      · rw [z, hn]; rfl
      · rw [if_neg z] at hj; exact hj
    · by_cases z : k = n
      · rw [z, hn]; rfl
      · rw [if_neg z] at hk; exact hk
  lt := fun k hk => by
    rw [S.get_put hn] at hk
    refine r.lt k ?_
    by_cases z : k = n
    · rw [z, hn]; rfl
    · rw [if_neg z] at hk; exact hk
  fresh := r.fresh
/-- a cell is frozen -/
theorem R.frz {n : Nat} {d : Cl} (r : R T F G m s H) (hn : s.get n = some d) (hm : m n = some a) (hG : G a = none) (hH : H a = some o) (hc : CellAt T (upd G a o) m H a c) : R T F (upd G a o) m (s.put n c) H where
  gH := fun b u e => by
    by_cases hb : b = a
    · subst hb
      rw [upd_same] at e
      cases e
      exact hH
    · rw [upd_ne hb] at e
      exact r.gH b u e
  fH := r.fH
  fG := fun b u e => by
    have hb : b ≠ a := fun z => by
      obtain ⟨a', e1, _, e3⟩ := r.cell n d hn
      rw [hm] at e1
      cases e1
      rw [z, e3] at e
      cases e
    rw [upd_ne hb]
    exact r.fG b u e
  cell := fun k e h => by
    rw [S.get_put hn] at h
    by_cases hk : k = n
    · rw [if_pos hk] at h
      cases h
      obtain ⟨a', e1, _, e3⟩ := r.cell n d hn
      rw [hm] at e1
      cases e1
      exact ⟨a, by rw [hk]; exact hm, hc, e3⟩
    · rw [if_neg hk] at h
      obtain ⟨b, e1, e2, e3⟩ := r.cell k e h
      have hb : b ≠ a := fun z => r.inj k n a hk (by rw [h]; rfl) (by rw [hn]; rfl) (by rw [← z]; exact e1) hm
      have x : Ext G m (upd G a o) m := Ext.upd hG
      refine ⟨b, e1, ?_, e3⟩
      cases e with
      | lst fz ds =>
        obtain ⟨vs, h1, h2, h3, h4⟩ := e2
        exact ⟨vs, h1, h2.mono x, fun z => by rw [upd_ne hb]; exact h3 z, fun z => by rw [upd_ne hb]; exact h4 z⟩
      | dic fz ks vs =>
        obtain ⟨ho, kvs, h1, h2, h3, h4, h5, h6, h7⟩ := e2
        exact ⟨ho, kvs, h1, h2, h3.mono x, h4, h5.mono x, fun z => by rw [upd_ne hb]; exact h6 z, fun z => by rw [upd_ne hb]; exact h7 z⟩
  inj := fun j k b hjk hj hk e1 e2 => by
    rw [S.get_put hn] at hj hk
    refine r.inj j k b hjk ?_ ?_ e1 e2
    · by_cases z : j = n
      · rw [z, hn]; rfl
      · rw [if_neg z] at hj; exact hj
    · by_cases z : k = n
      · rw [z, hn]; rfl
      · rw [if_neg z] at hk; exact hk
  lt := fun k hk => by
    rw [S.get_put hn] at hk
    refine r.lt k ?_
    by_cases z : k = n
    · rw [z, hn]; rfl
    · rw [if_neg z] at hk; exact hk
  fresh := r.fresh
end
end Mi
set_option Elab.async false
set_option linter.all false
set_option maxRecDepth 100000
set_option maxHeartbeats 1000000
/-! Mi3: reading values; what a call leaves. -/
namespace Mi
open PySem PySem.Spec PyProof.Rows L2

section
variable {T : Tb} {F G G' H : Hp} {m m' : Mm} {s : S} {a p : Addr} {o : HO} {c : Cl}
/-- a list that is read -/
theorem R.items (r : R T F G m s H) {d : D} {ds : List D} {v : V} (h : s.items d = some ds) (x : Rp T G m d v) : ∃ a vs, v = .ref a ∧ H a = some (.lst vs) ∧ Rps T G m ds vs := by
  cases x with
  | @lst a vs ds' h1 h2 =>
    simp only [S.items, Option.some.injEq] at h
    subst h
    exact ⟨a, vs, rfl, r.gH _ _ h1, h2⟩
  | @ref n a e =>
    simp only [S.items] at h
    cases q : s.get n with
    | none => rw [q] at h; cases h
    | some c =>
      rw [q] at h
      cases c with
      | dic _ _ _ => cases h
      | lst fz ds' =>
        simp only [Option.some.injEq] at h
        subst h
        obtain ⟨a', e1, ⟨vs, h1, h2, _⟩, _⟩ := r.cell n _ q
        rw [e] at e1
        cases e1
        exact ⟨a, vs, rfl, h1, h2⟩
  | _ => simp [S.items] at h
/-- .. that is walked -/
theorem R.walkS (r : R T F G m s H) {d : D} {ds : List D} {v : V} (h : s.walkS d = some ds) (x : Rp T G m d v) : ∃ a vs, v = .ref a ∧ (G a = some (.lst vs) ∨ SqT T.K G a vs) ∧ Rps T G m ds vs := by
  cases x with
  | @lst a vs ds' h1 h2 =>
    simp only [S.walkS, Option.some.injEq] at h
    subst h
    exact ⟨a, vs, rfl, .inl h1, h2⟩
  | @tup a vs ds' h1 h2 =>
    simp only [S.walkS, Option.some.injEq] at h
    subst h
    exact ⟨a, vs, rfl, .inr h1, h2⟩
  | @ref n a e =>
    simp only [S.walkS] at h
    cases q : s.get n with
    | none => rw [q] at h; cases h
    | some c =>
      rw [q] at h
      cases c with
      | dic _ _ _ => cases h
      | lst fz ds' =>
        cases fz with
        | false => cases h
        | true =>
          simp only [Option.some.injEq] at h
          subst h
          obtain ⟨a', e1, ⟨vs, h1, h2, h3, _⟩, _⟩ := r.cell n _ q
          rw [e] at e1
          cases e1
          exact ⟨a, vs, rfl, .inl (h3 rfl), h2⟩
  | _ => simp [S.walkS] at h

/-- what a look tells of a cell -/
def LookOk (T : Tb) (H : Hp) (m : Mm) (lk : Nat → Option PyData) : Prop := ∀ n p a, lk n = some p → m n = some a → Dp T.K H (.ref a) p
mutual
theorem Rp.toPy (r : R T F G m s H) {lk : Nat → Option PyData} (hl : LookOk T H m lk) : ∀ {d : D} {v : V} {p : PyData}, Rp T G m d v → Mi.toPy lk d = some p → Dp T.K H v p
  | _, _, _, .non, e => by simp only [Mi.toPy, Option.some.injEq] at e; subst e; exact .non
  | _, _, _, .bl b, e => by simp only [Mi.toPy, Option.some.injEq] at e; subst e; exact .bl b
  | _, _, _, .int i, e => by simp only [Mi.toPy, Option.some.injEq] at e; subst e; exact .int i
  | _, _, _, .str x, e => by simp only [Mi.toPy, Option.some.injEq] at e; subst e; exact .str x
  | _, _, _, .tup (ds := ds) h1 h2, e => by
    simp only [Mi.toPy, Option.map_eq_some_iff] at e
    obtain ⟨ps, e1, rfl⟩ := e
    exact .tup (SqT.sub r.gH h1) (Rps.toPys r hl h2 e1)
  | _, _, _, .lst (ds := ds) h1 h2, e => by
    simp only [Mi.toPy, Option.map_eq_some_iff] at e
    obtain ⟨ps, e1, rfl⟩ := e
    exact .lst (SqL.of (r.gH _ _ h1)) (Rps.toPys r hl h2 e1)
  | _, _, _, .dic _ _ _ _ _, e => by simp [Mi.toPy] at e
  | _, _, _, .ref h, e => hl _ _ _ (by simpa [Mi.toPy] using e) h
  | _, _, _, .fn _, e => by simp [Mi.toPy] at e
  | _, _, _, .ty _, e => by simp [Mi.toPy] at e
  | _, _, _, .inp _, e => by simp [Mi.toPy] at e
theorem Rps.toPys (r : R T F G m s H) {lk : Nat → Option PyData} (hl : LookOk T H m lk) : ∀ {ds : List D} {vs : List V} {ps : List PyData}, Rps T G m ds vs → Mi.toPys lk ds = some ps → DpAll T.K H vs ps
  | _, _, _, .nil, e => by simp only [Mi.toPys, Option.some.injEq] at e; subst e; exact .nil
  | _, _, _, .cons (d := d) (ds := ds) h1 h2, e => by
    simp only [Mi.toPys] at e
    cases q1 : Mi.toPy lk d with
    | none => rw [q1] at e; simp at e
    | some p =>
      cases q2 : Mi.toPys lk ds with
      | none => rw [q1, q2] at e; simp at e
      | some ps =>
        rw [q1, q2] at e
        simp only [Option.some.injEq] at e
        subst e
        exact .cons (Rp.toPy r hl h1 q1) (Rps.toPys r hl h2 q2)
end
theorem R.look (r : R T F G m s H) : ∀ k, LookOk T H m (s.look k)
  | 0 => fun n p a e _ => by simp [S.look] at e
  | k + 1 => fun n p a e hm => by
    simp only [S.look] at e
    cases q : s.get n with
    | none => rw [q] at e; cases e
    | some c =>
      rw [q] at e
      cases c with
      | dic _ _ _ => cases e
      | lst fz ds =>
        simp only [Option.map_eq_some_iff] at e
        obtain ⟨ps, e1, rfl⟩ := e
        obtain ⟨a', e2, ⟨vs, h1, h2, _⟩, _⟩ := r.cell n _ q
        rw [hm] at e2
        cases e2
        exact .lst (SqL.of h1) (Rps.toPys r (r.look k) h2 e1)
theorem R.py (r : R T F G m s H) {d : D} {v : V} {p : PyData} (h : s.py d = some p) (x : Rp T G m d v) : Dp T.K H v p := x.toPy r (r.look 4) h
theorem R.pys (r : R T F G m s H) {ds : List D} {vs : List V} {ps : List PyData} (h : s.pys ds = some ps) (x : Rps T G m ds vs) : DpAll T.K H vs ps := x.toPys r (r.look 4) h

theorem lookup_filter (n k : Nat) : ∀ l : List (Nat × Cl), (l.filter fun p => decide (p.1 < n)).lookup k = if k < n then l.lookup k else none
  | [] => by simp
  | (j, d) :: r => by
    have ih := lookup_filter n k r
    by_cases hj : j < n
    · rw [List.filter_cons_of_pos (by simpa using hj)]
      by_cases hk : k = j
      · subst hk
        simp [List.lookup, hj]
      · have e : (k == j) = false := by simpa using hk
        simp only [List.lookup, e]
        exact ih
    · rw [List.filter_cons_of_neg (by simpa using hj), ih]
      by_cases hk : k = j
      · subst hk
        simp [hj]
      · have e : (k == j) = false := by simpa using hk
        simp only [List.lookup, e]
theorem CellAt.cut (n : Nat) (hm : ∀ k, k < n → m k = m' k) {c : Cl} (hb : belowC n c = true) (x : CellAt T G m H a c) : CellAt T G m' H a c := by
  cases c with
  | lst fz ds =>
    obtain ⟨vs, h1, h2, h3, h4⟩ := x
    exact ⟨vs, h1, h2.cut n hm hb, h3, h4⟩
  | dic fz ks vs =>
    obtain ⟨ho, kvs, h1, h2, h3, h4, h5, h6, h7⟩ := x
    have q := Bool.and_eq_true_iff.mp (show (belows n ks && belows n vs) = true from hb)
    exact ⟨ho, kvs, h1, h2, h3.cut n hm q.1, h4, h5.cut n hm q.2, h6, h7⟩
/-- behind a call -/
theorem R.clean (n : Nat) {d : D} {v : V} (r : R T F G m s H) (x : Rp T G m d v) : ∃ m', (∀ k a, k < n → m k = some a → m' k = some a) ∧ R T F G m' (clean n d s).2 H ∧ Rp T G m' (clean n d s).1 v := by
  have same : ∃ m', (∀ k a, k < n → m k = some a → m' k = some a) ∧ R T F G m' s H ∧ Rp T G m' d v := ⟨m, fun _ _ _ e => e, r, x⟩
  unfold Mi.clean
  by_cases hold : ((s.cs.filter fun p => decide (p.1 < n)).all fun p => belowC n p.2) = true
  · rw [if_pos hold]
    have old_get : ∀ k c, k < n → s.get k = some c → belowC n c = true := fun k c hk e => by
      have e' : (s.cs.filter fun p => decide (p.1 < n)).lookup k = some c := by
        rw [lookup_filter, if_pos hk]
        exact e
      have mem : (k, c) ∈ s.cs.filter fun p => decide (p.1 < n) := by
        clear hold x same r
        revert e'
        generalize (s.cs.filter fun p => decide (p.1 < n)) = l
        intro e'
        induction l with
        | nil => simp at e'
        | cons q l ih =>
          obtain ⟨j, d'⟩ := q
          rw [List.lookup_cons] at e'
          by_cases hkj : k = j
          · subst hkj
            simp at e'
            rw [e']
            exact List.mem_cons_self
          · have eb : (k == j) = false := by simpa using hkj
            rw [eb] at e'
            exact List.mem_cons_of_mem _ (ih e')
      exact List.all_eq_true.mp hold _ mem
    by_cases hd : below n d = true
    · rw [if_pos hd]
      have hm : ∀ k, k < n → m k = (if k < n then m k else none) := fun k hk => by rw [if_pos hk]
      refine ⟨fun k => if k < n then m k else none, fun k a hk e => (hm k hk).symm.trans e, ⟨r.gH, r.fH, r.fG, fun k c e => ?_, fun j k b hjk hj hk e1 e2 => ?_, fun k hk => ?_, fun k hk => ?_⟩, x.cut n hm hd⟩
      · have e' : (if k < n then s.cs.lookup k else none) = some c := by rw [← lookup_filter]; exact e
        by_cases hk : k < n
        · rw [if_pos hk] at e'
          obtain ⟨b, q1, q2, q3⟩ := r.cell k c e'
          exact ⟨b, by rw [if_pos hk]; exact q1, q2.cut n hm (old_get k c hk e'), q3⟩
        · rw [if_neg hk] at e'
          cases e'
      · have pos : ∀ i, (S.get ⟨n, s.cs.filter fun p => decide (p.1 < n)⟩ i).isSome = true → i < n ∧ (s.get i).isSome = true := fun i hi => by
          have hi' : ((s.cs.filter fun p => decide (p.1 < n)).lookup i).isSome = true := hi
          rw [lookup_filter] at hi'
          by_cases z : i < n
          · rw [if_pos z] at hi'
            exact ⟨z, hi'⟩
          · rw [if_neg z] at hi'
            cases hi'
        obtain ⟨p1, p2⟩ := pos j hj
        obtain ⟨p3, p4⟩ := pos k hk
        simp only [if_pos p1] at e1
        simp only [if_pos p3] at e2
        exact r.inj j k b hjk p2 p4 e1 e2
      · have hk' : ((s.cs.filter fun p => decide (p.1 < n)).lookup k).isSome = true := hk
        rw [lookup_filter] at hk'
        by_cases z : k < n
        · exact z
        · rw [if_neg z] at hk'
          cases hk'
      · have hk' : n ≤ k := hk
        show (if k < n then m k else none) = none
        rw [if_neg (by omega)]
    · rw [if_neg hd]
      cases x with
      | @ref k a e =>
        simp only
        cases hg : s.get k with
        | none => simp only; exact ⟨m, fun _ _ _ e => e, r, .ref e⟩
        | some c =>
          simp only
          by_cases hc : belowC n c = true
          · rw [if_pos hc]
            have hm : ∀ j, j < n → m j = (if j < n then m j else if j = n then m k else none) := fun j hj => by rw [if_pos hj]
            have hkn : ¬ k < n := fun z => hd (by simp [below, z])
            obtain ⟨b0, q1, q2, q3⟩ := r.cell k c hg
            have get' : ∀ i, S.get ⟨n + 1, (n, c) :: s.cs.filter fun p => decide (p.1 < n)⟩ i = if i = n then some c else if i < n then s.get i else none := fun i => by
              show List.lookup i ((n, c) :: s.cs.filter fun p => decide (p.1 < n)) = _
              rw [List.lookup_cons]
              by_cases z : i = n
              · rw [if_pos z, z]; simp
              · have eb : (i == n) = false := by simpa using z
                rw [eb, if_neg z, lookup_filter]
                rfl
            refine ⟨fun j => if j < n then m j else if j = n then m k else none, fun j a hj e => (hm j hj).symm.trans e, ⟨r.gH, r.fH, r.fG, fun j c' e' => ?_, fun j i b hji hj hi e1 e2 => ?_, fun j hj => ?_, fun j hj => ?_⟩, .ref ?_⟩
            · rw [get'] at e'
              by_cases z : j = n
              · rw [if_pos z] at e'
                cases e'
                refine ⟨b0, ?_, q2.cut n hm hc, q3⟩
                rw [z, if_neg (Nat.lt_irrefl n), if_pos rfl]
                exact q1
              · rw [if_neg z] at e'
                by_cases hj : j < n
                · rw [if_pos hj] at e'
                  obtain ⟨b, t1, t2, t3⟩ := r.cell j c' e'
                  exact ⟨b, by rw [if_pos hj]; exact t1, t2.cut n hm (old_get j c' hj e'), t3⟩
                · rw [if_neg hj] at e'
                  cases e'
            · rw [get'] at hj hi
              have hk : (s.get k).isSome = true := by rw [hg]; rfl
              by_cases z1 : j = n
              · by_cases z2 : i = n
                · exact hji (z1.trans z2.symm)
                · rw [if_neg z2] at hi
                  by_cases z3 : i < n
                  · rw [if_pos z3] at hi
                    simp only [z1, Nat.lt_irrefl, if_false, if_true] at e1
                    simp only [if_pos z3] at e2
                    exact r.inj k i b (fun z => hkn (by omega)) hk hi e1 e2
                  · rw [if_neg z3] at hi
                    cases hi
              · rw [if_neg z1] at hj
                by_cases z4 : j < n
                · rw [if_pos z4] at hj
                  simp only [if_pos z4] at e1
                  by_cases z2 : i = n
                  · simp only [z2, Nat.lt_irrefl, if_false, if_true] at e2
                    exact r.inj j k b (fun z => hkn (by omega)) hj hk e1 e2
                  · rw [if_neg z2] at hi
                    by_cases z3 : i < n
                    · rw [if_pos z3] at hi
                      simp only [if_pos z3] at e2
                      exact r.inj j i b hji hj hi e1 e2
                    · rw [if_neg z3] at hi
                      cases hi
                · rw [if_neg z4] at hj
                  cases hj
            · rw [get'] at hj
              show j < n + 1
              by_cases z1 : j = n
              · omega
              · rw [if_neg z1] at hj
                by_cases z4 : j < n
                · omega
                · rw [if_neg z4] at hj
                  cases hj
            · have hj' : n + 1 ≤ j := hj
              show (if j < n then m j else if j = n then m k else none) = none
              rw [if_neg (by omega), if_neg (by omega)]
            · show (if n < n then m n else if n = n then m k else none) = some a
              rw [if_neg (Nat.lt_irrefl n), if_pos rfl]
              exact e
          · rw [if_neg hc]
            exact ⟨m, fun _ _ _ e => e, r, .ref e⟩
      | _ => exact ⟨m, fun _ _ _ e => e, r, by first | exact .non | exact .bl _ | exact .int _ | exact .str _ | exact .fn _ | exact .ty _ | exact .inp ‹_› | (exact .tup ‹_› ‹_›) | (exact .lst ‹_› ‹_›) | (exact .dic ‹_› ‹_› ‹_› ‹_› ‹_›)⟩
  · rw [if_neg hold]
    exact same
end

/-! ### what is wanted of an evaluation -/
/-- an exception's own dict -/
def XD (T : Tb) (G : Hp) (m : Mm) (x : Exc) (d : Option Addr) : Prop := match x.fl with
  | [] => d = none
  | fl => ∃ dd fs, d = some dd ∧ G dd = some (.xd fs) ∧ fs.map (·.1) = fl.map (·.1) ∧ Rps T G m (fl.map (·.2)) (fs.map (·.2))
/-- the names' values -/
structure RpS (T : Tb) (G : Hp) (m : Mm) (τ : Tau) (σ : L2.St) : Prop where
  len : τ.length = σ.length
  at_ : ∀ (i : Nat) (d : D), τ[i]? = some (some d) → ∃ v, σ[i]? = some (some v) ∧ Rp T G m d v
theorem RpS.mono {T : Tb} {G G' : Hp} {m m' : Mm} {τ : Tau} {σ : L2.St} (x : Ext G m G' m') (h : RpS T G m τ σ) : RpS T G' m' τ σ :=
  ⟨h.len, fun i d e => let ⟨v, e1, e2⟩ := h.at_ i d e; ⟨v, e1, e2.mono x⟩⟩
theorem RpS.set {T : Tb} {G : Hp} {m : Mm} {τ : Tau} {σ : L2.St} (h : RpS T G m τ σ) (i : Nat) {d : D} {v : V} (r : Rp T G m d v) : RpS T G m (τ.set i (some d)) (σ.set i (some v)) where
  len := by simp [h.len]
  at_ := fun j e q => by
    by_cases hj : i = j
    · subst hj
      by_cases hl : i < τ.length
      · rw [List.getElem?_set_self hl] at q
        cases q
        exact ⟨v, by rw [List.getElem?_set_self (by rw [← h.len]; exact hl)], r⟩
      · rw [List.getElem?_eq_none (by simpa using hl)] at q
        cases q
    · rw [List.getElem?_set_ne hj] at q ⊢
      exact h.at_ j e q
theorem RpS.unset {T : Tb} {G : Hp} {m : Mm} {τ : Tau} {σ : L2.St} (h : RpS T G m τ σ) (i : Nat) (u : Option V) : RpS T G m (τ.set i none) (σ.set i u) where
  len := by simp [h.len]
  at_ := fun j e q => by
    by_cases hj : i = j
    · subst hj
      by_cases hl : i < τ.length
      · rw [List.getElem?_set_self hl] at q
        cases q
      · rw [List.getElem?_eq_none (by simpa using hl)] at q
        cases q
    · rw [List.getElem?_set_ne hj] at q ⊢
      exact h.at_ j e q
theorem RpS.wipe {T : Tb} {G : Hp} {m : Mm} {τ : Tau} {σ : L2.St} (h : RpS T G m τ σ) : ∀ vs : List Nat, RpS T G m (wipeT τ vs) (L2.wipe σ vs)
  | [] => h
  | v :: vs => (RpS.wipe h vs).unset v none

section
variable (T : Tb) (W : WX) {α β : Type} (Rel : Hp → Mm → α → β → Prop)
def TRg (σ : L2.St) (F G : Hp) (m : Mm) (r : Res α) (Q : β → Hp → Prop) : Prop := match r with
  | .ok a s => ∀ G' m' H' b, Ext G m G' m' → R T F G' m' s H' → Rel G' m' a b → Q b H'
  | .exc x s => ∀ G' m' H' d, Ext G m G' m' → R T F G' m' s H' → XD T G' m' x d → W (.ref (T.ca x.c)) d σ H'
  | .stuck => False
/-- an evaluation's reading -/
def tRd (ev : Tau → S → Res α) : L2.St → Hp → (β → Hp → Prop) → Prop := fun σ H Q =>
  ∃ F G m s τ, R T F G m s H ∧ RpS T G m τ σ ∧ TRg T W Rel σ F G m (ev τ s) Q
end
section
variable {T : Tb} {W : WX} {α β γ δ : Type} {Rel : Hp → Mm → α → β → Prop} {Rel' : Hp → Mm → γ → δ → Prop} {σ : L2.St} {F G G1 : Hp} {m m1 : Mm} {r : Res α} {Q : β → Hp → Prop} {Q' : δ → Hp → Prop}
theorem TRg.mono (x : Ext G m G1 m1) (h : TRg T W Rel σ F G m r Q) : TRg T W Rel σ F G1 m1 r Q := by
  cases r with
  | ok a s => exact fun G' m' H' b e => h G' m' H' b (x.trans e)
  | exc y s => exact fun G' m' H' d e => h G' m' H' d (x.trans e)
  | stuck => exact h
theorem TRg.bind {f : α → S → Res γ} (h : TRg T W Rel' σ F G m (r.bind f) Q') (k : ∀ a s G' m' H' b, Ext G m G' m' → R T F G' m' s H' → Rel G' m' a b → TRg T W Rel' σ F G' m' (f a s) Q' → Q b H') : TRg T W Rel σ F G m r Q := by
  cases r with
  | ok a s => exact fun G' m' H' b e r1 r2 => k a s G' m' H' b e r1 r2 (TRg.mono e h)
  | exc y s => exact h
  | stuck => exact h
/-- the first evaluation of a bind -/
theorem tRd.bind {ev : Tau → S → Res α} {f : α → S → Res γ} {H : Hp} {s : S} {τ : Tau} (r : R T F G m s H) (hs : RpS T G m τ σ) (h : TRg T W Rel' σ F G m ((ev τ s).bind f) Q')
    (k : ∀ a s G' m' H' b, Ext G m G' m' → R T F G' m' s H' → RpS T G' m' τ σ → Rel G' m' a b → TRg T W Rel' σ F G' m' (f a s) Q' → Q b H') : tRd T W Rel ev σ H Q :=
  ⟨F, G, m, s, τ, r, hs, TRg.bind h fun a s G' m' H' b e r1 r2 h1 => k a s G' m' H' b e r1 (hs.mono e) r2 h1⟩
theorem TRg.ok {a : α} {s : S} {H : Hp} {b : β} (h : TRg T W Rel σ F G m (.ok a s) Q) (r : R T F G m s H) (q : Rel G m a b) : Q b H := h G m H b (Ext.refl G m) r q
end
end Mi
set_option Elab.async false
set_option linter.all false
set_option maxRecDepth 100000
set_option maxHeartbeats 2000000
/-! Mi4: the operations on values, against the hand layer's rules. -/
namespace Mi
open PySem PySem.Spec PyProof.Rows L2

abbrev tb (X : Cx) (fa ca : Nat → Addr) : Tb := ⟨X.prog, X.w, X.K, fa, ca⟩
/-- what an operation on two values asks -/
def rO (T : Tb) (W : WX) (σ₀ : L2.St) (ev : D → D → S → Res D) : R2 := fun x y H Q =>
  ∃ F G m s d e, R T F G m s H ∧ Rp T G m d x ∧ Rp T G m e y ∧ TRg T W (Rp T) σ₀ F G m (ev d e s) Q
def opBo : Bo → Operator
  | .add => .Add
  | .sub => .Sub
  | .mul => .Mult
  | .fdiv => .FloorDiv
  | .mod => .Mod
  | .pow => .Pow
section
variable {X : Cx} {fa ca : Nat → Addr} {W : WX} {σ₀ : L2.St}
theorem TRg.ite {T : Tb} {α β : Type} {Rel : Hp → Mm → α → β → Prop} {F G : Hp} {m : Mm} {c : Prop} [Decidable c] {r : Res α} {Q : β → Hp → Prop} (h : TRg T W Rel σ₀ F G m (if c then r else .stuck) Q) : c ∧ TRg T W Rel σ₀ F G m r Q := by
  by_cases hc : c
  · rw [if_pos hc] at h
    exact ⟨hc, h⟩
  · rw [if_neg hc] at h
    exact h.elim
/-- a fresh thing that changes no more is handed back -/
theorem TRg.new {T : Tb} {F G H : Hp} {m : Mm} {s : S} {d : D} {Q : VK} {o : HO} (h : TRg T W (Rp T) σ₀ F G m (.ok d s) Q) (r : R T F G m s H) (k : ∀ p, H p = none → Rp T (upd G p o) m d (.ref p)) : ∀ p, H p = none → Q (.ref p) (upd H p o) :=
  fun p hp => h (upd G p o) m (upd H p o) (.ref p) (Ext.upd (none_of_sub r.gH hp)) (r.imm hp) (k p hp)
theorem fits_len {ds : List D} (h : fits ds = true) : ds.length ≤ sizeLine := of_decide_eq_true h
theorem op_add1 : OpR X (binaryOp .Add) (rO (tb X fa ca) W σ₀ (evBin .add)) := by
  intro pins s σ H x y v u Q I rx ry h
  obtain ⟨F, G, m, st, d, e, r, rd, re, h⟩ := h
  -- two lists
  have lists : (TRg (tb X fa ca) W (Rp (tb X fa ca)) σ₀ F G m (match st.items d, st.items e with
      | some xs, some ys => if fits (xs ++ ys) then .ok (.lst (xs ++ ys)) st else .stuck
      | _, _ => .stuck) Q) → wpAny (model X.prog X.w) X.A (binaryOp .Add v u) (EP X pins σ Q) X.xe s := by
    intro h
    cases q1 : st.items d with
    | none => rw [q1] at h; exact h.elim
    | some xs =>
      cases q2 : st.items e with
      | none => rw [q1, q2] at h; exact h.elim
      | some ys =>
        rw [q1, q2] at h
        obtain ⟨hf, h⟩ := TRg.ite h
        obtain ⟨a, vs, rfl, ha, ra⟩ := r.items q1 rd
        obtain ⟨b, ws, rfl, hb, rb⟩ := r.items q2 re
        refine op_cat pins s σ H _ _ v u Q I rx ry ⟨a, b, vs, ws, rfl, rfl, ha, hb, ?_, ?_⟩
        · have := fits_len hf
          rw [List.length_append, ra.length, rb.length] at this
          exact this
        · exact h.new r fun p hp => .lst upd_same ((ra.append rb).mono (Ext.upd (none_of_sub r.gH hp)))
  cases rd with
  | int i =>
    cases re with
    | int j => exact op_add pins s σ H _ _ v u Q I rx ry ⟨i, j, rfl, rfl, TRg.ok h r (.int _)⟩
    | _ => exact (show False from h).elim
  | @tup a vs ds h1 h2 =>
    cases re with
    | @tup b ws es h3 h4 =>
      obtain ⟨hf, h⟩ := TRg.ite h
      have hl := fits_len hf
      rw [List.length_append, h2.length, h4.length] at hl
      refine op_catA pins s σ H _ _ v u Q I rx ry ⟨a, b, vs, ws, rfl, rfl, SqT.sub r.gH h1, SqT.sub r.gH h3, hl, ?_, ?_, ?_⟩
      · intro e
        subst e
        cases h2
        exact TRg.ok h r (.tup h3 h4)
      · intro _ e
        subst e
        cases h4
        rw [List.append_nil] at h
        exact TRg.ok h r (.tup h1 h2)
      · intro _ _
        exact h.new r fun p hp => .tup (SqT.of upd_same) ((h2.append h4).mono (Ext.upd (none_of_sub r.gH hp)))
    | _ => exact (show False from h).elim
  | lst _ _ => cases re <;> first | exact lists h | exact (show False from h).elim
  | ref _ => cases re <;> first | exact lists h | exact (show False from h).elim
  | _ => cases re <;> first | exact (show False from h).elim | exact lists h
theorem mulOk_c {i j : Int} (h : mulOk i j = true) : CMul i j := by
  unfold mulOk at h
  rcases Bool.or_eq_true_iff.mp h with h | h
  · have := Bool.and_eq_true_iff.mp h
    exact .inl ⟨of_decide_eq_true this.1, of_decide_eq_true this.2⟩
  · have := Bool.and_eq_true_iff.mp h
    exact .inr ⟨of_decide_eq_true this.1, of_decide_eq_true this.2⟩
theorem Rps.rep {T : Tb} {G : Hp} {m : Mm} {ds : List D} {vs : List V} (r : Rps T G m ds vs) : ∀ k : Nat, Rps T G m (List.replicate k ds).flatten (List.replicate k vs).flatten
  | 0 => .nil
  | k + 1 => by
    rw [List.replicate_succ, List.replicate_succ, List.flatten_cons, List.flatten_cons]
    exact r.append (Rps.rep r k)
theorem op_bin (o : Bo) : OpR X (binaryOp (opBo o)) (rO (tb X fa ca) W σ₀ (evBin o)) := by
  cases o with
  | add => exact op_add1
  | sub =>
    intro pins s σ H x y v u Q I rx ry h
    obtain ⟨F, G, m, st, d, e, r, rd, re, h⟩ := h
    cases rd <;> cases re <;> first
      | exact (show False from h).elim
      | exact op_sub pins s σ H _ _ v u Q I rx ry ⟨_, _, rfl, rfl, TRg.ok h r (.int _)⟩
  | mul =>
    intro pins s σ H x y v u Q I rx ry h
    obtain ⟨F, G, m, st, d, e, r, rd, re, h⟩ := h
    have lists : ∀ k : Int, y = .int k → (TRg (tb X fa ca) W (Rp (tb X fa ca)) σ₀ F G m (match st.items d with
        | some xs => if (-(2 ^ 63) ≤ k ∧ k < 2 ^ 63) ∧ xs.length * k.toNat ≤ sizeLine then .ok (.lst (List.replicate k.toNat xs).flatten) st else .stuck
        | none => .stuck) Q) → wpAny (model X.prog X.w) X.A (binaryOp .Mult v u) (EP X pins σ Q) X.xe s := by
      intro k hk h
      cases q1 : st.items d with
      | none => rw [q1] at h; exact h.elim
      | some xs =>
        rw [q1] at h
        obtain ⟨⟨hk2, hl⟩, h⟩ := TRg.ite h
        obtain ⟨a, vs, rfl, ha, ra⟩ := r.items q1 rd
        refine op_rep pins s σ H _ _ v u Q I rx ry ⟨a, k, vs, rfl, hk, ha, hk2.1, hk2.2, by rw [← ra.length]; exact hl, ?_⟩
        exact h.new r fun p hp => .lst upd_same ((ra.rep k.toNat).mono (Ext.upd (none_of_sub r.gH hp)))
    cases rd <;> cases re <;> first
      | exact (show False from h).elim
      | exact lists _ rfl h
      | (obtain ⟨hc, h⟩ := TRg.ite h; exact op_mul pins s σ H _ _ v u Q I rx ry ⟨_, _, rfl, rfl, mulOk_c hc, TRg.ok h r (.int _)⟩)
  | fdiv =>
    intro pins s σ H x y v u Q I rx ry h
    obtain ⟨F, G, m, st, d, e, r, rd, re, h⟩ := h
    cases rd <;> cases re <;> first
      | exact (show False from h).elim
      | (obtain ⟨hc, h⟩ := TRg.ite h; exact op_fdiv pins s σ H _ _ v u Q I rx ry ⟨_, _, rfl, rfl, hc, TRg.ok h r (.int _)⟩)
  | mod =>
    intro pins s σ H x y v u Q I rx ry h
    obtain ⟨F, G, m, st, d, e, r, rd, re, h⟩ := h
    cases rd <;> cases re <;> first
      | exact (show False from h).elim
      | (obtain ⟨hc, h⟩ := TRg.ite h; exact op_mod pins s σ H _ _ v u Q I rx ry ⟨_, _, rfl, rfl, hc, TRg.ok h r (.int _)⟩)
  | pow =>
    intro pins s σ H x y v u Q I rx ry h
    obtain ⟨F, G, m, st, d, e, r, rd, re, h⟩ := h
    cases rd <;> cases re <;> first
      | exact (show False from h).elim
      | (obtain ⟨⟨hc, h2⟩, h⟩ := TRg.ite h; exact op_pow pins s σ H _ _ v u Q I rx ry ⟨_, _, rfl, rfl, ⟨hc.1, by omega, h2⟩, TRg.ok h r (.int _)⟩)

/-! ### comparisons -/
def opCo : Co → CmpOp
  | .eq => .Eq
  | .ne => .NotEq
  | .lt => .Lt
  | .le => .LtE
  | .gt => .Gt
  | .ge => .GtE
  | .isin => .In
  | .notin => .NotIn
  | .is => .Is
  | .isnt => .IsNot
theorem eqv_some {T : Tb} {F G H : Hp} {m : Mm} {st : S} {d e : D} {x y : V} {b : Bool} (r : R T F G m st H) (rd : Rp T G m d x) (re : Rp T G m e y) (q : st.eqv d e = some b) :
    ∃ p p', Dp T.K H x p ∧ Dp T.K H y p' ∧ SeqAt.shaped p = true ∧ SeqAt.shaped p' = true ∧ b = PyData.eqv p p' := by
  unfold S.eqv at q
  cases q1 : st.py d with
  | none => rw [q1] at q; cases q
  | some p =>
    cases q2 : st.py e with
    | none => rw [q1, q2] at q; cases q
    | some p' =>
      rw [q1, q2] at q
      by_cases hs : (SeqAt.shaped p && SeqAt.shaped p') = true
      · simp only [hs, if_true, Option.some.injEq] at q
        have := Bool.and_eq_true_iff.mp hs
        exact ⟨p, p', r.py q1 rd, r.py q2 re, this.1, this.2, q.symm⟩
      · simp only [hs] at q
        cases q
end
end Mi
set_option Elab.async false
set_option linter.all false
set_option maxRecDepth 100000
set_option maxHeartbeats 2000000
/-! Mi5: dicts with tuple keys; comparisons. -/
namespace Mi
open PySem PySem.Spec PyProof.Rows L2

section
variable {X : Cx} {fa ca : Nat → Addr} {pins : List (Addr × Obj)} {σ : L2.St} {s : Shared} {F G H : Hp} {m : Mm} {st : S}
mutual
theorem Rp.nested (I : Inv X pins σ H s) (r : R (tb X fa ca) F G m st H) : ∀ {d : D} {v : V} {k : NestedKey} {u : Value}, Rp (tb X fa ca) G m d v → toKey d = some k → RelV v u → NestedIs s.heap k u
  | _, _, _, _, .non, e, q => by
    simp only [toKey, Option.some.injEq] at e
    subst e
    cases q
    exact .none
  | _, _, _, _, .bl b, e, q => by
    simp only [toKey, Option.some.injEq] at e
    subst e
    cases q
    exact .bool rfl
  | _, _, _, _, .int i, e, q => by
    simp only [toKey, Option.some.injEq] at e
    subst e
    obtain ⟨t, rfl⟩ := q
    exact .int _ _
  | _, _, _, _, .str x, e, q => by
    simp only [toKey, Option.some.injEq] at e
    subst e
    obtain ⟨t, rfl⟩ := q
    exact .text _ _
  | _, _, _, _, .tup h1 h2, e, q => by
    simp only [toKey, Option.map_eq_some_iff] at e
    obtain ⟨ks, e1, rfl⟩ := e
    cases q
    obtain ⟨its, rv, ⟨o, ho, hc, n, hd⟩, _⟩ := I.tuple (SqT.sub r.gH h1)
    exact .tup ho hc hd (Rps.nested I r h2 e1 rv)
  | _, _, _, _, .lst _ _, e, _ => by simp [toKey] at e
  | _, _, _, _, .dic _ _ _ _ _, e, _ => by simp [toKey] at e
  | _, _, _, _, .ref _, e, _ => by simp [toKey] at e
  | _, _, _, _, .fn _, e, _ => by simp [toKey] at e
  | _, _, _, _, .ty _, e, _ => by simp [toKey] at e
  | _, _, _, _, .inp _, e, _ => by simp [toKey] at e
theorem Rps.nested (I : Inv X pins σ H s) (r : R (tb X fa ca) F G m st H) : ∀ {ds : List D} {vs : List V} {ks : List NestedKey} {us : List Value}, Rps (tb X fa ca) G m ds vs → toKeys ds = some ks → Vals vs us → NestedAll s.heap ks us
  | _, _, _, _, .nil, e, q => by
    simp only [toKeys, Option.some.injEq] at e
    subst e
    cases q
    exact .nil
  | _, _, _, _, .cons (d := d) (ds := ds) h1 h2, e, q => by
    simp only [toKeys] at e
    cases q1 : toKey d with
    | none => rw [q1] at e; simp at e
    | some k =>
      cases q2 : toKeys ds with
      | none => rw [q1, q2] at e; simp at e
      | some ks =>
        rw [q1, q2] at e
        simp only [Option.some.injEq] at e
        subst e
        cases q with
        | cons z1 z2 => exact .cons (Rp.nested I r h1 q1 z1) (Rps.nested I r h2 q2 z2)
end
theorem Rp.keyT (I : Inv X pins σ H s) (r : R (tb X fa ca) F G m st H) {d : D} {v : V} {k : NestedKey} (h : Rp (tb X fa ca) G m d v) (e : Mi.keyT d = some k) : ∃ a, v = .ref a ∧ (nestedKind X.prog X.w).is s.heap k a := by
  cases h with
  | @tup a vs ds h1 h2 =>
    simp only [Mi.keyT] at e
    cases q : toKeys ds with
    | none => rw [q] at e; simp at e
    | some ks =>
      rw [q] at e
      by_cases hd : (NestedKey.tup ks).depth ≤ 8
      · simp only [hd, if_true, Option.some.injEq] at e
        subst e
        refine ⟨a, rfl, Rp.nested I r (.tup h1 h2) (u := .ref a) ?_ rfl, hd⟩
        simp [toKey, q]
      · simp only [hd, if_false] at e
        cases e
  | _ => simp [Mi.keyT] at e

/-- the dict at a, over the real heap -/
theorem DicV.dictOf (I : Inv X pins σ H s) (r : R (tb X fa ca) F G m st H) {a : Addr} {kvs : List (NestedKey × Addr × V)} {ho : HO} {ks : List D} (h : H a = some ho) (d : DicV (tb X fa ca) a kvs ho) (hk : Rps (tb X fa ca) G m ks (kvs.map fun p => V.ref p.2.1)) (he : ks.map Mi.keyT = kvs.map (fun p => some p.1)) :
    ∃ xs, s.heap.DictOfH (nestedKind X.prog X.w) a xs ∧ Paired (fun (p : NestedKey × Addr × V) (q : NestedKey × Addr × Value) => p.1 = q.1 ∧ p.2.1 = q.2.1 ∧ RelV p.2.2 q.2.2) kvs xs ∧ (a == sysModules) = false ∧ xs.length ≤ sizeLine := by
  obtain ⟨ob, es, ep, xs, rfl, h1, h2, h3, h4, h5, h6, h7⟩ := d
  obtain ⟨hg, _, _⟩ := I.hok a _ h
  refine ⟨xs, ⟨ob, es, ep, hg, h1, h2, h3, fun x hx => ?_, h4⟩, h7, h5, h6⟩
  obtain ⟨i, hi⟩ := List.mem_iff_getElem?.mp hx
  -- the key at i
  have len : kvs.length = xs.length := Paired.length h7
  have hlt : i < kvs.length := by rw [len]; exact (List.getElem?_eq_some_iff.mp hi).1
  have pr : ∀ {l1 : List (NestedKey × Addr × V)} {l2 : List (NestedKey × Addr × Value)} {i : Nat} {q : NestedKey × Addr × Value}, Paired (fun (p : NestedKey × Addr × V) (q : NestedKey × Addr × Value) => p.1 = q.1 ∧ p.2.1 = q.2.1 ∧ RelV p.2.2 q.2.2) l1 l2 → l2[i]? = some q → ∃ p, l1[i]? = some p ∧ p.1 = q.1 ∧ p.2.1 = q.2.1 ∧ RelV p.2.2 q.2.2 := by
    intro l1 l2 i q hp
    induction hp generalizing i with
    | nil => intro e; simp at e
    | cons z t ih =>
      intro e
      cases i with
      | zero => simp at e; subst e; exact ⟨_, rfl, z⟩
      | succ j =>
        obtain ⟨p, e1, e2⟩ := ih (i := j) (by simpa using e)
        exact ⟨p, by simpa using e1, e2⟩
  obtain ⟨p, e1, e2, e3, _⟩ := pr h7 hi
  obtain ⟨d, e4, e5⟩ := Rps.get' hk (i := i) (v := V.ref p.2.1) (by rw [List.getElem?_map, e1]; rfl)
  have e6 : Mi.keyT d = some p.1 := by
    have q := congrArg (fun l => l[i]?) he
    simp only [List.getElem?_map, e4, e1, Option.map_some, Option.some.injEq] at q
    exact q
  obtain ⟨b, e7, e8⟩ := Rp.keyT I r e5 e6
  cases e7
  rw [← e2, ← e3]
  exact e8
/-- the value at a key -/
theorem dget_at {T : Tb} {G : Hp} {m : Mm} (k : NestedKey) : ∀ {ks vs : List D} {kvs : List (NestedKey × Addr × V)} {xs : List (NestedKey × Addr × Value)}, ks.map Mi.keyT = kvs.map (fun p => some p.1) → Rps T G m vs (kvs.map fun p => p.2.2) →
    Paired (fun (p : NestedKey × Addr × V) (q : NestedKey × Addr × Value) => p.1 = q.1 ∧ p.2.1 = q.2.1 ∧ RelV p.2.2 q.2.2) kvs xs →
    (∀ d, dget k ks vs = some d → ∃ b u v, atKey xs k = some (b, u) ∧ RelV v u ∧ Rp T G m d v) ∧ (dget k ks vs = none → atKey xs k = none)
  | [], _, [], _, _, _, .nil => ⟨fun d e => by simp [dget] at e, fun _ => rfl⟩
  | [], _, _ :: _, _, e, _, _ => by simp at e
  | _ :: _, _, [], _, e, _, _ => by simp at e
  | _ :: _, [], _ :: _, _, _, r, _ => by cases r
  | a :: ks, v :: vs, p :: kvs, q :: xs, e, r, .cons z t => by
    simp only [List.map_cons, List.cons.injEq] at e
    cases r with
    | cons r1 r2 =>
      have ih := dget_at k (ks := ks) (vs := vs) e.2 r2 t
      unfold dget
      by_cases h : Mi.keyT a = some k
      · rw [if_pos h]
        rw [e.1] at h
        have hk : q.1 = k := by rw [← z.1]; exact Option.some.inj h
        have ha : atKey (q :: xs) k = some q.2 := by simp [atKey, hk]
        refine ⟨fun d e => ?_, fun e => by cases e⟩
        cases e
        exact ⟨q.2.1, q.2.2, _, ha, z.2.2, r1⟩
      · rw [if_neg h]
        have hk : ¬ q.1 = k := fun w => h (by rw [e.1, z.1, w])
        have ha : atKey (q :: xs) k = atKey xs k := by simp [atKey, List.find?_cons, hk]
        rw [ha]
        exact ih
end

/-! ### comparisons -/
section
variable {X : Cx} {fa ca : Nat → Addr} {W : WX} {σ₀ : L2.St}
/-- x in c: of a list, or of a dict -/
theorem in_cases {pins : List (Addr × Obj)} {s : Shared} {σ : L2.St} {F G H : Hp} {m : Mm} {st : S} {d e : D} {x y : V} {b : Bool} (I : Inv X pins σ H s) (r : R (tb X fa ca) F G m st H)
    (rd : Rp (tb X fa ca) G m d x) (re : Rp (tb X fa ca) G m e y) (q : st.isIn d e = some b) :
    (∃ p ps, Dp X.K H x p ∧ Dp X.K H y (.list ps) ∧ SeqAt.shaped p = true ∧ SeqAt.shaped (.list ps) = true ∧ b = ps.any fun z => PyData.eqv z p) ∨
    (∃ a c k xs, x = .ref a ∧ y = .ref c ∧ (nestedKind X.prog X.w).is s.heap k a ∧ s.heap.DictOfH (nestedKind X.prog X.w) c xs ∧ (c == sysModules) = false ∧ b = (atKey xs k).isSome) ∨
    (∃ p ps, Dp X.K H x p ∧ Dp X.K H y (.tuple ps) ∧ SeqAt.shaped p = true ∧ SeqAt.shaped (.tuple ps) = true ∧ b = ps.any fun z => PyData.eqv z p) := by
  have lists : ∀ (a : Addr) (vs : List V) (ds : List D), y = .ref a → H a = some (.lst vs) → Rps (tb X fa ca) G m ds vs → (match st.py d, st.pys ds with
      | some p, some ps => if SeqAt.shaped p && SeqAt.shaped (.list ps) then some (ps.any fun z => PyData.eqv z p) else none
      | _, _ => none) = some b → ∃ p ps, Dp X.K H x p ∧ Dp X.K H y (.list ps) ∧ SeqAt.shaped p = true ∧ SeqAt.shaped (.list ps) = true ∧ b = ps.any fun z => PyData.eqv z p := by
    intro a vs ds ey hH hr q
    subst ey
    cases q1 : st.py d with
    | none => rw [q1] at q; simp at q
    | some p =>
      cases q2 : st.pys ds with
      | none => rw [q1, q2] at q; simp at q
      | some ps =>
        rw [q1, q2] at q
        by_cases hs : (SeqAt.shaped p && SeqAt.shaped (.list ps)) = true
        · simp only [hs, if_true, Option.some.injEq] at q
          have hs' := Bool.and_eq_true_iff.mp hs
          exact ⟨p, ps, r.py q1 rd, .lst (SqL.of hH) (r.pys q2 hr), hs'.1, hs'.2, q.symm⟩
        · simp only [hs] at q
          cases q
  have tups : ∀ (ds : List D), Rp (tb X fa ca) G m (.tup ds) y → st.isIn d (.tup ds) = some b → ∃ p ps, Dp X.K H x p ∧ Dp X.K H y (.tuple ps) ∧ SeqAt.shaped p = true ∧ SeqAt.shaped (.tuple ps) = true ∧ b = ps.any fun z => PyData.eqv z p := by
    intro ds re q
    simp only [S.isIn] at q
    cases q1 : st.py d with
    | none => rw [q1] at q; simp at q
    | some p =>
      cases q2 : st.pys ds with
      | none => rw [q1, q2] at q; simp at q
      | some ps =>
        rw [q1, q2] at q
        by_cases hs : (SeqAt.shaped p && SeqAt.shaped (.tuple ps)) = true
        · simp only [hs, if_true, Option.some.injEq] at q
          have hs' := Bool.and_eq_true_iff.mp hs
          have ey : st.py (.tup ds) = some (.tuple ps) := by
            show (toPys (st.look 4) ds).map PyData.tuple = _
            rw [show toPys (st.look 4) ds = some ps from q2]
            rfl
          exact ⟨p, ps, r.py q1 rd, r.py ey re, hs'.1, hs'.2, q.symm⟩
        · simp only [hs] at q
          cases q
  have dicts : ∀ (a : Addr) (ho : HO) (kvs : List (NestedKey × Addr × V)) (ks vs : List D), y = .ref a → H a = some ho → DicV (tb X fa ca) a kvs ho → Rps (tb X fa ca) G m ks (kvs.map fun p => V.ref p.2.1) → ks.map Mi.keyT = kvs.map (fun p => some p.1) → Rps (tb X fa ca) G m vs (kvs.map fun p => p.2.2) →
      ((Mi.keyT d).map fun k => (dget k ks vs).isSome) = some b → ∃ a c k xs, x = .ref a ∧ y = .ref c ∧ (nestedKind X.prog X.w).is s.heap k a ∧ s.heap.DictOfH (nestedKind X.prog X.w) c xs ∧ (c == sysModules) = false ∧ b = (atKey xs k).isSome := by
    intro a ho kvs ks vs ey hH hd hk he hv q
    obtain ⟨k, e1, e2⟩ := Option.map_eq_some_iff.mp q
    obtain ⟨xa, rfl, isk⟩ := Rp.keyT I r rd e1
    obtain ⟨xs, h1, h2, h3, _⟩ := DicV.dictOf I r hH hd hk he
    refine ⟨xa, a, k, xs, rfl, ey, isk, h1, h3, ?_⟩
    obtain ⟨g1, g2⟩ := dget_at (T := tb X fa ca) (G := G) (m := m) k he hv h2
    cases z : dget k ks vs with
    | none => rw [← e2, z, g2 z] <;> rfl
    | some w =>
      obtain ⟨_, _, _, z2, _⟩ := g1 w z
      rw [← e2, z, z2] <;> rfl
  cases re with
  | lst h1 h2 => exact .inl (lists _ _ _ rfl (r.gH _ _ h1) h2 q)
  | dic h1 h2 h3 h4 h5 => exact .inr (.inl (dicts _ _ _ _ _ rfl (r.gH _ _ h1) h2 h3 h4 h5 q))
  | @ref n a e =>
    simp only [S.isIn] at q
    cases g : st.get n with
    | none => rw [g] at q; cases q
    | some c =>
      rw [g] at q
      obtain ⟨a', e1, e2, _⟩ := r.cell n c g
      rw [e] at e1
      cases e1
      cases c with
      | lst fz ds =>
        obtain ⟨vs, h1, h2, _⟩ := e2
        exact .inl (lists _ _ _ rfl h1 h2 q)
      | dic fz ks vs =>
        obtain ⟨ho, kvs, h1, h2, h3, h4, h5, _⟩ := e2
        exact .inr (.inl (dicts _ _ _ _ _ rfl h1 h2 h3 h4 h5 q))
  | tup h1 h2 => exact .inr (.inr (tups _ (.tup h1 h2) q))
  | _ => simp [S.isIn] at q
theorem op_cmp (hu : X.A.units + 80 < cLine) (o : Co) : OpR X (compareOp (opCo o)) (rO (tb X fa ca) W σ₀ (evCmp o)) := by
  intro pins s σ H x y v u Q I rx ry h
  obtain ⟨F, G, m, st, d, e, r, rd, re, h⟩ := h
  cases o with
  | eq =>
    have h' : TRg (tb X fa ca) W (Rp (tb X fa ca)) σ₀ F G m (match st.eqv d e with | some r => .ok (.bl r) st | none => .stuck) Q := h
    cases q : st.eqv d e with
    | none => rw [q] at h'; exact h'.elim
    | some b =>
      rw [q] at h'
      obtain ⟨p, p', h1, h2, h3, h4, rfl⟩ := eqv_some r rd re q
      exact op_eqD (by omega) pins s σ H x y v u Q I rx ry ⟨p, p', h1, h2, h3, h4, TRg.ok h' r (.bl _)⟩
  | ne =>
    have h' : TRg (tb X fa ca) W (Rp (tb X fa ca)) σ₀ F G m (match st.eqv d e with | some r => .ok (.bl (!r)) st | none => .stuck) Q := h
    cases q : st.eqv d e with
    | none => rw [q] at h'; exact h'.elim
    | some b =>
      rw [q] at h'
      obtain ⟨p, p', h1, h2, h3, h4, rfl⟩ := eqv_some r rd re q
      exact op_neD (by omega) pins s σ H x y v u Q I rx ry ⟨p, p', h1, h2, h3, h4, TRg.ok h' r (.bl _)⟩
  | lt =>
    have h' : TRg (tb X fa ca) W (Rp (tb X fa ca)) σ₀ F G m (match st.lt d e with | some r => .ok (.bl r) st | none => .stuck) Q := h
    cases q : st.lt d e with
    | none => rw [q] at h'; exact h'.elim
    | some b =>
      rw [q] at h'
      cases rd with
      | int i =>
        cases re with
        | int j =>
          simp only [S.lt, Option.some.injEq] at q
          subst q
          exact op_lt pins s σ H _ _ v u Q I rx ry ⟨i, j, rfl, rfl, TRg.ok h' r (.bl _)⟩
        | _ => simp [S.lt] at q
      | @tup a vs ds h1 h2 =>
        cases re with
        | @tup b' ws es h3 h4 =>
          simp only [S.lt] at q
          cases q1 : st.py (.tup ds) with
          | none => rw [q1] at q; simp at q
          | some p =>
            cases q2 : st.py (.tup es) with
            | none => rw [q1, q2] at q; simp at q
            | some p' =>
              rw [q1, q2] at q
              by_cases hs : (SeqAt.shaped p && SeqAt.shaped p' && PySem.W.alike p p') = true
              · simp only [hs, if_true, Option.some.injEq] at q
                have hs1 := Bool.and_eq_true_iff.mp hs
                have hs2 := Bool.and_eq_true_iff.mp hs1.1
                have d1 := r.py q1 (.tup h1 h2)
                have d2 := r.py q2 (.tup h3 h4)
                obtain ⟨as, r1⟩ := Dp.reads I p _ v d1 rx
                obtain ⟨bs, r2⟩ := Dp.reads I p' _ u d2 ry
                have pn : p ≠ .none := fun z => by rw [z] at d1; cases d1
                have hdp := SeqAt.depth_of_shaped hs2.1
                refine PySem.W.rcLt_alike p p' X.A s v u as bs r1 r2 hs1.2 pn ?_ X.prog X.w _ _ ⟨.bl b, H, I, ?_, TRg.ok h' r (.bl _)⟩
                · have : min p.depth p'.depth ≤ p.depth := Nat.min_le_left _ _
                  omega
                · rw [← q] <;> rfl
              · simp only at q
                rw [if_neg hs] at q
                cases q
        | _ => simp [S.lt] at q
      | _ => simp [S.lt] at q
  | le =>
    cases rd <;> cases re <;> first
      | exact (show False from h).elim
      | exact op_le pins s σ H _ _ v u Q I rx ry ⟨_, _, rfl, rfl, TRg.ok h r (.bl _)⟩
  | gt =>
    cases rd <;> cases re <;> first
      | exact (show False from h).elim
      | exact op_gt pins s σ H _ _ v u Q I rx ry ⟨_, _, rfl, rfl, TRg.ok h r (.bl _)⟩
  | ge =>
    cases rd <;> cases re <;> first
      | exact (show False from h).elim
      | exact op_ge pins s σ H _ _ v u Q I rx ry ⟨_, _, rfl, rfl, TRg.ok h r (.bl _)⟩
  | isin =>
    have h' : TRg (tb X fa ca) W (Rp (tb X fa ca)) σ₀ F G m (match st.isIn d e with | some r => .ok (.bl r) st | none => .stuck) Q := h
    cases q : st.isIn d e with
    | none => rw [q] at h'; exact h'.elim
    | some b =>
      rw [q] at h'
      rcases in_cases I r rd re q with ⟨p, ps, h1, h2, h3, h4, rfl⟩ | ⟨a, c, k, xs, rfl, rfl, h1, h2, h3, rfl⟩ | ⟨p, ps, h1, h2, h3, h4, rfl⟩
      · exact op_inD (by omega) pins s σ H x y v u Q I rx ry ⟨p, ps, h1, h2, h3, h4, TRg.ok h' r (.bl _)⟩
      · cases rx
        cases ry
        exact wpAny_in_heap (show X.A.in1.units + 8 < cLine from by show X.A.units + 1 + 8 < cLine; omega) h1 h3 h2 ⟨.bl _, H, I.tok _, rfl, TRg.ok h' r (.bl _)⟩
      · obtain ⟨as, r1⟩ := Dp.reads I p x v h1 rx
        obtain ⟨bs, r2⟩ := Dp.reads I (.tuple ps) y u h2 ry
        exact SeqAt.in_tuple_reads r2 r1 (SeqAt.canLay_of_shaped h4) (SeqAt.canLay_of_shaped h3) (PyProof.Rows.room_in_shaped h3 (by omega)) ⟨.bl _, H, I, rfl, TRg.ok h' r (.bl _)⟩
  | notin =>
    have h' : TRg (tb X fa ca) W (Rp (tb X fa ca)) σ₀ F G m (match st.isIn d e with | some r => .ok (.bl (!r)) st | none => .stuck) Q := h
    cases q : st.isIn d e with
    | none => rw [q] at h'; exact h'.elim
    | some b =>
      rw [q] at h'
      rcases in_cases I r rd re q with ⟨p, ps, h1, h2, h3, h4, rfl⟩ | ⟨a, c, k, xs, rfl, rfl, h1, h2, h3, rfl⟩ | ⟨p, ps, h1, h2, h3, h4, rfl⟩
      · exact op_notInD (by omega) pins s σ H x y v u Q I rx ry ⟨p, ps, h1, h2, h3, h4, TRg.ok h' r (.bl _)⟩
      · cases rx
        cases ry
        show wpAny _ _ (contains (.ref c) (.ref a) >>= fun z => pure (Value.bool (!z))) _ _ s
        exact wpAny_bind (wpAny_contains_heap (show X.A.in1.units + 8 < cLine from by show X.A.units + 1 + 8 < cLine; omega) h1 h3 h2 (wpAny_pure ⟨.bl _, H, I.tok _, rfl, TRg.ok h' r (.bl _)⟩))
      · obtain ⟨as, r1⟩ := Dp.reads I p x v h1 rx
        obtain ⟨bs, r2⟩ := Dp.reads I (.tuple ps) y u h2 ry
        exact SeqAt.notIn_tuple_reads r2 r1 (SeqAt.canLay_of_shaped h4) (SeqAt.canLay_of_shaped h3) (PyProof.Rows.room_in_shaped h3 (by omega)) ⟨.bl _, H, I, rfl, TRg.ok h' r (.bl _)⟩
  | is =>
    cases re <;> first
      | exact (show False from h).elim
      | (refine op_isN pins s σ H _ _ v u Q I rx ry ⟨rfl, ?_⟩
         have e : isNon d = decide (x = V.non) := by cases rd <;> rfl
         rw [← e]
         exact TRg.ok h r (.bl _))
  | isnt =>
    cases re <;> first
      | exact (show False from h).elim
      | (refine op_notN pins s σ H _ _ v u Q I rx ry ⟨rfl, ?_⟩
         have e : isNon d = decide (x = V.non) := by cases rd <;> rfl
         rw [← e]
         exact TRg.ok h r (.bl _))
end
end Mi
set_option Elab.async false
set_option linter.all false
set_option maxRecDepth 100000
set_option maxHeartbeats 4000000
/-! Mi6: built-ins called with values. -/
namespace Mi
open PySem PySem.Spec PyProof.Rows L2

def rC (T : Tb) (W : WX) (σ₀ : L2.St) (ev : List D → S → Res D) : List V → Hp → VK → Prop := fun xs H Q =>
  ∃ F G m s ds, R T F G m s H ∧ Rps T G m ds xs ∧ TRg T W (Rp T) σ₀ F G m (ev ds s) Q
section
variable {X : Cx} {fa ca : Nat → Addr} {W : WX} {σ₀ : L2.St}
theorem allBl_vals {T : Tb} {G : Hp} {m : Mm} : ∀ {ds : List D} {bs : List Bool} {vs : List V}, allBl ds = some bs → Rps T G m ds vs → vs = bs.map V.bl
  | [], _, _, h, r => by
    simp only [allBl, Option.some.injEq] at h
    subst h
    cases r
    rfl
  | d :: ds, bs, _, h, .cons r1 r2 => by
    cases r1 with
    | bl b =>
      simp only [allBl, Option.map_eq_some_iff] at h
      obtain ⟨bs', e1, rfl⟩ := h
      rw [allBl_vals e1 r2]
      rfl
    | _ => simp [allBl] at h
theorem allInt_vals {T : Tb} {G : Hp} {m : Mm} : ∀ {ds : List D} {bs : List Int} {vs : List V}, allInt ds = some bs → Rps T G m ds vs → vs = bs.map V.int
  | [], _, _, h, r => by
    simp only [allInt, Option.some.injEq] at h
    subst h
    cases r
    rfl
  | d :: ds, bs, _, h, .cons r1 r2 => by
    cases r1 with
    | int b =>
      simp only [allInt, Option.map_eq_some_iff] at h
      obtain ⟨bs', e1, rfl⟩ := h
      rw [allInt_vals e1 r2]
      rfl
    | _ => simp [allInt] at h
/-- one argument -/
theorem one_of {T : Tb} {G : Hp} {m : Mm} {d : D} {xs : List V} (r : Rps T G m [d] xs) : ∃ x, xs = [x] ∧ Rp T G m d x := by
  cases r with
  | cons a b => cases b; exact ⟨_, rfl, a⟩
theorem two_of {T : Tb} {G : Hp} {m : Mm} {d e : D} {xs : List V} (r : Rps T G m [d, e] xs) : ∃ x y, xs = [x, y] ∧ Rp T G m d x ∧ Rp T G m e y := by
  cases r with
  | cons a b =>
    obtain ⟨y, rfl, ry⟩ := one_of b
    exact ⟨_, y, rfl, a, ry⟩
theorem bi_len : CallR X (.builtin "len") (rC (tb X fa ca) W σ₀ (evBi .len)) := by
  intro pins s σ H xs us Q I rv h
  obtain ⟨F, G, m, st, ds, r, rd, h⟩ := h
  match ds, rd, h with
  | [], _, h => exact (show False from h).elim
  | _ :: _ :: _, rd, h => cases rd with | cons a _ => cases a <;> exact (show False from h).elim
  | [d], rd, h =>
    obtain ⟨x, rfl, rx⟩ := one_of rd
    have lists : (TRg (tb X fa ca) W (Rp (tb X fa ca)) σ₀ F G m (match st.items d with | some es => .ok (.int es.length) st | none => .stuck) Q) → wpAny (model X.prog X.w) X.A (call (.builtin "len") us) (EP X pins σ Q) X.xe s := by
      intro h
      cases q : st.items d with
      | none => rw [q] at h; exact h.elim
      | some es =>
        rw [q] at h
        obtain ⟨a, vs, rfl, ha, ra⟩ := r.items q rx
        exact call_len pins s σ H _ us Q I rv ⟨_, es.length, rfl, .inl ⟨vs, SqL.of ha, ra.length⟩, TRg.ok h r (.int _)⟩
    cases rx with
    | str y =>
      obtain ⟨hc, h⟩ := TRg.ite (show TRg (tb X fa ca) W (Rp (tb X fa ca)) σ₀ F G m (if y.length ≤ sizeLine then .ok (.int y.length) st else .stuck) Q from h)
      exact call_len pins s σ H _ us Q I rv ⟨_, y.length, rfl, ⟨hc, rfl⟩, TRg.ok h r (.int _)⟩
    | @tup a vs es h1 h2 => exact call_len pins s σ H _ us Q I rv ⟨_, es.length, rfl, .inr ⟨vs, SqT.sub r.gH h1, h2.length⟩, TRg.ok h r (.int _)⟩
    | @inp a ns h1 => exact call_len pins s σ H _ us Q I rv ⟨_, ns.length, rfl, .inl ⟨_, SqL.sub r.gH h1, by rw [List.length_map]⟩, TRg.ok h r (.int _)⟩
    | lst h1 h2 => exact lists h
    | ref e => exact lists h
    | _ => exact (show False from h).elim
theorem bi_all (hc : X.calm = true) : CallR X (.builtin "all") (rC (tb X fa ca) W σ₀ (evBi .all)) := by
  intro pins s σ H xs us Q I rv h
  obtain ⟨F, G, m, st, ds, r, rd, h⟩ := h
  match ds, rd, h with
  | [], _, h => exact (show False from h).elim
  | _ :: _ :: _, rd, h => exact (show False from h).elim
  | [d], rd, h =>
    obtain ⟨x, rfl, rx⟩ := one_of rd
    have h' : TRg (tb X fa ca) W (Rp (tb X fa ca)) σ₀ F G m (match (st.items d).bind allBl with | some bs => .ok (.bl (bs.all id)) st | none => .stuck) Q := h
    cases q : st.items d with
    | none => rw [q] at h'; exact h'.elim
    | some es =>
      obtain ⟨a, vs, rfl, ha, ra⟩ := r.items q rx
      cases q2 : allBl es with
      | none => rw [q] at h'; simp only [Option.bind_some, q2] at h'; exact h'.elim
      | some bs =>
        rw [q] at h'
        simp only [Option.bind_some, q2] at h'
        rw [allBl_vals q2 ra] at ha
        exact cr_all hc pins s σ H _ us Q I rv ⟨a, bs, rfl, SqL.of ha, TRg.ok h' r (.bl _)⟩
theorem bi_any (hc : X.calm = true) : CallR X (.builtin "any") (rC (tb X fa ca) W σ₀ (evBi .any)) := by
  intro pins s σ H xs us Q I rv h
  obtain ⟨F, G, m, st, ds, r, rd, h⟩ := h
  match ds, rd, h with
  | [], _, h => exact (show False from h).elim
  | _ :: _ :: _, rd, h => exact (show False from h).elim
  | [d], rd, h =>
    obtain ⟨x, rfl, rx⟩ := one_of rd
    have h' : TRg (tb X fa ca) W (Rp (tb X fa ca)) σ₀ F G m (match (st.items d).bind allBl with | some bs => .ok (.bl (bs.any id)) st | none => .stuck) Q := h
    cases q : st.items d with
    | none => rw [q] at h'; exact h'.elim
    | some es =>
      obtain ⟨a, vs, rfl, ha, ra⟩ := r.items q rx
      cases q2 : allBl es with
      | none => rw [q] at h'; simp only [Option.bind_some, q2] at h'; exact h'.elim
      | some bs =>
        rw [q] at h'
        simp only [Option.bind_some, q2] at h'
        rw [allBl_vals q2 ra] at ha
        exact cr_any hc pins s σ H _ us Q I rv ⟨a, bs, rfl, SqL.of ha, TRg.ok h' r (.bl _)⟩
theorem bi_sum (hc : X.calm = true) : CallR X (.builtin "sum") (rC (tb X fa ca) W σ₀ (evBi .sum)) := by
  intro pins s σ H xs us Q I rv h
  obtain ⟨F, G, m, st, ds, r, rd, h⟩ := h
  match ds, rd, h with
  | [], _, h => exact (show False from h).elim
  | _ :: _ :: _, rd, h => exact (show False from h).elim
  | [d], rd, h =>
    obtain ⟨x, rfl, rx⟩ := one_of rd
    have h' : TRg (tb X fa ca) W (Rp (tb X fa ca)) σ₀ F G m (match (st.items d).bind allInt with | some bs => .ok (.int bs.sum) st | none => .stuck) Q := h
    cases q : st.items d with
    | none => rw [q] at h'; exact h'.elim
    | some es =>
      obtain ⟨a, vs, rfl, ha, ra⟩ := r.items q rx
      cases q2 : allInt es with
      | none => rw [q] at h'; simp only [Option.bind_some, q2] at h'; exact h'.elim
      | some bs =>
        rw [q] at h'
        simp only [Option.bind_some, q2] at h'
        rw [allInt_vals q2 ra] at ha
        exact cr_sum hc pins s σ H _ us Q I rv ⟨a, bs, rfl, SqL.of ha, TRg.ok h' r (.int _)⟩
theorem foldl_min_spec : ∀ (ns : List Int) (n : Int), (ns.foldl min n ∈ n :: ns) ∧ ∀ y ∈ n :: ns, ns.foldl min n ≤ y
  | [], n => ⟨List.mem_cons_self, fun y hy => by rw [List.mem_singleton.mp hy]; exact Int.le_refl _⟩
  | k :: ns, n => by
    obtain ⟨h1, h2⟩ := foldl_min_spec ns (min n k)
    have h3 := h2 (min n k) List.mem_cons_self
    refine ⟨?_, fun y hy => ?_⟩
    · rw [List.foldl_cons]
      rcases List.mem_cons.mp h1 with h | h
      · rw [h]
        rcases Int.le_total n k with z | z
        · rw [Int.min_eq_left z]; exact List.mem_cons_self
        · rw [Int.min_eq_right z]; exact List.mem_cons_of_mem _ List.mem_cons_self
      · exact List.mem_cons_of_mem _ (List.mem_cons_of_mem _ h)
    · rw [List.foldl_cons]
      rcases List.mem_cons.mp hy with rfl | hy
      · have := Int.min_le_left y k; omega
      · rcases List.mem_cons.mp hy with rfl | hy
        · have := Int.min_le_right n y; omega
        · exact h2 y (List.mem_cons_of_mem _ hy)
theorem foldl_max_spec : ∀ (ns : List Int) (n : Int), (ns.foldl max n ∈ n :: ns) ∧ ∀ y ∈ n :: ns, y ≤ ns.foldl max n
  | [], n => ⟨List.mem_cons_self, fun y hy => by rw [List.mem_singleton.mp hy]; exact Int.le_refl _⟩
  | k :: ns, n => by
    obtain ⟨h1, h2⟩ := foldl_max_spec ns (max n k)
    have h3 := h2 (max n k) List.mem_cons_self
    refine ⟨?_, fun y hy => ?_⟩
    · rw [List.foldl_cons]
      rcases List.mem_cons.mp h1 with h | h
      · rw [h]
        rcases Int.le_total n k with z | z
        · rw [Int.max_eq_right z]; exact List.mem_cons_of_mem _ List.mem_cons_self
        · rw [Int.max_eq_left z]; exact List.mem_cons_self
      · exact List.mem_cons_of_mem _ (List.mem_cons_of_mem _ h)
    · rw [List.foldl_cons]
      rcases List.mem_cons.mp hy with rfl | hy
      · have := Int.le_max_left y k; omega
      · rcases List.mem_cons.mp hy with rfl | hy
        · have := Int.le_max_right n y; omega
        · exact h2 y (List.mem_cons_of_mem _ hy)
theorem allTupI_at : ∀ {ds : List D} {ts : List (List Int)}, allTupI ds = some ts → ds = ts.map fun t => .tup (t.map .int)
  | [], ts, h => by cases h; rfl
  | d :: ds, ts, h => by
    cases d with
    | tup xs =>
      have h' : (match allInt xs, allTupI ds with | some a, some b => some (a :: b) | _, _ => none) = some ts := h
      cases e1 : allInt xs with
      | none => rw [e1] at h'; cases h'
      | some a =>
        cases e2 : allTupI ds with
        | none => rw [e1, e2] at h'; cases h'
        | some b =>
          rw [e1, e2] at h'
          cases h'
          rw [List.map_cons, ← allTupI_at e2]
          congr 2
          have key : ∀ {xs : List D} {a : List Int}, allInt xs = some a → xs = a.map .int := by
            intro xs
            induction xs with
            | nil => intro a h; cases h; rfl
            | cons x xs ih =>
              intro a h
              cases x with
              | int i =>
                simp only [allInt, Option.map_eq_some_iff] at h
                obtain ⟨b, e, rfl⟩ := h
                rw [ih e]
                rfl
              | _ => simp [allInt] at h
          exact key e1
    | _ => simp [allTupI] at h
theorem minTI_map (t : List Int) (ts : List (List Int)) : PySem.W.minD (tupP t) (ts.map tupP) = tupP (minTI t ts) := by
  unfold PySem.W.minD minTI
  induction ts generalizing t with
  | nil => rfl
  | cons y ts ih =>
    rw [List.map_cons, List.foldl_cons, List.foldl_cons]
    by_cases h : PySem.W.dataLt (tupP y) (tupP t) = true
    · rw [if_pos h, if_pos h, ih]
    · rw [if_neg h, if_neg h, ih]
theorem tupP_inj {a b : List Int} (h : tupP a = tupP b) : a = b := by
  unfold tupP at h
  simp only [PyData.tuple.injEq] at h
  have := congrArg (List.map fun p : PyData => match p with | .int i => i | _ => 0) h
  simpa [List.map_map, Function.comp_def] using this
theorem vals_get' : ∀ {xs : List V} {us : List Value} {i : Nat} {u : Value}, Vals xs us → us[i]? = some u → ∃ x, xs[i]? = some x ∧ RelV x u
  | _, _, 0, u, .cons h _, e => ⟨_, rfl, by cases e; exact h⟩
  | _, _, i + 1, u, .cons _ h, e => by
    obtain ⟨x, e1, e2⟩ := vals_get' h (by simpa using e)
    exact ⟨x, by simpa using e1, e2⟩
  | _, _, _, _, .nil, e => by simp at e
theorem bi_min1 (hc : X.calm = true) (hu : X.A.units + 80 < cLine) {pins : List (Addr × Obj)} {s : Shared} {σ : L2.St} {F G H : Hp} {m : Mm} {st : S} {d : D} {x : V} {u : Value} {Q : VK} (I : Inv X pins σ H s) (r : R (tb X fa ca) F G m st H) (rx : Rp (tb X fa ca) G m d x) (ru : RelV x u)
    (h : TRg (tb X fa ca) W (Rp (tb X fa ca)) σ₀ F G m (minL st d) Q) : wpAny (model X.prog X.w) X.A (call (.builtin "min") [u]) (EP X pins σ Q) X.xe s := by
  unfold minL at h
  cases q : st.items d with
  | none => rw [q] at h; exact h.elim
  | some es =>
    simp only [q] at h
    obtain ⟨a, vs, rfl, ha, ra⟩ := r.items q rx
    cases q2 : allInt es with
    | some ns =>
      rw [q2] at h
      cases ns with
      | nil => exact h.elim
      | cons n ns =>
        simp only at h
        rw [allInt_vals q2 ra] at ha
        refine cr_min hc pins s σ H [.ref a] [u] Q I (.cons ru .nil) ⟨a, n :: ns, rfl, SqL.of ha, by simp, fun k hk hle => ?_⟩
        obtain ⟨h1, h2⟩ := foldl_min_spec ns n
        have : k = ns.foldl min n := Int.le_antisymm (hle _ h1) (h2 _ hk)
        rw [this]
        exact TRg.ok h r (.int _)
    | none =>
      rw [q2] at h
      simp only at h
      cases q3 : allTupI es with
      | none => rw [q3] at h; exact h.elim
      | some ts =>
        rw [q3] at h
        cases ts with
        | nil => exact h.elim
        | cons t ts =>
          simp only at h
          obtain ⟨hal, h⟩ := TRg.ite h
          have hes := allTupI_at q3
          cases ru
          obtain ⟨its, rvs, pl, hz⟩ := I.list (SqL.of (K := X.K) ha)
          have hpy : st.pys es = some ((t :: ts).map tupP) := by
            rw [hes]
            clear h q3 hal hes
            generalize (t :: ts) = us
            induction us with
            | nil => rfl
            | cons u us ih =>
              show toPys _ _ = _
              rw [List.map_cons, toPys]
              have e1 : toPy (st.look 4) (.tup (u.map .int)) = some (tupP u) := by
                show (toPys _ (u.map .int)).map PyData.tuple = _
                have : ∀ l : List Int, toPys (st.look 4) (l.map .int) = some (l.map .int) := by
                  intro l
                  induction l with
                  | nil => rfl
                  | cons k l ih => rw [List.map_cons, toPys, ih]; rfl
                rw [this]
                rfl
              rw [e1, show toPys (st.look 4) (us.map fun t => D.tup (t.map .int)) = some (us.map tupP) from ih]
              rfl
          have hdp := r.pys hpy ra
          obtain ⟨as, hra⟩ := Dp.readsAll I _ _ _ hdp rvs
          have hdep : PyData.depthAll ((t :: ts).map tupP) ≤ 2 := by
            generalize (t :: ts) = us
            induction us with
            | nil => simp [PyData.depthAll]
            | cons u us ih =>
              have h0 : PyData.depthAll (u.map PyData.int) ≤ 0 := by
                induction u with
                | nil => simp [PyData.depthAll]
                | cons k u ih => simp only [List.map_cons, PyData.depthAll, PyData.depth]; omega
              simp only [List.map_cons, PyData.depthAll, tupP, PyData.depth] at ih ⊢
              omega
          refine PySem.W.min_list_data (x := tupP t) (xs := ts.map tupP) (I.ok.hd hc) pl.isList (by simpa using hra) ⟨fun x hx y hy => ?_, fun x hx => ?_⟩ (by rw [← List.map_cons]; omega) fun i v h' tk bs hv hr hk => ?_
          · unfold alikeTs at hal
            rw [List.all_eq_true] at hal
            have h1 := hal x (by simpa using hx)
            rw [List.all_eq_true] at h1
            exact h1 y (by simpa using hy)
          · rw [← List.map_cons] at hx
            obtain ⟨u, _, rfl⟩ := List.mem_map.mp hx
            exact fun z => by cases z
          · have hv' : its[i]? = some v := by simpa using hv
            obtain ⟨vv, e1, rv1⟩ := vals_get' rvs hv'
            obtain ⟨dd, e2, rp1⟩ := ra.get' e1
            rw [hes, List.getElem?_map] at e2
            cases e3 : (t :: ts)[i]? with
            | none => rw [e3] at e2; cases e2
            | some u =>
              rw [e3] at e2
              cases e2
              obtain ⟨bs2, r2, _⟩ := PySem.W.readsAll_at hra i v (by simpa using hv)
              rw [minTI_map] at hr
              have hu2 : ((t :: ts).map tupP).getD i .none = tupP u := by
                rw [List.getD_eq_getElem?_getD, List.getElem?_map, e3]
                rfl
              rw [hu2] at r2
              have := (PySem.Reads.unique (PyProof.Rows.Reads.keeps hk r2) _ _ hr).1
              have hu3 := tupP_inj this
              subst hu3
              exact ⟨vv, H, I.kept hk, rv1, TRg.ok h r rp1⟩
theorem bi_max1 (hc : X.calm = true) {pins : List (Addr × Obj)} {s : Shared} {σ : L2.St} {F G H : Hp} {m : Mm} {st : S} {d : D} {x : V} {u : Value} {Q : VK} (I : Inv X pins σ H s) (r : R (tb X fa ca) F G m st H) (rx : Rp (tb X fa ca) G m d x) (ru : RelV x u)
    (h : TRg (tb X fa ca) W (Rp (tb X fa ca)) σ₀ F G m (maxL st d) Q) : wpAny (model X.prog X.w) X.A (call (.builtin "max") [u]) (EP X pins σ Q) X.xe s := by
  unfold maxL at h
  cases q : st.items d with
  | none => rw [q] at h; exact h.elim
  | some es =>
    simp only [q] at h
    obtain ⟨a, vs, rfl, ha, ra⟩ := r.items q rx
    cases q2 : allInt es with
    | some ns =>
      rw [q2] at h
      cases ns with
      | nil => exact h.elim
      | cons n ns =>
        simp only at h
        rw [allInt_vals q2 ra] at ha
        refine cr_max hc pins s σ H [.ref a] [u] Q I (.cons ru .nil) ⟨a, n :: ns, rfl, SqL.of ha, by simp, fun k hk hle => ?_⟩
        obtain ⟨h1, h2⟩ := foldl_max_spec ns n
        have : k = ns.foldl max n := Int.le_antisymm (h2 _ hk) (hle _ h1)
        rw [this]
        exact TRg.ok h r (.int _)
    | none => rw [q2] at h; exact h.elim
theorem bi_min2 (hc : X.calm = true) (hu : X.A.units + 80 < cLine) : CallR X (.builtin "min") (rC (tb X fa ca) W σ₀ (evBi .min2)) := by
  intro pins s σ H xs us Q I rv h
  obtain ⟨F, G, m, st, ds, r, rd, h⟩ := h
  match ds, rd, h with
  | [], _, h => exact (show False from h).elim
  | [d], rd, h =>
    obtain ⟨x, rfl, rx⟩ := one_of rd
    obtain ⟨u, rfl, ru⟩ := vals1 rv
    exact bi_min1 hc hu I r rx ru (by cases d <;> exact h)
  | d :: e :: c :: l, rd, h =>
    cases rd with
    | cons a b => cases b with | cons b c => cases a <;> cases b <;> exact (show False from h).elim
  | [d, e], rd, h =>
    obtain ⟨x, y, rfl, rx, ry⟩ := two_of rd
    cases rx <;> cases ry <;> first
      | exact (show False from h).elim
      | exact call_min2 hc pins s σ H _ us Q I rv ⟨_, _, rfl, TRg.ok h r (.int _)⟩
theorem bi_max2 (hc : X.calm = true) : CallR X (.builtin "max") (rC (tb X fa ca) W σ₀ (evBi .max2)) := by
  intro pins s σ H xs us Q I rv h
  obtain ⟨F, G, m, st, ds, r, rd, h⟩ := h
  match ds, rd, h with
  | [], _, h => exact (show False from h).elim
  | [d], rd, h =>
    obtain ⟨x, rfl, rx⟩ := one_of rd
    obtain ⟨u, rfl, ru⟩ := vals1 rv
    exact bi_max1 hc I r rx ru (by cases d <;> exact h)
  | d :: e :: c :: l, rd, h =>
    cases rd with
    | cons a b => cases b with | cons b c => cases a <;> cases b <;> exact (show False from h).elim
  | [d, e], rd, h =>
    obtain ⟨x, y, rfl, rx, ry⟩ := two_of rd
    cases rx <;> cases ry <;> first
      | exact (show False from h).elim
      | exact call_max2 hc pins s σ H _ us Q I rv ⟨_, _, rfl, TRg.ok h r (.int _)⟩
theorem bi_divmod : CallR X (.builtin "divmod") (rC (tb X fa ca) W σ₀ (evBi .divmod)) := by
  intro pins s σ H xs us Q I rv h
  obtain ⟨F, G, m, st, ds, r, rd, h⟩ := h
  match ds, rd, h with
  | [], _, h => exact (show False from h).elim
  | [d], rd, h => obtain ⟨x, rfl, rx⟩ := one_of rd; cases rx <;> exact (show False from h).elim
  | d :: e :: c :: l, rd, h =>
    cases rd with
    | cons a b => cases b with | cons b c => cases a <;> cases b <;> exact (show False from h).elim
  | [d, e], rd, h =>
    obtain ⟨x, y, rfl, rx, ry⟩ := two_of rd
    cases rx <;> cases ry <;> first
      | exact (show False from h).elim
      | (obtain ⟨hc, h⟩ := TRg.ite h
         exact call_divmod pins s σ H _ us Q I rv ⟨_, _, rfl, hc, h.new r fun p hp => .tup (SqT.of upd_same) (.cons (.int _) (.cons (.int _) .nil))⟩)
theorem bi_abs : CallR X (.builtin "abs") (rC (tb X fa ca) W σ₀ (evBi .abs)) := by
  intro pins s σ H xs us Q I rv h
  obtain ⟨F, G, m, st, ds, r, rd, h⟩ := h
  match ds, rd, h with
  | [], _, h => exact (show False from h).elim
  | d :: e :: l, rd, h => cases rd with | cons a b => cases a <;> exact (show False from h).elim
  | [d], rd, h =>
    obtain ⟨x, rfl, rx⟩ := one_of rd
    cases rx <;> first
      | exact (show False from h).elim
      | exact call_abs pins s σ H _ us Q I rv ⟨_, rfl, TRg.ok h r (.int _)⟩
theorem bi_int : CallR X (.type "int") (rC (tb X fa ca) W σ₀ (evBi .int)) := by
  intro pins s σ H xs us Q I rv h
  obtain ⟨F, G, m, st, ds, r, rd, h⟩ := h
  match ds, rd, h with
  | [], _, h => exact (show False from h).elim
  | d :: e :: l, rd, h => cases rd with | cons a b => cases a <;> exact (show False from h).elim
  | [d], rd, h =>
    obtain ⟨x, rfl, rx⟩ := one_of rd
    cases rx <;> first
      | exact (show False from h).elim
      | exact call_int1 pins s σ H _ us Q I rv (.inl ⟨_, rfl, TRg.ok h r (.int _)⟩)
      | exact call_int1 pins s σ H _ us Q I rv (.inr ⟨_, rfl, TRg.ok h r (.int _)⟩)
theorem bi_str : CallR X (.type "str") (rC (tb X fa ca) W σ₀ (evBi .str)) := by
  intro pins s σ H xs us Q I rv h
  obtain ⟨F, G, m, st, ds, r, rd, h⟩ := h
  match ds, rd, h with
  | [], _, h => exact (show False from h).elim
  | d :: e :: l, rd, h => cases rd with | cons a b => cases a <;> exact (show False from h).elim
  | [d], rd, h =>
    obtain ⟨x, rfl, rx⟩ := one_of rd
    cases rx <;> first
      | exact (show False from h).elim
      | (obtain ⟨hc, h⟩ := TRg.ite h
         exact call_str_int pins s σ H _ us Q I rv ⟨_, rfl, hc, TRg.ok h r (.str _)⟩)
theorem bi_tuple : CallR X (.type "tuple") (rC (tb X fa ca) W σ₀ (evBi .tuple)) := by
  intro pins s σ H xs us Q I rv h
  obtain ⟨F, G, m, st, ds, r, rd, h⟩ := h
  match ds, rd, h with
  | [], _, h => exact (show False from h).elim
  | d :: e :: l, rd, h => cases rd with | cons a b => cases a <;> exact (show False from h).elim
  | [d], rd, h =>
    obtain ⟨x, rfl, rx⟩ := one_of rd
    have lists : (TRg (tb X fa ca) W (Rp (tb X fa ca)) σ₀ F G m (match st.items d with | some es => .ok (.tup es) st | none => .stuck) Q) → wpAny (model X.prog X.w) X.A (call (.type "tuple") us) (EP X pins σ Q) X.xe s := by
      intro h
      cases q : st.items d with
      | none => rw [q] at h; exact h.elim
      | some es =>
        rw [q] at h
        obtain ⟨a, vs, rfl, ha, ra⟩ := r.items q rx
        exact call_tuple_of pins s σ H _ us Q I rv ⟨a, vs, rfl, .inl ⟨SqL.of ha, h.new r fun p hp => .tup (SqT.of upd_same) (ra.mono (Ext.upd (none_of_sub r.gH hp)))⟩⟩
    cases rx with
    | @tup a vs es h1 h2 => exact call_tuple_of pins s σ H _ us Q I rv ⟨a, vs, rfl, .inr ⟨SqT.sub r.gH h1, TRg.ok h r (.tup h1 h2)⟩⟩
    | lst h1 h2 => exact lists h
    | ref e => exact lists h
    | _ => exact (show False from h).elim
theorem bi_list : CallR X (.type "list") (rC (tb X fa ca) W σ₀ (evBi .list)) := by
  intro pins s σ H xs us Q I rv h
  obtain ⟨F, G, m, st, ds, r, rd, h⟩ := h
  match ds, rd, h with
  | [], _, h => exact (show False from h).elim
  | d :: e :: l, rd, h => cases rd with | cons a b => cases a <;> exact (show False from h).elim
  | [d], rd, h =>
    obtain ⟨x, rfl, rx⟩ := one_of rd
    have lists : (TRg (tb X fa ca) W (Rp (tb X fa ca)) σ₀ F G m (match st.items d with | some es => .ok (.lst es) st | none => .stuck) Q) → wpAny (model X.prog X.w) X.A (call (.type "list") us) (EP X pins σ Q) X.xe s := by
      intro h
      cases q : st.items d with
      | none => rw [q] at h; exact h.elim
      | some es =>
        rw [q] at h
        obtain ⟨a, vs, rfl, ha, ra⟩ := r.items q rx
        exact call_list_of pins s σ H _ us Q I rv ⟨a, vs, rfl, .inl (SqL.of ha), h.new r fun p hp => .lst upd_same (ra.mono (Ext.upd (none_of_sub r.gH hp)))⟩
    cases rx with
    | @tup a vs es h1 h2 => exact call_list_of pins s σ H _ us Q I rv ⟨a, vs, rfl, .inr (SqT.sub r.gH h1), h.new r fun p hp => .lst upd_same (h2.mono (Ext.upd (none_of_sub r.gH hp)))⟩
    | lst h1 h2 => exact lists h
    | ref e => exact lists h
    | _ => exact (show False from h).elim
theorem bi_repr (hu : X.A.units + 80 < cLine) (hg : X.A.guards = some []) : CallR X (.builtin "repr") (rC (tb X fa ca) W σ₀ (evBi .repr)) := by
  intro pins s σ H xs us Q I rv h
  obtain ⟨F, G, m, st, ds, r, rd, h⟩ := h
  match ds, rd, h with
  | [], _, h => exact (show False from h).elim
  | d :: e :: l, rd, h => cases rd with | cons a b => cases a <;> exact (show False from h).elim
  | [d], rd, h =>
    obtain ⟨x, rfl, rx⟩ := one_of rd
    have h' : TRg (tb X fa ca) W (Rp (tb X fa ca)) σ₀ F G m (match st.py d with | some p => if (p.showable && !p.hasDict && decide (p.depth ≤ 64) && decide (p.shown.length ≤ sizeLine)) = true then .ok (.str p.shown) st else .stuck | none => .stuck) Q := h
    cases q : st.py d with
    | none => rw [q] at h'; exact h'.elim
    | some p =>
      rw [q] at h'
      obtain ⟨hc, h'⟩ := TRg.ite h'
      have c1 := Bool.and_eq_true_iff.mp hc
      have c2 := Bool.and_eq_true_iff.mp c1.1
      have c3 := Bool.and_eq_true_iff.mp c2.1
      have hd : p.hasDict = false := by simpa using c3.2
      have hdep : p.depth ≤ 64 := of_decide_eq_true c2.2
      have hsz : p.shown.length ≤ sizeLine := of_decide_eq_true c1.2
      have dp := r.py q rx
      obtain ⟨u, rfl, ru⟩ := vals1 rv
      have z := TRg.ok h' r (.str p.shown)
      obtain ⟨as, rr⟩ := Dp.reads I p x u dp ru
      cases dp with
      | non => cases ru; exact PySem.P.repr_of_none ⟨.str _, H, I.tok _, ⟨_, rfl⟩, z⟩
      | bl b => cases ru; exact PySem.P.repr_of_bool ⟨.str _, H, I.tok _, ⟨_, rfl⟩, z⟩
      | int i => obtain ⟨t, rfl⟩ := ru; exact PySem.P.repr_of_int (by simpa [PyData.showable] using c3.1) ⟨.str _, H, I.tok _, ⟨_, rfl⟩, z⟩
      | str y => obtain ⟨t, rfl⟩ := ru; exact PySem.P.repr_of_str ⟨.str _, H, I.tok _, ⟨_, rfl⟩, z⟩ hsz
      | lst h1 h2 =>
        cases ru
        exact repr_of_reads' (h₀ := s.heap) rr c3.1 (PyData.noDict_hsm hd) hg (by omega) (fun _ _ e => e) (fun h1 u tk hk => ⟨.str _, H, I.kept hk, ⟨_, rfl⟩, z⟩) hsz
      | tup h1 h2 =>
        cases ru
        exact repr_of_reads' (h₀ := s.heap) rr c3.1 (PyData.noDict_hsm hd) hg (by omega) (fun _ _ e => e) (fun h1 u tk hk => ⟨.str _, H, I.kept hk, ⟨_, rfl⟩, z⟩) hsz
end
end Mi
set_option Elab.async false
set_option linter.all false
set_option maxRecDepth 100000
set_option maxHeartbeats 400000
/-! Mi7a: sorted, of tuples whose first parts are all unlike: what stands behind these need not be comparable. -/
namespace Mi
open PySem PySem.W PyProof.Rows PySem.Calls
/-- the kind of keys: the first parts -/
noncomputable def fstKind (h : Heap) (ds : List PyData) : PyProof.Rows.KeyKind where
  toKeyOrd := listOrd itemOrd
  keyOf v := open Classical in if q : ∃ d, d ∈ ds ∧ ∃ as, Reads h v d as then some (keyToks (fstD q.choose)) else none
  dflt := ([] : List (Int ⊕ List Nat))
structure Fsts (ds : List PyData) : Prop where
  tup : ∀ d ∈ ds, ∃ x r, d = .tuple (x :: r)
  self : ∀ d ∈ ds, alike d d = true
  al : ∀ d ∈ ds, ∀ d' ∈ ds, alike (fstD d) (fstD d') = true
  two : ∀ d ∈ ds, ∀ d' ∈ ds, d = d' ∨ PyData.eqv (fstD d) (fstD d') = false
theorem apart_of : ∀ {ds : List PyData}, apart ds = true → (∀ d ∈ ds, alike d d = true) → (∀ d ∈ ds, ∃ x r, d = .tuple (x :: r)) → (∀ d ∈ ds, ∀ d' ∈ ds, alike (fstD d) (fstD d') = true) ∧ ∀ d ∈ ds, ∀ d' ∈ ds, d = d' ∨ PyData.eqv (fstD d) (fstD d') = false
  | [], _, _, _ => ⟨fun _ h => (by cases h), fun _ h => (by cases h)⟩
  | p :: ps, h, hs, ht => by
    unfold apart at h
    rw [Bool.and_eq_true, List.all_eq_true] at h
    obtain ⟨i1, i2⟩ := apart_of h.2 (fun d hd => hs d (List.mem_cons_of_mem _ hd)) fun d hd => ht d (List.mem_cons_of_mem _ hd)
    have k : ∀ q ∈ ps, alike (fstD p) (fstD q) = true ∧ alike (fstD q) (fstD p) = true ∧ PyData.eqv (fstD p) (fstD q) = false ∧ PyData.eqv (fstD q) (fstD p) = false := fun q hq => by
      have := h.1 q hq
      simpa [and_assoc] using this
    have self : alike (fstD p) (fstD p) = true := by
      obtain ⟨x, r, rfl⟩ := ht p List.mem_cons_self
      have := hs _ (List.mem_cons_self (a := PyData.tuple (x :: r)) (l := ps))
      rw [alike] at this
      exact (alike_all_cons this).1
    constructor
    · intro d hd d' hd'
      rcases List.mem_cons.mp hd with e1 | e1
      · rcases List.mem_cons.mp hd' with e2 | e2
        · rw [e1, e2]; exact self
        · rw [e1]; exact (k d' e2).1
      · rcases List.mem_cons.mp hd' with e2 | e2
        · rw [e2]; exact (k d e1).2.1
        · exact i1 d e1 d' e2
    · intro d hd d' hd'
      rcases List.mem_cons.mp hd with e1 | e1
      · rcases List.mem_cons.mp hd' with e2 | e2
        · rw [e1, e2]; exact .inl rfl
        · rw [e1]; exact .inr (k d' e2).2.2.1
      · rcases List.mem_cons.mp hd' with e2 | e2
        · rw [e2]; exact .inr (k d e1).2.2.2
        · exact i2 d e1 d' e2
theorem fsts_of {ds : List PyData} (h : sortFst ds = true) : Fsts ds ∧ ∀ d ∈ ds, d.depth ≤ 64 := by
  unfold sortFst at h
  simp only [Bool.and_eq_true, List.all_eq_true, decide_eq_true_eq] at h
  obtain ⟨⟨⟨h1, h2⟩, h3⟩, h4⟩ := h
  have ht : ∀ d ∈ ds, ∃ x r, d = PyData.tuple (x :: r) := fun d hd => by
    have q := h1 d hd
    cases d with
    | tuple xs =>
      cases xs with
      | nil => simp [isTup] at q
      | cons x r => exact ⟨x, r, rfl⟩
    | _ => simp [isTup] at q
  obtain ⟨k1, k2⟩ := apart_of h3 h2 ht
  exact ⟨⟨ht, h2, k1, k2⟩, h4⟩
theorem first_reads {h : Heap} {v : Value} {x x' : PyData} {r r' : List PyData} {as as' : List Addr} (ha : alike x x' = true) (h1 : Reads h v (.tuple (x :: r)) as) (h2 : Reads h v (.tuple (x' :: r')) as') : x = x' := by
  cases h1 with
  | tuple a1 a2 a3 a4 =>
    cases h2 with
    | tuple b1 b2 b3 b4 =>
      rw [a1] at b1; cases b1
      rw [a3] at b3; cases b3
      generalize hL : Array.toList _ = L at a4 b4
      cases a4 with
      | cons c1 c2 =>
        cases b4 with
        | cons d1 d2 => exact alike_unique _ _ _ _ _ ha c1 d1
theorem fstKind_some {h : Heap} {ds : List PyData} (F : Fsts ds) {v : Value} {d : PyData} {as : List Addr} (hd : d ∈ ds) (r : Reads h v d as) : (fstKind h ds).keyOf v = some (keyToks (fstD d)) := by
  have q : ∃ d, d ∈ ds ∧ ∃ as, Reads h v d as := ⟨d, hd, as, r⟩
  have e : (fstKind h ds).keyOf v = some (keyToks (fstD q.choose)) := by
    show (open Classical in if q : ∃ d, d ∈ ds ∧ ∃ as, Reads h v d as then some (keyToks (fstD q.choose)) else none) = _
    rw [dif_pos q]
  obtain ⟨h1, as', h2⟩ := q.choose_spec
  have ha := F.al _ h1 _ hd
  obtain ⟨x, t, e1⟩ := F.tup _ h1
  obtain ⟨x', t', rfl⟩ := F.tup _ hd
  rw [e1] at h2 ha
  rw [e, e1]
  have : x = x' := first_reads ha h2 r
  rw [this]
  rfl
theorem fstKind_inv {h : Heap} {ds : List PyData} {v : Value} {k : List (Int ⊕ List Nat)} (e : (fstKind h ds).keyOf v = some k) : ∃ d as, d ∈ ds ∧ Reads h v d as ∧ k = keyToks (fstD d) := by
  by_cases q : ∃ d, d ∈ ds ∧ ∃ as, Reads h v d as
  · have e' : (fstKind h ds).keyOf v = some (keyToks (fstD q.choose)) := by
      show (open Classical in if q : ∃ d, d ∈ ds ∧ ∃ as, Reads h v d as then some (keyToks (fstD q.choose)) else none) = _
      rw [dif_pos q]
    obtain ⟨h1, as', h2⟩ := q.choose_spec
    rw [e'] at e
    exact ⟨_, as', h1, h2, (Option.some.inj e).symm⟩
  · have e' : (fstKind h ds).keyOf v = none := by
      show (open Classical in if q : ∃ d, d ∈ ds ∧ ∃ as, Reads h v d as then some (keyToks (fstD q.choose)) else none) = _
      rw [dif_neg q]
      rfl
    rw [e'] at e
    exact absurd e (by simp)
section
variable {prog : Program} {w : World} {A : Around} {s : Shared}
theorem sortsAt_fst {vs : List Value} {ds : List PyData} (e : EachIs (fun v d => ∃ as, Reads s.heap v d as) vs ds) (F : Fsts ds) (hu : ∀ d, d ∈ ds → A.units + d.depth < cLine) : SortsAt prog w A s (fstKind s.heap ds) vs := by
  have room : ∀ {d d' : PyData}, d ∈ ds → A.units + min d.depth d'.depth < cLine := fun {d d'} hd => Nat.lt_of_le_of_lt (Nat.add_le_add_left (Nat.min_le_left _ _) _) (hu d hd)
  refine ⟨fun v hv => ?_, ?_⟩
  · obtain ⟨d, hd, as, r⟩ := e.left v hv
    exact ⟨_, fstKind_some F hd r⟩
  · cases ds with
    | nil =>
      cases e
      exact ⟨general', fun E x y a b Q ha _ _ => (by
        obtain ⟨d, _, hd, _⟩ := fstKind_inv ha
        exact absurd hd (by simp)), fun h2 => absurd h2 (by simp)⟩
    | cons d₀ ds₀ =>
      obtain ⟨x₀, r₀, e₀⟩ := F.tup d₀ (List.mem_cons_self ..)
      have hfirst : ∀ x r, PyData.tuple (x :: r) ∈ d₀ :: ds₀ → alike x x₀ = true := by
        intro x r hm
        have q := F.al _ hm d₀ (List.mem_cons_self ..)
        rw [e₀] at q
        exact q
      refine ⟨tuples' (dataType x₀ != Value.type "tuple"), ?_, fun h2 E Q hq => ?_⟩
      · intro E x y a b Q ha hb hq
        obtain ⟨d, as, hd, ra, rfl⟩ := fstKind_inv ha
        obtain ⟨d', as', hd', rb, rfl⟩ := fstKind_inv hb
        have hal := F.al d hd d' hd'
        have htwo := F.two d hd d' hd'
        have hself := F.self d hd
        have hroom := room (d' := d') hd
        obtain ⟨x1, r1, rfl⟩ := F.tup d hd
        obtain ⟨x2, r2, rfl⟩ := F.tup d' hd'
        have hq' : Q (PyProof.Rows.lexLt itemOrd (keyToks x1) (keyToks x2)) s := hq
        have hnt : (dataType x₀ != Value.type "tuple") = true → ∀ t, x1 ≠ .tuple t := fun hb t => by
          have q := dataType_alike (hfirst _ _ hd)
          rw [← q] at hb
          exact dataType_tuple hb t
        cases ra with
        | @tuple l o xs n _ _ h1 h2 h3 h4 =>
          cases rb with
          | @tuple l' o' xs' n' _ _ k1 k2 k3 k4 =>
            have n1 : xs.size = (x1 :: r1).length := by simpa using SeqAt.ReadsAll.length _ _ _ h4
            have n2 : xs'.size = (x2 :: r2).length := by simpa using SeqAt.ReadsAll.length _ _ _ k4
            rcases htwo with heq | hne
            · injection heq with heq
              rw [← heq] at k4 n2
              have hx : x1 = x2 := (List.cons.inj heq).1
              rw [← hx, lex_irrefl] at hq'
              refine kat_lt h1 h3 k1 k3 (katLex_alike (x1 :: r1) (x1 :: r1) 0 _ _ _ _ h4 k4 (by simpa [alike] using hself) (by have q := SeqAt.room_in hroom; rw [← heq] at q; omega) (fun hb _ x r t ex => ?_) (by rw [n1, n2]) (by rw [lex_irrefl]; exact hq'))
              obtain ⟨rfl, rfl⟩ := List.cons.inj ex
              exact hnt hb t
            · have hal : alike x1 x2 = true := hal
              have hne : PyData.eqv x1 x2 = false := hne
              refine kat_lt h1 h3 k1 k3 ?_
              have hin := SeqAt.room_in hroom
              have hin2 : A.units + min (PyData.depthAll (x1 :: r1)) (PyData.depthAll (x2 :: r2)) < cLine := by omega
              generalize hL : xs.toList = L at h4
              generalize hL' : xs'.toList = L' at k4
              cases h4 with
              | cons r rs =>
                cases k4 with
                | cons r' rs' =>
                  rw [List.zip_cons_cons]
                  refine kat_cons (eqAt_alike x1 x2 A s _ _ _ _ r r' hal (SeqAt.room_head hin2) prog w _ _ ?_)
                  rw [hne]
                  refine kat_no (oneLt_alike (fun hbi t => ?_) r r' hal (ne_none_of hal hne) (SeqAt.room_head hin2) hq')
                  rw [Bool.and_eq_true] at hbi
                  exact hnt hbi.1 t
      · obtain ⟨fs, t1, t2, t3⟩ := each_katTups e F.tup
        refine kat_kind (T := dataType x₀) t1 (by omega) (fun f hf => ?_) (beq_self_eq_true _) hq
        obtain ⟨x, r, as, m1, m2⟩ := t3 f hf
        rw [← dataType_alike (hfirst x r m1)]
        exact looks_reads m2
theorem fst_dataLt {ds : List PyData} (F : Fsts ds) {d d' : PyData} (hd : d ∈ ds) (hd' : d' ∈ ds) : dataLt d d' = PyProof.Rows.lexLt itemOrd (keyToks (fstD d)) (keyToks (fstD d')) := by
  have hal := F.al d hd d' hd'
  have htwo := F.two d hd d' hd'
  obtain ⟨x1, r1, rfl⟩ := F.tup d hd
  obtain ⟨x2, r2, rfl⟩ := F.tup d' hd'
  rcases htwo with h | h
  · rw [← h]
    show PyProof.Rows.lexLt itemOrd _ _ = PyProof.Rows.lexLt itemOrd _ _
    rw [lex_irrefl, lex_irrefl]
  · rw [dataLt_tuple]
    exact dataLt_all_no hal h
end
section
variable {prog : Program} {w : World} {A : Around} {E : Value → Shared → Prop} {s : Shared} {β : Type} {vs : List Value} {bs : List β} {enc : β → PyData} {R : Value → β → Prop}
theorem sorted_fst {l : Addr} {Q : Value → Shared → Prop} (hl : s.heap.IsList l vs.toArray) (e : EachIs R vs bs) (er : EachIs (fun v b => ∃ as, Reads s.heap v (enc b) as) vs bs) (F : Fsts (bs.map enc)) (hL : bs.length ≤ sizeLine)
    (hu : ∀ b, b ∈ bs → A.units + 2 + (enc b).depth < cLine) (h : ∀ out, out.length = bs.length → EachIs R out (bs.mergeSort (dataLe false enc)) → Q (.ref (s.heap.objs.size + 1)) { s with heap := sortedAll s.heap vs (List.toArray out) }) :
    wpAny (model prog w) A (call (.builtin "sorted") [.ref l]) Q E s := by
  have er' : EachIs (fun v b => ∃ as, Reads (sortingHeap (copyHeap s.heap vs) (s.heap.objs.size + 1) vs) v (enc b) as) vs bs := er.mono fun _ _ ⟨as, r⟩ => ⟨as, PyProof.Rows.Reads.keeps (fun _ _ => sorting_copy_old) r⟩
  refine sorted_vals hl (sortsAt_fst (s := { s with heap := sortingHeap (copyHeap s.heap vs) (s.heap.objs.size + 1) vs }) (each_map (R := fun v d => ∃ as, Reads (sortingHeap (copyHeap s.heap vs) (s.heap.objs.size + 1) vs) v d as) enc er') F (bound_map hu)) (by rw [e.length]; exact hL)
    (h _ (by rw [sortVals_length false rfl]; exact e.length) ?_)
  have hk : EachIs (fun v b => (fstKind (sortingHeap (copyHeap s.heap vs) (s.heap.objs.size + 1) vs) (bs.map enc)).keyOf v = some (keyToks (fstD (enc b)))) vs bs :=
    (each_mem er').mono fun v b ⟨⟨as, r⟩, hb⟩ => fstKind_some F (List.mem_map.mpr ⟨b, hb, rfl⟩) r
  have := sortVals_each (κ := fstKind (sortingHeap (copyHeap s.heap vs) (s.heap.objs.size + 1) vs) (bs.map enc)) (rev := false) (fun b => keyToks (fstD (enc b))) e hk
  have e2 : bs.mergeSort (sortLe (fstKind (sortingHeap (copyHeap s.heap vs) (s.heap.objs.size + 1) vs) (bs.map enc)).toKeyOrd false fun b => keyToks (fstD (enc b))) = bs.mergeSort (dataLe false enc) := by
    have := List.map_mergeSort (r := sortLe (fstKind (sortingHeap (copyHeap s.heap vs) (s.heap.objs.size + 1) vs) (bs.map enc)).toKeyOrd false fun b => keyToks (fstD (enc b))) (s := dataLe false enc) (f := fun b : β => b) (l := bs) (fun a ha b hb => by
      rw [dataLe_eq]
      show (!PyProof.Rows.lexLt itemOrd (keyToks (fstD (enc b))) (keyToks (fstD (enc a)))) = !dataLt (enc b) (enc a)
      rw [fst_dataLt F (List.mem_map.mpr ⟨b, hb, rfl⟩) (List.mem_map.mpr ⟨a, ha, rfl⟩)])
    simpa using this
  rw [← e2]
  exact this
end
end Mi
set_option Elab.async false
set_option linter.all false
set_option maxRecDepth 100000
set_option maxHeartbeats 400000
/-! Mi7: sorted. -/
namespace Mi
open PySem PySem.Spec PyProof.Rows L2
section
variable {X : Cx} {fa ca : Nat → Addr} {W : WX} {σ₀ : L2.St}
abbrev encD (st : S) (d : D) : PyData := (st.py d).getD .none
theorem leD_eq (st : S) : leD st = PySem.W.dataLe false (encD st) := by
  rw [PySem.W.dataLe_eq]
  rfl
theorem pys_map {st : S} : ∀ {ds : List D} {ps : List PyData}, st.pys ds = some ps → ds.map (encD st) = ps ∧ ∀ d ∈ ds, st.py d = some (encD st d)
  | [], ps, h => by
    simp only [S.pys, toPys, Option.some.injEq] at h
    subst h
    exact ⟨rfl, fun d hd => by cases hd⟩
  | d :: ds, ps, h => by
    simp only [S.pys, toPys] at h
    cases q1 : toPy (st.look 4) d with
    | none => rw [q1] at h; simp at h
    | some p =>
      cases q2 : toPys (st.look 4) ds with
      | none => rw [q1, q2] at h; simp at h
      | some ps' =>
        rw [q1, q2] at h
        simp only [Option.some.injEq] at h
        subst h
        obtain ⟨i1, i2⟩ := pys_map (st := st) (ds := ds) q2
        have e : encD st d = p := by
          show (toPy (st.look 4) d).getD .none = p
          rw [q1]
          rfl
        refine ⟨by rw [List.map_cons, e, i1], fun x hx => ?_⟩
        rcases List.mem_cons.mp hx with rfl | hx
        · rw [e]; exact q1
        · exact i2 x hx
theorem sort_each {pins : List (Addr × Obj)} {s : Shared} {σ : L2.St} {F G H : Hp} {m : Mm} {st : S} (I : Inv X pins σ H s) (r : R (tb X fa ca) F G m st H) : ∀ {ds : List D} {vs : List V} {us : List Value}, (∀ d ∈ ds, st.py d = some (encD st d)) → Rps (tb X fa ca) G m ds vs → Vals vs us →
    PySem.W.EachIs (fun u d => ∃ v, Rp (tb X fa ca) G m d v ∧ RelV v u) us ds ∧ PySem.W.EachIs (fun u d => ∃ as, Reads s.heap u (encD st d) as) us ds
  | [], _, _, _, .nil, .nil => ⟨.nil, .nil⟩
  | d :: ds, _, _, h, .cons a b, .cons c e => by
    obtain ⟨i1, i2⟩ := sort_each I r (fun d hd => h d (List.mem_cons_of_mem _ hd)) b e
    exact ⟨.cons ⟨_, a, c⟩ i1, .cons (Dp.reads I _ _ _ (r.py (h d List.mem_cons_self) a) c) i2⟩
theorem each_back {G : Hp} {m : Mm} {T : Tb} : ∀ {us : List Value} {ds : List D}, PySem.W.EachIs (fun u d => ∃ v, Rp T G m d v ∧ RelV v u) us ds → ∃ vs, Rps T G m ds vs ∧ Vals vs us
  | _, _, .nil => ⟨[], .nil, .nil⟩
  | _, _, .cons ⟨v, a, b⟩ t => by
    obtain ⟨vs, c, d⟩ := each_back t
    exact ⟨v :: vs, .cons a c, .cons b d⟩
theorem sortOk_of {st : S} {ds : List D} {ps : List PyData} (h : sortOk ps = true) (e : ds.map (encD st) = ps) : PySem.W.AllAlike (ds.map (encD st)) ∧ PySem.W.Sortable (ds.map (encD st)) ∧ ∀ d ∈ ds, (encD st d).depth ≤ 64 := by
  unfold sortOk at h
  rw [Bool.and_eq_true, Bool.and_eq_true, Bool.or_eq_true] at h
  obtain ⟨⟨h1, h2⟩, h3⟩ := h
  refine ⟨fun a ha b hb => ?_, ?_, fun d hd => ?_⟩
  · rw [e] at ha hb
    exact List.all_eq_true.mp (List.all_eq_true.mp h1 a ha) b hb
  · rw [e]
    rcases h2 with h2 | h2
    · refine .inl fun d hd => ?_
      have q := List.all_eq_true.mp h2 d hd
      cases d with
      | tuple xs =>
        cases xs with
        | nil => simp [isTup] at q
        | cons x r => exact ⟨x, r, rfl⟩
      | _ => simp [isTup] at q
    · refine .inr fun d hd => ?_
      have q := List.all_eq_true.mp h2 d hd
      cases d <;> first | (simp [isAtom] at q; done) | exact ⟨by simp, by simp⟩
  · have q := List.all_eq_true.mp h3 (encD st d) (by rw [← e]; exact List.mem_map.mpr ⟨d, hd, rfl⟩)
    exact of_decide_eq_true q
theorem vals_at : ∀ {vs : List V} {us : List Value}, us.length = vs.length → (∀ (j : Nat) u, us[j]? = some u → ∃ v, vs[j]? = some v ∧ RelV v u) → Vals vs us
  | [], [], _, _ => .nil
  | [], _ :: _, h, _ => by simp at h
  | _ :: _, [], h, _ => by simp at h
  | v :: vs, u :: us, h, k => by
    obtain ⟨v', e1, e2⟩ := k 0 u rfl
    cases e1
    exact .cons e2 (vals_at (by simpa using h) fun j w e => by simpa using k (j + 1) w (by simpa using e))
theorem paired_back {α β : Type} {P : α → β → Prop} : ∀ {l1 : List α} {l2 : List β} {i : Nat} {q : β}, Paired P l1 l2 → l2[i]? = some q → ∃ p, l1[i]? = some p ∧ P p q
  | _, _, 0, _, .cons z _, e => ⟨_, rfl, by simp at e; exact e ▸ z⟩
  | _, _, i + 1, _, .cons _ t, e => by
    obtain ⟨p, e1, e2⟩ := paired_back (i := i) t (by simpa using e)
    exact ⟨p, by simpa using e1, e2⟩
mutual
theorem reads_lt {h : Heap} : ∀ (p : PyData) {u : Value} {as : List Addr}, PySem.W.alike p p = true → Reads h u p as → ∀ a ∈ as, a < h.objs.size
  | .none, _, _, _, r, _, hm => by cases r; cases hm
  | .bool _, _, _, _, r, _, hm => by cases r; cases hm
  | .int _, _, _, _, r, _, hm => by cases r; cases hm
  | .str _, _, _, _, r, _, hm => by cases r; cases hm
  | .list ps, _, _, hal, r, a, hm => by
    cases r with
    | list h1 _ _ h4 =>
      rcases List.mem_cons.mp hm with e | hm
      · rw [e]; exact Heap.lt_size h1
      · exact readsAll_lt ps (by simpa [PySem.W.alike] using hal) h4 a hm
  | .tuple ps, _, _, hal, r, a, hm => by
    cases r with
    | tuple _ _ _ h4 => exact readsAll_lt ps (by simpa [PySem.W.alike] using hal) h4 a hm
  | .dict _, _, _, hal, _, _, _ => absurd hal (by simp [PySem.W.alike])
theorem readsAll_lt {h : Heap} : ∀ (ps : List PyData) {us : List Value} {as : List Addr}, PySem.W.alikeAll ps ps = true → ReadsAll h us ps as → ∀ a ∈ as, a < h.objs.size
  | [], _, _, _, r, _, hm => by cases r; cases hm
  | p :: ps, _, _, hal, r, a, hm => by
    cases r with
    | cons h1 h2 =>
      rcases List.mem_append.mp hm with hm | hm
      · exact reads_lt p (PySem.W.alike_all_cons hal).1 h1 a hm
      · exact readsAll_lt ps (PySem.W.alike_all_cons hal).2 h2 a hm
end
theorem bi_sorted (hcalm : X.calm = true) (hu : X.A.units + 80 < cLine) : CallR X (.builtin "sorted") (rC (tb X fa ca) W σ₀ (evBi .sorted)) := by
  intro pins s σ H xs us Q I rv h
  obtain ⟨F, G, m, st, ds, r, rd, h⟩ := h
  match ds, rd, h with
  | [], _, h => exact (show False from h).elim
  | d :: _ :: _, rd, h => cases d <;> exact (show False from h).elim
  | [d], rd, h =>
    obtain ⟨x, rfl, rx⟩ := one_of rd
    obtain ⟨u, rfl, ru⟩ := vals1 rv
    have lists : (TRg (tb X fa ca) W (Rp (tb X fa ca)) σ₀ F G m (match st.items d with
      | some ds => match st.pys ds with
        | some ps => if (sortOk ps || sortFst ps) = true then .ok (.lst (ds.mergeSort (leD st))) st else .stuck
        | none => .stuck
      | none => .stuck) Q) → wpAny (model X.prog X.w) X.A (call (.builtin "sorted") [u]) (EP X pins σ Q) X.xe s := by
      intro h
      cases q : st.items d with
      | none => rw [q] at h; exact h.elim
      | some es =>
        rw [q] at h
        cases q2 : st.pys es with
        | none => simp only [q2] at h; exact h.elim
        | some ps =>
          simp only [q2] at h
          obtain ⟨hc, h⟩ := TRg.ite h
          obtain ⟨a, vs, rfl, ha, ra⟩ := r.items q rx
          cases ru
          obtain ⟨its, rvs, pl, hz⟩ := I.list (SqL.of (K := X.K) ha)
          obtain ⟨e1, e2⟩ := pys_map q2
          obtain ⟨x1, x2⟩ := sort_each I r e2 ra rvs
          have hl : es.length ≤ sizeLine := by rw [ra.length]; exact hz
          have main : ∀ {Q' : Value → Shared → Prop}, (∀ out, out.length = es.length → PySem.W.EachIs (fun u d => ∃ v, Rp (tb X fa ca) G m d v ∧ RelV v u) out (es.mergeSort (leD st)) → Q' (.ref (s.heap.objs.size + 1)) { s with heap := sortedAll s.heap its (List.toArray out) }) → wpAny (model X.prog X.w) X.A (call (.builtin "sorted") [.ref a]) Q' X.xe s := by
            intro Q' hq
            rw [Bool.or_eq_true] at hc
            rcases hc with hc | hc
            · obtain ⟨p1, p2, p3⟩ := sortOk_of hc e1
              refine PySem.W.sorted_data pl.isList x1 x2 p1 p2 hl (fun b hb => by have := p3 b hb; omega) fun out ho eo => ?_
              rw [← leD_eq] at eo
              exact hq out ho eo
            · obtain ⟨F, p3⟩ := fsts_of hc
              rw [← e1] at F p3
              refine sorted_fst pl.isList x1 x2 F hl (fun b hb => by have := p3 _ (List.mem_map.mpr ⟨b, hb, rfl⟩); omega) fun out ho eo => ?_
              rw [← leD_eq] at eo
              exact hq out ho eo
          refine main fun out ho eo => ?_
          obtain ⟨ws, rw1, rw2⟩ := each_back eo
          obtain ⟨c, hc'⟩ := PyProof.Rows.sortedAll_at s.heap its out.toArray
          have hlen : ws.length ≤ sizeLine := by rw [← rw1.length, List.length_mergeSort]; exact hl
          have I2 := I.laid (t' := s.toks) (h' := sortedAll s.heap its out.toArray) (a := s.heap.objs.size + 1) (o := .lst ws) (fun b o e => PyProof.Rows.sortedAll_old e) (by omega) ⟨hlen, out, c, rw2, hc'⟩
          have hf : H (s.heap.objs.size + 1) = none := I.hok.fresh (by omega)
          exact ⟨.ref (s.heap.objs.size + 1), _, I2, rfl, h.new r (fun p hp => .lst upd_same (rw1.mono (Ext.upd (none_of_sub r.gH hp)))) _ hf⟩
    cases rx with
    | @dic a ho kvs ks vs h1 h2 h3 h4 h5 =>
      have h' : TRg (tb X fa ca) W (Rp (tb X fa ca)) σ₀ F G m (match st.pys ks with
        | some ps => if sortOk ps then .ok (.lst (ks.mergeSort (leD st))) st else .stuck
        | none => .stuck) Q := h
      clear h
      cases q2 : st.pys ks with
      | none => simp only [q2] at h'; exact h'.elim
      | some ps =>
        simp only [q2] at h'
        obtain ⟨hc, h⟩ := TRg.ite h'
        cases ru
        obtain ⟨ob, es, ep, xs, rfl, g1, g2, g3, g4, g5, g6, g7⟩ := h2
        obtain ⟨hg, _, _⟩ := I.hok a _ (r.gH _ _ h1)
        obtain ⟨e1, e2⟩ := pys_map q2
        obtain ⟨p1, p2, p3⟩ := sortOk_of hc e1
        have hlx : es.size = xs.length := by rw [← Array.length_toList, g3, List.length_map]
        have hlk : kvs.length = xs.length := Paired.length g7
        have hlks : ks.length = kvs.length := by have := h3.length; rw [List.length_map] at this; exact this
        refine Calls.call_function_entry PyProof.Rows.kind_sorted PyProof.Rows.plain_sorted PyProof.Rows.entry_sorted (PyProof.Rows.args_sorted1 _) ?_
        unfold Builtin.«sorted»
        refine wpAny_bind (m := checkCount "sorted" 1 1 _) (wpAny_pure ?_)
        refine wpAny_bind (PySem.W.kdu_collect (A := X.A.in1) (kdl_raw g5 g1 g2) (I.ok.hd hcalm) hg (by omega) fun h' tk acc hk hacc => ?_)
        -- the collected keys are the keys' values
        have keyv : Vals (kvs.map fun p => V.ref p.2.1) acc.toList := by
          refine vals_at (by rw [List.length_map, Array.length_toList, hacc.1]; omega) fun j v e => ?_
          obtain ⟨en, e3, e4⟩ := hacc.2 j v (by rw [← Array.getElem?_toList]; exact e)
          rw [← Array.getElem?_toList, g3, List.getElem?_map] at e3
          cases e5 : xs[j]? with
          | none => rw [e5] at e3; cases e3
          | some x =>
            rw [e5] at e3
            cases e3
            obtain ⟨p, e6, e7⟩ := paired_back g7 e5
            refine ⟨V.ref p.2.1, by rw [List.getElem?_map, e6] <;> rfl, ?_⟩
            rw [e4, e7.2.1]
            rfl
        have I1 : Inv X pins σ H { s with heap := h', toks := tk } := I.kept hk
        have hal : acc.toList.length = ks.length := by rw [Array.length_toList, hacc.1]; omega
        refine wpAny_bind (wpAny_newList ?_ (by rw [hal]; omega))
        have hoL : (h'.push (seqObj "list" acc.toList.toArray 0)).get? h'.objs.size = some (seqObj "list" acc.toList.toArray 0) := Heap.get?_push_size _ rfl
        show wpAny _ _ _ _ _ { s with heap := h'.push (seqObj "list" acc.toList.toArray 0), toks := tk }
        obtain ⟨x1, x2⟩ := sort_each I1 r e2 h3 keyv
        have x3 : PySem.W.EachIs (fun u d => ∃ as, Reads (h'.push (seqObj "list" acc.toList.toArray 0)) u (encD st d) as ∧ h'.objs.size ∉ as) acc.toList ks :=
          (PySem.W.each_mem x2).mono fun u d ⟨⟨as, z⟩, hd⟩ => ⟨as, PyProof.Rows.Reads.keeps (fun _ _ q => Heap.get?_push_of_some _ q) z, fun hm => Nat.lt_irrefl _ (reads_lt _ (p1 _ (List.mem_map.mpr ⟨d, hd, rfl⟩) _ (List.mem_map.mpr ⟨d, hd, rfl⟩)) z _ hm)⟩
        refine wpAny_bind (wpAny_holding (PySem.W.list_sort_data (s := { s with heap := h'.push (seqObj "list" acc.toList.toArray 0), toks := tk }) (enc := encD st) hoL x1 x3 p1 p2 (by omega) (fun b hb => by have := p3 b hb; show X.A.units + 1 + 1 + _ < _; omega) fun out ho eo => ?_))
        rw [← leD_eq] at eo
        obtain ⟨ws, rw1, rw2⟩ := each_back eo
        obtain ⟨c, hc'⟩ := PyProof.Rows.sortedHeap_at (vs := acc.toList) (out := out.toArray) hoL
        have hlen : ws.length ≤ sizeLine := by rw [← rw1.length, List.length_mergeSort]; omega
        have hf : H h'.objs.size = none := I1.hok.fresh (Nat.le_refl _)
        refine wpAny_pure ⟨_, rfl, .ref h'.objs.size, upd H h'.objs.size (.lst ws), I1.laid (t' := tk) (fun b u e => ?_) (Nat.le_refl _) ⟨hlen, out, c, rw2, hc'⟩, rfl, h.new r (fun p hp => .lst upd_same (rw1.mono (Ext.upd (none_of_sub r.gH hp)))) _ hf⟩
        have hb : b < h'.objs.size := Heap.lt_size e
        rw [PyProof.Rows.sortedHeap_old (Nat.ne_of_lt hb) (by rw [size_push']; exact Nat.lt_succ_of_lt hb)]
        exact Heap.get?_push_of_some _ e
    | lst h1 h2 => exact lists h
    | ref e => exact lists h
    | _ => exact lists h
end
end Mi
set_option Elab.async false
set_option linter.all false
set_option maxRecDepth 100000
set_option maxHeartbeats 400000
/-! Mi8: methods, subscripts, stores, slices, freezing, isinstance. -/
namespace Mi
open PySem PySem.Spec PyProof.Rows L2
section
variable {X : Cx} {fa ca : Nat → Addr} {W : WX} {σ₀ : L2.St}
def rM (T : Tb) (W : WX) (σ₀ : L2.St) (ev : D → List D → S → Res D) : V → List V → Hp → VK → Prop := fun x xs H Q =>
  ∃ F G m s d ds, R T F G m s H ∧ Rp T G m d x ∧ Rps T G m ds xs ∧ TRg T W (Rp T) σ₀ F G m (ev d ds s) Q
def idM : Mt → String
  | .append => "list.append"
  | .extend => "list.extend"
  | .index => "list.index"
  | .get => "dict.get"
theorem firstIx_of {p : PyData} : ∀ {ps : List PyData} {k i : Nat}, firstIx p k ps = some i → ∃ j z, i = k + j ∧ ps[j]? = some z ∧ PyData.eqv z p = true ∧ ∀ (n : Nat) (z' : PyData), n < j → ps[n]? = some z' → PyData.eqv z' p = false
  | [], _, _, h => by simp [firstIx] at h
  | q :: r, k, i, h => by
    simp only [firstIx] at h
    by_cases hq : PyData.eqv q p = true
    · rw [if_pos hq] at h
      cases h
      exact ⟨0, q, rfl, rfl, hq, fun n z' hn => absurd hn (Nat.not_lt_zero n)⟩
    · rw [if_neg hq] at h
      obtain ⟨j, z, e1, e2, e3, e4⟩ := firstIx_of h
      refine ⟨j + 1, z, by omega, by simpa using e2, e3, fun n z' hn hz => ?_⟩
      cases n with
      | zero =>
        simp at hz
        subst hz
        simpa using hq
      | succ n => exact e4 n z' (by omega) (by simpa using hz)
theorem cell_lst {T : Tb} {F G H : Hp} {m : Mm} {st : S} {n : Nat} {fz : Bool} {ds : List D} {v : V} (r : R T F G m st H) (q : st.get n = some (.lst fz ds)) (rx : Rp T G m (.ref n) v) : ∃ a vs, v = .ref a ∧ m n = some a ∧ H a = some (.lst vs) ∧ Rps T G m ds vs ∧ (fz = true → G a = some (.lst vs)) ∧ (fz = false → G a = none) := by
  cases rx with
  | ref e =>
    obtain ⟨a, e1, ⟨vs, h1, h2, h3, h4⟩, _⟩ := r.cell n _ q
    rw [e] at e1
    cases e1
    exact ⟨_, vs, rfl, e, h1, h2, h3, h4⟩
theorem cell_dic {T : Tb} {F G H : Hp} {m : Mm} {st : S} {n : Nat} {fz : Bool} {ks vs : List D} {v : V} (r : R T F G m st H) (q : st.get n = some (.dic fz ks vs)) (rx : Rp T G m (.ref n) v) : ∃ a ho kvs, v = .ref a ∧ m n = some a ∧ H a = some ho ∧ DicV T a kvs ho ∧ Rps T G m ks (kvs.map fun p => V.ref p.2.1) ∧ ks.map keyT = kvs.map (fun p => some p.1) ∧ Rps T G m vs (kvs.map fun p => p.2.2) ∧ (fz = true → G a = some ho) ∧ (fz = false → G a = none) := by
  cases rx with
  | ref e =>
    obtain ⟨a, e1, ⟨ho, kvs, h1⟩, _⟩ := r.cell n _ q
    rw [e] at e1
    cases e1
    exact ⟨_, ho, kvs, rfl, e, h1⟩
/-- a list in a cell is written -/
theorem put_lst {T : Tb} {F G H : Hp} {m : Mm} {st : S} {n : Nat} {ds es : List D} {a : Addr} {ws : List V} {Q : VK} (r : R T F G m st H) (q : st.get n = some (.lst false ds)) (hm : m n = some a) (hG : G a = none) (rw' : Rps T G m es ws)
    (h : TRg T W (Rp T) σ₀ F G m (.ok .non (st.put n (.lst false es))) Q) : Q .non (upd H a (.lst ws)) :=
  h G m (upd H a (.lst ws)) .non (Ext.refl G m) (r.put q hm hG ⟨ws, upd_same, rw', fun z => Bool.noConfusion z, fun _ => hG⟩) .non
theorem mt_all (hu : X.A.units + 80 < cLine) (mt : Mt) : MtR X (idM mt) (rM (tb X fa ca) W σ₀ (evMt mt)) := by
  intro pins s σ H x xs v us Q I rx rxs h
  obtain ⟨F, G, m, st, d, ds, r, rd, rds, h⟩ := h
  cases mt with
  | append =>
    cases rd with
    | @ref n a e =>
      match ds, rds, h with
      | [], _, h => exact (show False from h).elim
      | _ :: _ :: _, _, h => exact (show False from h).elim
      | [y], rds, h =>
        obtain ⟨yv, rfl, ry⟩ := one_of rds
        have h' : TRg (tb X fa ca) W (Rp (tb X fa ca)) σ₀ F G m (match st.get n with
          | some (.lst false ds) => if ds.length < sizeLine then .ok .non (st.put n (.lst false (ds ++ [y]))) else .stuck
          | _ => .stuck) Q := h
        clear h
        cases q : st.get n with
        | none => rw [q] at h'; exact h'.elim
        | some c =>
          rw [q] at h'
          cases c with
          | dic _ _ _ => exact h'.elim
          | lst fz ds =>
            cases fz with
            | true => exact h'.elim
            | false =>
              obtain ⟨hc, h⟩ := TRg.ite h'
              obtain ⟨a', vs, e1, hm, h1, h2, _, h4⟩ := cell_lst r q (.ref e)
              cases e1
              exact mt_append pins s σ H _ _ v us Q I rx rxs ⟨a, vs, yv, rfl, rfl, h1, by rw [← h2.length]; exact hc, put_lst r q hm (h4 rfl) (h2.append (.cons ry .nil)) h⟩
    | _ => exact (show False from h).elim
  | extend =>
    cases rd with
    | @ref n a e =>
      match ds, rds, h with
      | [], _, h => exact (show False from h).elim
      | _ :: _ :: _, _, h => exact (show False from h).elim
      | [y], rds, h =>
        obtain ⟨yv, rfl, ry⟩ := one_of rds
        have h' : TRg (tb X fa ca) W (Rp (tb X fa ca)) σ₀ F G m (match st.get n, st.items y with
          | some (.lst false ds), some es => if fits (ds ++ es) && notRef n y then .ok .non (st.put n (.lst false (ds ++ es))) else .stuck
          | _, _ => .stuck) Q := h
        clear h
        cases q : st.get n with
        | none => rw [q] at h'; exact h'.elim
        | some c =>
          rw [q] at h'
          cases c with
          | dic _ _ _ => exact h'.elim
          | lst fz ds =>
            cases fz with
            | true => exact h'.elim
            | false =>
              cases q2 : st.items y with
              | none => rw [q2] at h'; exact h'.elim
              | some es =>
                rw [q2] at h'
                obtain ⟨hc, h⟩ := TRg.ite h'
                obtain ⟨a', vs, e1, hm, h1, h2, _, h4⟩ := cell_lst r q (.ref e)
                cases e1
                obtain ⟨b, ws, rfl, hb, rb⟩ := r.items q2 ry
                have hl := fits_len (Bool.and_eq_true_iff.mp hc).1
                rw [List.length_append, h2.length, rb.length] at hl
                exact mt_extend pins s σ H _ _ v us Q I rx rxs ⟨a, b, vs, ws, rfl, rfl, h1, hb, hl, put_lst r q hm (h4 rfl) (h2.append rb) h⟩
    | _ => exact (show False from h).elim
  | index =>
    match ds, rds, h with
    | [], _, h => cases d <;> exact (show False from h).elim
    | _ :: _ :: _, _, h => cases d <;> exact (show False from h).elim
    | [y], rds, h =>
      obtain ⟨yv, rfl, ry⟩ := one_of rds
      have h' : TRg (tb X fa ca) W (Rp (tb X fa ca)) σ₀ F G m (match st.items d with
        | some ds => match st.py y, st.pys ds with
          | some p, some ps => if SeqAt.shaped p && SeqAt.shaped (.list ps) then (match firstIx p 0 ps with
            | some i => .ok (.int i) st
            | none => .stuck) else .stuck
          | _, _ => .stuck
        | none => .stuck) Q := by cases d <;> exact h
      clear h
      cases q : st.items d with
      | none => rw [q] at h'; exact h'.elim
      | some ds =>
        rw [q] at h'
        cases q1 : st.py y with
        | none => simp only [q1] at h'; exact h'.elim
        | some p =>
          cases q2 : st.pys ds with
          | none => simp only [q1, q2] at h'; exact h'.elim
          | some ps =>
            simp only [q1, q2] at h'
            obtain ⟨hc, h⟩ := TRg.ite h'
            cases q3 : firstIx p 0 ps with
            | none => simp only [q3] at h; exact h.elim
            | some i =>
              simp only [q3] at h
              obtain ⟨a, vs, rfl, ha, ra⟩ := r.items q rd
              have hc := Bool.and_eq_true_iff.mp hc
              obtain ⟨j, z, e1, e2, e3, e4⟩ := firstIx_of q3
              have e1 : i = j := by omega
              subst e1
              exact mt_indexD (by omega) pins s σ H _ _ v us Q I rx rxs ⟨a, yv, p, ps, i, z, rfl, rfl, .lst (SqL.of ha) (r.pys q2 ra), r.py q1 ry, hc.2, hc.1, e2, e3, e4, TRg.ok h r (.int _)⟩
  | get => cases d <;> exact (show False from h).elim
end
end Mi
set_option Elab.async false
set_option linter.all false
set_option maxRecDepth 100000
set_option maxHeartbeats 400000
/-! Mi9: subscripts, stores, slices, freezing, isinstance, the empty dict. -/
namespace Mi
open PySem PySem.Spec PyProof.Rows L2
section
variable {X : Cx} {fa ca : Nat → Addr} {W : WX} {σ₀ : L2.St}
theorem atI_rps {T : Tb} {G : Hp} {m : Mm} {ds : List D} {vs : List V} {i : Int} {d : D} (r : Rps T G m ds vs) (h : L2.atI ds i = some d) : ∃ v, L2.atI vs i = some v ∧ Rp T G m d v := by
  unfold L2.atI at h ⊢
  rw [r.length] at h
  cases e : L2.ixN vs.length i with
  | none => rw [e] at h; cases h
  | some j =>
    rw [e] at h
    exact r.get (show ds[j]? = some d from h)
theorem atI_map {ns : List Int} {i n : Int} (h : L2.atI ns i = some n) : L2.atI (ns.map V.int) i = some (.int n) := by
  unfold L2.atI at h ⊢
  rw [List.length_map]
  cases e : L2.ixN ns.length i with
  | none => rw [e] at h; cases h
  | some j =>
    rw [e] at h
    have h' : ns[j]? = some n := h
    show (ns.map V.int)[j]? = _
    rw [List.getElem?_map, h']
    rfl
theorem ix_all (hu : X.A.units + 80 < cLine) : IxR X (rO (tb X fa ca) W σ₀ evIx) := by
  intro value slice pins s σ H x y v u Q I rx ry h hs
  obtain ⟨F, G, m, st, d, e, r, rd, re, h⟩ := h
  have lists : ∀ (a : Addr) (vs : List V) (ds : List D), x = .ref a → H a = some (.lst vs) → Rps (tb X fa ca) G m ds vs → (∃ i, e = .int i ∧ TRg (tb X fa ca) W (Rp (tb X fa ca)) σ₀ F G m (match L2.atI ds i with
      | some d => .ok d st
      | none => .stuck) Q) → wpAny (model X.prog X.w) X.A (subscriptTail value slice v u) (EP X pins σ Q) X.xe s := by
    intro a vs ds ex hH hr ⟨i, ei, h2⟩
    subst ex ei
    cases re
    cases q : L2.atI ds i with
    | none => rw [q] at h2; exact h2.elim
    | some z =>
      rw [q] at h2
      obtain ⟨w, e1, e2⟩ := atI_rps hr q
      exact ix_list value slice pins s σ H _ _ v u Q I rx ry ⟨a, vs, i, w, rfl, rfl, SqL.of hH, e1, TRg.ok h2 r e2⟩ hs
  have dicts : ∀ (a : Addr) (ho : HO) (kvs : List (NestedKey × Addr × V)) (ks vs : List D), x = .ref a → H a = some ho → DicV (tb X fa ca) a kvs ho → Rps (tb X fa ca) G m ks (kvs.map fun p => V.ref p.2.1) → ks.map Mi.keyT = kvs.map (fun p => some p.1) → Rps (tb X fa ca) G m vs (kvs.map fun p => p.2.2) →
      TRg (tb X fa ca) W (Rp (tb X fa ca)) σ₀ F G m (match Mi.keyT e with
        | some q => match dget q ks vs with
          | some d => .ok d st
          | none => .stuck
        | none => .stuck) Q → wpAny (model X.prog X.w) X.A (subscriptTail value slice v u) (EP X pins σ Q) X.xe s := by
    intro a ho kvs ks vs ex hH hd hk he hv h
    subst ex
    cases q : Mi.keyT e with
    | none => rw [q] at h; exact h.elim
    | some k =>
      rw [q] at h
      cases q2 : dget k ks vs with
      | none => simp only [q2] at h; exact h.elim
      | some z =>
        simp only [q2] at h
        obtain ⟨xa, rfl, isk⟩ := Rp.keyT I r re q
        obtain ⟨xs, h1, h2, h3, _⟩ := DicV.dictOf I r hH hd hk he
        obtain ⟨b, u', v', e1, e2, e3⟩ := (dget_at (T := tb X fa ca) (G := G) (m := m) k he hv h2).1 z q2
        cases rx
        cases ry
        exact tail_any h1.typeIs PySem.F.slot_dict_getitem.lookup (wpAny_getItem_heap (show X.A.in1.units + 8 < cLine from by show X.A.units + 1 + 8 < cLine; omega) isk h1 e1 ⟨v', H, I.tok _, e2, TRg.ok h r e3⟩) hs
  cases rd with
  | @tup a vs ds h1 h2 =>
    cases re with
    | int i =>
      have h : TRg (tb X fa ca) W (Rp (tb X fa ca)) σ₀ F G m (match L2.atI ds i with
        | some d => .ok d st
        | none => .stuck) Q := h
      cases q : L2.atI ds i with
      | none => rw [q] at h; exact h.elim
      | some z =>
        rw [q] at h
        obtain ⟨w, e1, e2⟩ := atI_rps h2 q
        exact ix_tup value slice pins s σ H _ _ v u Q I rx ry ⟨a, vs, i, w, rfl, rfl, SqT.sub r.gH h1, e1, TRg.ok h r e2⟩ hs
    | _ => exact (show False from h).elim
  | @lst a vs ds h1 h2 =>
    cases re with
    | int i => exact lists a vs ds rfl (r.gH _ _ h1) h2 ⟨i, rfl, h⟩
    | _ => exact (show False from h).elim
  | @inp a ns h1 =>
    cases re with
    | int i =>
      have h : TRg (tb X fa ca) W (Rp (tb X fa ca)) σ₀ F G m (match L2.atI ns i with
        | some n => .ok (.int n) st
        | none => .stuck) Q := h
      cases q : L2.atI ns i with
      | none => rw [q] at h; exact h.elim
      | some z =>
        rw [q] at h
        exact ix_list value slice pins s σ H _ _ v u Q I rx ry ⟨a, _, i, .int z, rfl, rfl, SqL.sub r.gH h1, atI_map q, TRg.ok h r (.int _)⟩ hs
    | _ => exact (show False from h).elim
  | @dic a ho kvs ks vs h1 h2 h3 h4 h5 =>
    exact dicts a ho kvs ks vs rfl (r.gH _ _ h1) h2 h3 h4 h5 (by cases e <;> exact h)
  | @ref n a em =>
    cases q : st.get n with
    | none =>
      have h : TRg (tb X fa ca) W (Rp (tb X fa ca)) σ₀ F G m (match st.get n, e with
        | some (.lst _ ds), .int i => match L2.atI ds i with
          | some d => .ok d st
          | none => .stuck
        | some (.dic _ ks vs), k => match Mi.keyT k with
          | some q => match dget q ks vs with
            | some d => .ok d st
            | none => .stuck
          | none => .stuck
        | _, _ => .stuck) Q := h
      rw [q] at h
      exact h.elim
    | some c =>
      have h : TRg (tb X fa ca) W (Rp (tb X fa ca)) σ₀ F G m (match st.get n, e with
        | some (.lst _ ds), .int i => match L2.atI ds i with
          | some d => .ok d st
          | none => .stuck
        | some (.dic _ ks vs), k => match Mi.keyT k with
          | some q => match dget q ks vs with
            | some d => .ok d st
            | none => .stuck
          | none => .stuck
        | _, _ => .stuck) Q := h
      rw [q] at h
      cases c with
      | lst fz ds =>
        obtain ⟨a', vs, e1, _, h1, h2, _⟩ := cell_lst r q (.ref em)
        cases e1
        cases re with
        | int i => exact lists a vs ds rfl h1 h2 ⟨i, rfl, h⟩
        | _ => exact (show False from h).elim
      | dic fz ks vs =>
        obtain ⟨a', ho, kvs, e1, _, h1, h2, h3, h4, h5, _⟩ := cell_dic r q (.ref em)
        cases e1
        exact dicts a ho kvs ks vs rfl h1 h2 h3 h4 h5 h
  | _ => exact (show False from h).elim

/-! ### slices -/
def rS (T : Tb) (W : WX) (σ₀ : L2.St) : V → Option Int → Option Int → Hp → VK → Prop := fun x lo hi H Q =>
  ∃ F G m s d, R T F G m s H ∧ Rp T G m d x ∧ TRg T W (Rp T) σ₀ F G m (evSl d lo hi s) Q
theorem cut_rps {T : Tb} {G : Hp} {m : Mm} {ds : List D} {vs : List V} (r : Rps T G m ds vs) (lo hi : Option Int) : Rps T G m (cutD ds lo hi) (cutV vs lo hi) := by
  unfold cutD cutV
  rw [r.length]
  exact (r.drop _).take _
theorem Rps.ints {T : Tb} {G : Hp} {m : Mm} : ∀ ns : List Int, Rps T G m (ns.map D.int) (ns.map V.int)
  | [] => .nil
  | n :: ns => .cons (.int n) (Rps.ints ns)
theorem sl_all : SlR X (rS (tb X fa ca) W σ₀) := by
  intro pins s σ H x v vl vu lo hi sl Q I rx hs pl pu h
  obtain ⟨F, G, m, st, d, r, rd, h⟩ := h
  have lists : (TRg (tb X fa ca) W (Rp (tb X fa ca)) σ₀ F G m (match st.items d with
      | some ds => .ok (.lst (cutD ds lo hi)) st
      | none => .stuck) Q) → ∃ T id, typeLookup (.type T) "__getitem__" = pure (some (.builtin id)) ∧ s.TypeIs v T ∧ wpAny (model X.prog X.w) X.A (getItem v (.ref sl)) (EP X pins σ Q) X.xe s := by
    intro h
    cases q : st.items d with
    | none => rw [q] at h; exact h.elim
    | some es =>
      rw [q] at h
      obtain ⟨a, vs, rfl, ha, ra⟩ := r.items q rd
      exact sl_list pins s σ H _ v vl vu lo hi sl Q I rx hs pl pu ⟨a, vs, rfl, SqL.of ha, h.new r fun p hp => .lst upd_same ((cut_rps ra lo hi).mono (Ext.upd (none_of_sub r.gH hp)))⟩
  cases rd with
  | @tup a vs ds h1 h2 =>
    have h : TRg (tb X fa ca) W (Rp (tb X fa ca)) σ₀ F G m (.ok (.tup (cutD ds lo hi)) st) Q := h
    refine sl_tupA pins s σ H _ v vl vu lo hi sl Q I rx hs pl pu ⟨a, vs, rfl, SqT.sub r.gH h1, fun z => ?_, fun _ => h.new r fun p hp => .tup (SqT.of upd_same) ((cut_rps h2 lo hi).mono (Ext.upd (none_of_sub r.gH hp)))⟩
    have e : cutD ds lo hi = ds := by
      unfold cutD
      rw [h2.length, z.1, z.2, ← h2.length]
      simp
    rw [e] at h
    exact TRg.ok h r (.tup h1 h2)
  | @inp a ns h1 =>
    have h : TRg (tb X fa ca) W (Rp (tb X fa ca)) σ₀ F G m (.ok (.lst (cutD (ns.map .int) lo hi)) st) Q := h
    exact sl_list pins s σ H _ v vl vu lo hi sl Q I rx hs pl pu ⟨a, _, rfl, SqL.sub r.gH h1, h.new r fun p hp => .lst upd_same ((cut_rps (Rps.ints ns) lo hi).mono (Ext.upd (none_of_sub r.gH hp)))⟩
  | lst _ _ => exact lists h
  | ref _ => exact lists h
  | _ => exact lists h
theorem rev_ok {F G H : Hp} {m : Mm} {st : S} {d : D} {x : V} {Q : VK} (r : R (tb X fa ca) F G m st H) (rd : Rp (tb X fa ca) G m d x) (h : TRg (tb X fa ca) W (Rp (tb X fa ca)) σ₀ F G m (evRev d st) Q) :
    ∃ a xs, x = .ref a ∧ SqL X.K H a xs ∧ ∀ p, H p = none → Q (.ref p) (upd H p (.lst xs.reverse)) := by
  unfold evRev at h
  cases q : st.items d with
  | none => rw [q] at h; exact h.elim
  | some es =>
    rw [q] at h
    obtain ⟨a, vs, rfl, ha, ra⟩ := r.items q rd
    exact ⟨a, vs, rfl, SqL.of ha, h.new r fun p hp => .lst upd_same (ra.reverse.mono (Ext.upd (none_of_sub r.gH hp)))⟩

/-! ### freezing -/
theorem frz_ok {T : Tb} {F G H : Hp} {m : Mm} {st : S} {d : D} {x : V} (r : R T F G m st H) (rd : Rp T G m d x) : match evFrz d st with
    | .ok d1 s1 => ∃ G1, Ext G m G1 m ∧ R T F G1 m s1 H ∧ Rp T G1 m d1 x
    | .exc _ _ => False
    | .stuck => True := by
  have same : ∃ G1, Ext G m G1 m ∧ R T F G1 m st H ∧ Rp T G1 m d x := ⟨G, Ext.refl G m, r, rd⟩
  cases rd with
  | @ref n a em =>
    cases q : st.get n with
    | none => simp only [evFrz, q]
    | some c =>
      cases c with
      | lst fz ds =>
        obtain ⟨a', vs, e1, hm, h1, h2, h3, h4⟩ := cell_lst r q (.ref em)
        cases e1
        simp only [evFrz, q]
        cases fz with
        | false =>
          have x1 : Ext G m (upd G a (.lst vs)) m := Ext.upd (h4 rfl)
          exact ⟨_, x1, r.frz q hm (h4 rfl) h1 ⟨vs, h1, h2.mono x1, fun _ => upd_same, fun z => Bool.noConfusion z⟩, .lst upd_same (h2.mono x1)⟩
        | true =>
          have e : st.put n (.lst true ds) = st.put n (.lst true ds) := rfl
          refine ⟨G, Ext.refl G m, ?_, .lst (h3 rfl) h2⟩
          refine ⟨r.gH, r.fH, r.fG, fun k c e => ?_, fun i j b hij hi hj => ?_, fun k hk => ?_, r.fresh⟩
          · rw [S.get_put q] at e
            by_cases hk : k = n
            · rw [if_pos hk] at e
              cases e
              rw [hk]
              exact r.cell n _ q
            · rw [if_neg hk] at e
              exact r.cell k c e
          · have g : ∀ i, (S.get (st.put n (.lst true ds)) i).isSome = true → (st.get i).isSome = true := fun i hi => by
              rw [S.get_put q] at hi
              by_cases hk : i = n
              · rw [hk, q]; rfl
              · rw [if_neg hk] at hi; exact hi
            exact r.inj i j b hij (g i hi) (g j hj)
          · rw [S.get_put q] at hk
            by_cases z : k = n
            · exact r.lt k (by rw [z, q]; rfl)
            · rw [if_neg z] at hk
              exact r.lt k hk
      | dic fz ks vs =>
        obtain ⟨a', ho, kvs, e1, hm, h1, h2, h3, h4, h5, h6, h7⟩ := cell_dic r q (.ref em)
        cases e1
        simp only [evFrz, q]
        cases fz with
        | false =>
          have x1 : Ext G m (upd G a ho) m := Ext.upd (h7 rfl)
          exact ⟨_, x1, r.frz q hm (h7 rfl) h1 ⟨ho, kvs, h1, h2, h3.mono x1, h4, h5.mono x1, fun _ => upd_same, fun z => Bool.noConfusion z⟩, .dic upd_same h2 (h3.mono x1) h4 (h5.mono x1)⟩
        | true =>
          refine ⟨G, Ext.refl G m, ?_, .dic (h6 rfl) h2 h3 h4 h5⟩
          refine ⟨r.gH, r.fH, r.fG, fun k c e => ?_, fun i j b hij hi hj => ?_, fun k hk => ?_, r.fresh⟩
          · rw [S.get_put q] at e
            by_cases hk : k = n
            · rw [if_pos hk] at e
              cases e
              rw [hk]
              exact r.cell n _ q
            · rw [if_neg hk] at e
              exact r.cell k c e
          · have g : ∀ i, (S.get (st.put n (.dic true ks vs)) i).isSome = true → (st.get i).isSome = true := fun i hi => by
              rw [S.get_put q] at hi
              by_cases hk : i = n
              · rw [hk, q]; rfl
              · rw [if_neg hk] at hi; exact hi
            exact r.inj i j b hij (g i hi) (g j hj)
          · rw [S.get_put q] at hk
            by_cases z : k = n
            · exact r.lt k (by rw [z, q]; rfl)
            · rw [if_neg z] at hk
              exact r.lt k hk
  | _ => exact same

/-! ### isinstance -/
theorem ty_kit {pins : List (Addr × Obj)} {s : Shared} {σ : L2.St} {F G H : Hp} {m : Mm} {st : S} {d : D} {x : V} {u : Value} {t : Ty} (I : Inv X pins σ H s) (r : R (tb X fa ca) F G m st H) (rd : Rp (tb X fa ca) G m d x) (rx : RelV x u) (ht : st.tyOf d = some t) :
    ∃ P : Heap → Prop, PySem.W.KitX X.K u (.type t.nm) P ∧ P s.heap ∧ u ≠ .builtin "__main__.__loader__#opaque" := by
  have lists : ∀ (a : Addr) (vs : List V), x = .ref a → H a = some (.lst vs) → t = .lst → ∃ P : Heap → Prop, PySem.W.KitX X.K u (.type t.nm) P ∧ P s.heap ∧ u ≠ .builtin "__main__.__loader__#opaque" := by
    intro a vs ex h et
    subst ex et
    exact kit_of I rx (.base (.lst h))
  have dicts : ∀ (a : Addr) (ho : HO) (kvs : List (NestedKey × Addr × V)), x = .ref a → H a = some ho → DicV (tb X fa ca) a kvs ho → t = .dic → ∃ P : Heap → Prop, PySem.W.KitX X.K u (.type t.nm) P ∧ P s.heap ∧ u ≠ .builtin "__main__.__loader__#opaque" := by
    intro a ho kvs ex h hd et
    subst ex et
    cases rx
    obtain ⟨ob, es, ep, xs, rfl, h1, _⟩ := hd
    obtain ⟨hg, _, _⟩ := I.hok a _ h
    exact ⟨_, PySem.W.kitx_dict, ⟨ob, hg, h1.1⟩, fun z => nomatch z⟩
  cases rd with
  | non => cases ht; exact kit_of I rx (.base .non)
  | bl b => cases ht; exact kit_of I rx (.base (.bl b))
  | int i => cases ht; exact kit_of I rx (.base (.int i))
  | str z => cases ht; exact kit_of I rx (.base (.str z))
  | @tup a vs ds h1 h2 =>
    cases ht
    cases rx
    obtain ⟨its, rv, ⟨o, e1, e2, _⟩, _⟩ := I.tuple (SqT.sub r.gH h1)
    exact ⟨_, PySem.W.kitx_tuple, ⟨o, e1, e2⟩, fun z => nomatch z⟩
  | @lst a vs ds h1 h2 => cases ht; exact lists a vs rfl (r.gH _ _ h1) rfl
  | @dic a ho kvs ks vs h1 h2 _ _ _ => cases ht; exact dicts a ho kvs rfl (r.gH _ _ h1) h2 rfl
  | @ref n a em =>
    simp only [S.tyOf] at ht
    cases q : st.get n with
    | none => rw [q] at ht; cases ht
    | some c =>
      rw [q] at ht
      cases c with
      | lst fz ds =>
        obtain ⟨a', vs, e1, _, h1, _⟩ := cell_lst r q (.ref em)
        cases e1
        cases ht
        exact lists a vs rfl h1 rfl
      | dic fz ks vs =>
        obtain ⟨a', ho, kvs, e1, _, h1, h2, _⟩ := cell_dic r q (.ref em)
        cases e1
        cases ht
        exact dicts a ho kvs rfl h1 h2 rfl
  | _ => cases ht
theorem kit_isa {K : PySem.W.Frag} (a b : Ty) : PySem.W.kitOne K (.type a.nm) (.type b.nm) = some (a.isa b) := by
  refine kit_ty ?_
  cases a <;> cases b <;> decide +kernel
theorem kit_isas {K : PySem.W.Frag} (a : Ty) : ∀ ts : List Ty, PySem.W.kitAny K (.type a.nm) (ts.map fun t => .type t.nm) = some (ts.any fun u => a.isa u)
  | [] => rfl
  | t :: ts => by
    rw [List.map_cons, List.any_cons]
    refine kitAny_cons (kit_isa a t) (fun h => ?_) (fun h => by rw [h, Bool.true_or])
    rw [h, Bool.false_or]
    exact kit_isas a ts
end
end Mi
set_option Elab.async false
set_option linter.all false
set_option maxRecDepth 100000
set_option maxHeartbeats 400000
/-! Mi10: a[b] = v; new cells. -/
namespace Mi
open PySem PySem.Spec PyProof.Rows L2
abbrev KVs := List (NestedKey × Addr × V)
def putA (k : NestedKey) (v : V) (p : NestedKey × Addr × V) : NestedKey × Addr × V := if p.1 = k then (p.1, p.2.1, v) else p
theorem putA_key (k : NestedKey) (v : V) (p : NestedKey × Addr × V) : (putA k v p).1 = p.1 ∧ (putA k v p).2.1 = p.2.1 := by
  unfold putA
  split <;> exact ⟨rfl, rfl⟩
theorem putA_out {k : NestedKey} {v : V} : ∀ {kvs : KVs}, k ∉ kvs.map (·.1) → kvs.map (putA k v) = kvs
  | [], _ => rfl
  | p :: kvs, h => by
    simp only [List.map_cons, List.mem_cons, not_or] at h
    rw [List.map_cons, putA_out h.2]
    unfold putA
    rw [if_neg (fun e => h.1 e.symm)]
theorem putA_map {κ : Type} {k : NestedKey} {v : V} (f : NestedKey × Addr × V → κ) (hf : ∀ p, f (putA k v p) = f p) (kvs : KVs) : (kvs.map (putA k v)).map f = kvs.map f := by
  rw [List.map_map]
  exact List.map_congr_left fun p _ => hf p
abbrev PairR : NestedKey × Addr × V → NestedKey × Addr × Value → Prop := fun p q => p.1 = q.1 ∧ p.2.1 = q.2.1 ∧ RelV p.2.2 q.2.2
theorem putA_paired {k : NestedKey} {v : V} {u : Value} (r : RelV v u) : ∀ {kvs : KVs} {xs : List (NestedKey × Addr × Value)}, Paired PairR kvs xs → Paired PairR (kvs.map (putA k v)) (xs.map (putAt k u))
  | _, _, .nil => .nil
  | _, _, .cons (a := p) (b := q) z t => by
    refine .cons ?_ (putA_paired r t)
    unfold putA putAt
    by_cases h : p.1 = k
    · have h' : q.1 = k := z.1 ▸ h
      rw [if_pos h, if_pos h']
      exact ⟨z.1, z.2.1, r⟩
    · have h' : ¬ q.1 = k := fun e => h (z.1.trans e)
      rw [if_neg h, if_neg h']
      exact z
theorem paired_snoc {α β : Type} {P : α → β → Prop} {a : α} {b : β} (h : P a b) : ∀ {l1 : List α} {l2 : List β}, Paired P l1 l2 → Paired P (l1 ++ [a]) (l2 ++ [b])
  | _, _, .nil => .cons h .nil
  | _, _, .cons z t => .cons z (paired_snoc h t)
theorem paired_keys : ∀ {kvs : KVs} {xs : List (NestedKey × Addr × Value)}, Paired PairR kvs xs → kvs.map (·.1) = xs.map (·.1)
  | _, _, .nil => rfl
  | _, _, .cons z t => by rw [List.map_cons, List.map_cons, z.1, paired_keys t]
theorem dputV_rps {T : Tb} {G : Hp} {m : Mm} {k : NestedKey} {w : D} {v : V} (rw' : Rp T G m w v) : ∀ {ks vs : List D} {kvs : KVs}, ks.map keyT = kvs.map (fun p => some p.1) → Rps T G m vs (kvs.map fun p => p.2.2) → (kvs.map (·.1)).Nodup → Rps T G m (dputV k w ks vs) ((kvs.map (putA k v)).map fun p => p.2.2)
  | [], [], [], _, _, _ => .nil
  | [], _ :: _, [], _, r, _ => by cases r
  | [], _, _ :: _, e, _, _ => by simp at e
  | _ :: _, _, [], e, _, _ => by simp at e
  | _ :: _, [], _ :: _, _, r, _ => by cases r
  | a :: ks, b :: vs, p :: kvs, e, r, nd => by
    simp only [List.map_cons, List.cons.injEq] at e
    simp only [List.map_cons, List.nodup_cons] at nd
    cases r with
    | cons r1 r2 =>
      unfold dputV
      simp only [List.map_cons]
      by_cases h : keyT a = some k
      · rw [if_pos h]
        have hk : p.1 = k := Option.some.inj (e.1.symm.trans h)
        refine .cons ?_ ?_
        · unfold putA
          rw [if_pos hk]
          exact rw'
        · rw [putA_out (by rw [← hk]; exact nd.1)]
          exact r2
      · rw [if_neg h]
        have hk : ¬ p.1 = k := fun z => h (e.1.trans (by rw [z]))
        refine .cons ?_ (dputV_rps rw' e.2 r2 nd.2)
        unfold putA
        rw [if_neg hk]
        exact r1
section
variable {X : Cx} {fa ca : Nat → Addr} {W : WX} {σ₀ : L2.St}
def rSet (T : Tb) : V → V → V → Hp → (Hp → Prop) → Prop := fun o i v H Q =>
  ∃ F G m s a b d s', R T F G m s H ∧ Rp T G m a o ∧ Rp T G m b i ∧ Rp T G m d v ∧ setIx a b d s = some s' ∧ ∀ G' m' H', Ext G m G' m' → R T F G' m' s' H' → Q H'
theorem set_all (hu : X.A.units + 80 < cLine) : PSet X (rSet (tb X fa ca)) := by
  intro pins s σ H o i v ov iv u Q I ro ri rv h
  obtain ⟨F, G, m, st, a, b, d, s', r, ra, rb, rd, hs, h⟩ := h
  cases ra with
  | @ref n p em =>
    cases ro
    simp only [setIx] at hs
    cases q : st.get n with
    | none => rw [q] at hs; cases hs
    | some c =>
      rw [q] at hs
      cases c with
      | lst fz ds =>
        cases fz with
        | true => cases hs
        | false =>
          cases rb with
          | int k =>
            simp only [Option.map_eq_some_iff] at hs
            obtain ⟨j, hj, rfl⟩ := hs
            obtain ⟨a', vs, e1, hm, h1, h2, _, h4⟩ := cell_lst r q (.ref em)
            cases e1
            refine set_list pins s σ H (V.ref p) _ v _ iv u Q I rfl ri rv ⟨p, vs, k, j, rfl, rfl, h1, by rw [← h2.length]; exact hj, ?_⟩
            exact h G m _ (Ext.refl G m) (r.put q hm (h4 rfl) ⟨_, upd_same, h2.set rd j, fun z => Bool.noConfusion z, fun _ => h4 rfl⟩)
          | _ => cases hs
      | dic fz ks vs =>
        cases fz with
        | true => cases hs
        | false =>
          simp only at hs
          cases q2 : Mi.keyT b with
          | none => rw [q2] at hs; cases hs
          | some k =>
            simp only [q2] at hs
            by_cases hl : ks.length < sizeLine
            · rw [if_pos hl] at hs
              cases hs
              obtain ⟨a', ho, kvs, e1, hm, h1, h2, h3, h4, h5, _, h7⟩ := cell_dic r q (.ref em)
              cases e1
              obtain ⟨ka, rfl, isk⟩ := Rp.keyT I r rb q2
              cases ri
              obtain ⟨xs, d1, d2, d3, d4⟩ := DicV.dictOf I r h1 h2 h3 h4
              have hlen : kvs.length = ks.length := by have := congrArg List.length h4; simp only [List.length_map] at this; exact this.symm
              have hlx : kvs.length = xs.length := Paired.length d2
              have mut_ : Mut (H p) := by
                obtain ⟨ob, es, ep, xs', rfl, _⟩ := h2
                rw [h1]
                exact True.intro
              obtain ⟨_, _, _, _, _, _, _, _, nd⟩ := id d1
              have ndk : (kvs.map (·.1)).Nodup := by rw [paired_keys d2]; exact nd
              refine wpAny_setItem_heap (show X.A.in1.units + 8 < cLine from by show X.A.units + 1 + 8 < cLine; omega) isk d1 (fun h' hd' sb => ?_) d4
              obtain ⟨ob, es, ep, g1, g2, g3, g4, g5, g6⟩ := hd'
              -- the new dict, in the abstract
              have fin : ∀ (kvs' : KVs), Paired PairR kvs' (storedH xs k ka u) → Rps (tb X fa ca) G m (dput k b d ks vs).1 (kvs'.map fun p => V.ref p.2.1) → (dput k b d ks vs).1.map keyT = kvs'.map (fun p => some p.1) → Rps (tb X fa ca) G m (dput k b d ks vs).2 (kvs'.map fun p => p.2.2) → (storedH xs k ka u).length ≤ sizeLine →
                  ∃ H', Inv X pins σ H' { s with heap := h', toks := s.toks + (nestedKind X.prog X.w).draws k } ∧ Q H' := by
                intro kvs' p1 p2 p3 p4 p5
                have I' := I.write (x := p) (e := p) (h' := h') (o := .ext fun h => h.get? p = some ob) (t' := s.toks + (nestedKind X.prog X.w).draws k) mut_ (.inl rfl) (fun b u hb hu => (sb.2 b hb).trans hu) ⟨_, g1⟩
                  ⟨g1, ⟨_, g1⟩, fun h1 h2 e st => st _ e⟩
                refine ⟨_, I', h G m _ (Ext.refl G m) (r.put q hm (h7 rfl) ⟨_, kvs', upd_same, ⟨ob, es, ep, storedH xs k ka u, rfl, g2, g3, g4, g6, d3, p5, p1⟩, p2, p3, p4, fun z => Bool.noConfusion z, fun _ => h7 rfl⟩)⟩
              obtain ⟨x1, x2⟩ := dget_at (T := tb X fa ca) (G := G) (m := m) k h4 h5 d2
              cases z : dget k ks vs with
              | none =>
                have z2 := storedH_new (x2 z) ka u
                have e : dput k b d ks vs = (ks ++ [b], vs ++ [d]) := by unfold dput; rw [z]
                refine fin (kvs ++ [(k, ka, v)]) (by rw [z2]; exact paired_snoc ⟨rfl, rfl, rv⟩ d2) ?_ ?_ ?_ (by rw [z2, List.length_append, List.length_singleton]; omega)
                · rw [e, List.map_append]
                  exact h3.append (.cons rb .nil)
                · rw [e, List.map_append, List.map_append, h4]
                  simp [q2]
                · rw [e, List.map_append]
                  exact h5.append (.cons rd .nil)
              | some w =>
                obtain ⟨b', u', v', y1, _⟩ := x1 w z
                have z2 := storedH_old y1 ka u
                have e : dput k b d ks vs = (ks, dputV k d ks vs) := by unfold dput; rw [z]
                refine fin (kvs.map (putA k v)) (by rw [z2]; exact putA_paired rv d2) ?_ ?_ ?_ (by rw [z2, List.length_map]; omega)
                · rw [e, putA_map _ (fun p => by rw [(putA_key k v p).2])]
                  exact h3
                · rw [e, putA_map _ (fun p => by rw [(putA_key k v p).1])]
                  exact h4
                · rw [e]
                  exact dputV_rps rd h4 h5 ndk
            · rw [if_neg hl] at hs
              cases hs
  | _ => cases hs
/-- a new list in a cell -/
theorem TRg.cell {F G H : Hp} {m : Mm} {st : S} {ds : List D} {vs : List V} {Q : VK} {T : Tb} (r : R T F G m st H) (rs : Rps T G m ds vs) (h : TRg T W (Rp T) σ₀ F G m (.ok (.ref st.nx) (st.add (.lst false ds))) Q) : ∀ p, H p = none → Q (.ref p) (upd H p (.lst vs)) := by
  intro p hp
  have x1 : Ext G m G (mAdd m st.nx p) := Ext.add (r.fresh _ (Nat.le_refl _))
  refine h G _ _ _ x1 (r.add hp ⟨vs, upd_same, rs.mono x1, fun z => Bool.noConfusion z, fun _ => none_of_sub r.gH hp⟩) (.ref ?_)
  show (if st.nx = st.nx then some p else m st.nx) = some p
  rw [if_pos rfl]
/-- {} -/
theorem pe_dic0 {pos : Pos} : PE X (.Dict [] [] pos) (tRd (tb X fa ca) W (Rp (tb X fa ca)) (fun _ s => .ok (.ref s.nx) (s.add (.dic false [] [])))) := by
  refine ⟨fun pins s σ H Q I ⟨F, G, m, st, τ, r, hs, h⟩ => wpAny_Dict_empty ?_⟩
  have hd := Heap.DictOfH.new (knd := nestedKind X.prog X.w) s.heap
  obtain ⟨ob, es, ep, g1, g2, g3, g4, g5, g6⟩ := hd
  have hp : H s.heap.objs.size = none := I.hok.fresh (Nat.le_refl _)
  have x1 : Ext G m G (mAdd m st.nx s.heap.objs.size) := Ext.add (r.fresh _ (Nat.le_refl _))
  have hbig : (s.heap.objs.size == sysModules) = false := by
    have q := I.big
    exact beq_eq_false_iff_ne.mpr (fun e => by rw [e] at q; exact Nat.lt_irrefl _ q)
  have I' := I.laid (a := s.heap.objs.size) (h' := s.heap.push { cls := .type "dict", data := .dict #[] }) (o := .ext fun h => h.get? s.heap.objs.size = some ob) (t' := s.toks) (fun b u e => Heap.get?_push_of_some _ e) (Nat.le_refl _)
    ⟨g1, ⟨_, g1⟩, fun h1 h2 e st => st _ e⟩
  refine ⟨.ref s.heap.objs.size, _, I', rfl, h G _ _ _ x1 (r.add hp ⟨_, [], upd_same, ⟨ob, es, ep, [], rfl, g2, g3, g4, List.nodup_nil, hbig, Nat.zero_le _, .nil⟩, .nil, rfl, .nil, fun z => Bool.noConfusion z, fun _ => none_of_sub r.gH hp⟩) (.ref ?_)⟩
  show (if st.nx = st.nx then some s.heap.objs.size else m st.nx) = some s.heap.objs.size
  rw [if_pos rfl]
end
end Mi
set_option Elab.async false
set_option linter.all false
set_option maxRecDepth 100000
set_option maxHeartbeats 400000
/-! Mi11: what loops walk: enumerate and zip over lists and tuples, the keys of a dict. -/
namespace Mi
open PySem PySem.Spec PyProof.Rows L2
def SqB (b : Bool) (K : PySem.W.Frag) (H : Hp) (a : Addr) (xs : List V) : Prop := if b = true then SqL K H a xs else SqT K H a xs
def IterB (b : Bool) (h : Heap) (it a : Addr) (i : Nat) : Prop := if b = true then h.IsListIter it a i else h.IsTupleIter it a i
def SeqB (b : Bool) (h : Heap) (a : Addr) (items : Array Value) : Prop := if b = true then h.IsList a items else h.IsTuple a items
def objB (b : Bool) (a : Addr) : Obj := if b = true then { cls := .type "list_iterator", data := .fields #[.ref a, .int 0 0] } else { cls := .type "tuple_iterator", data := .fields #[.ref a, .int 0 0] }
theorem IterB.is {b : Bool} {h : Heap} {it a : Addr} {i : Nat} (x : IterB b h it a i) : ∃ o, h.get? it = some o ∧ ∀ v, o.data ≠ .cell v := by
  cases b with
  | true => obtain ⟨o, e, _, d⟩ := (show h.IsListIter it a i from x); exact ⟨o, e, fun v z => by rw [d] at z; cases z⟩
  | false => obtain ⟨o, e, _, d⟩ := (show h.IsTupleIter it a i from x); exact ⟨o, e, fun v z => by rw [d] at z; cases z⟩
theorem IterB.at_ {b : Bool} {h h' : Heap} {it a : Addr} {i : Nat} (x : IterB b h it a i) (k : ∀ o, h.get? it = some o → h'.get? it = some o) : IterB b h' it a i := by
  cases b with
  | true => exact (show h.IsListIter it a i from x).at k
  | false => exact (show h.IsTupleIter it a i from x).at k
theorem drawsB {prog : Program} {w : World} {A : Around} (b : Bool) (hh : A.handled = none) (it a : Addr) (hne : a ≠ it) (items : Array Value) :
    Draws prog w A it [it, a] items.size (fun i v => items[i]? = some v) (fun i h => IterB b h it a i ∧ SeqB b h a items) := by
  cases b with
  | true => exact Draws.list hh it a hne items
  | false => exact Draws.tuple hh it a hne items
theorem beginsB (b : Bool) (a : Addr) (items : Array Value) : Begins (.ref a) (objB b a) fun h => SeqB b h a items := by
  cases b with
  | true => exact begins_list a items
  | false => exact begins_tuple a items
theorem objB_iter {b : Bool} {h : Heap} {it a : Addr} (e : h.get? it = some (objB b a)) : IterB b h it a 0 := by
  cases b with
  | true => exact (show h.IsListIter it a 0 from ⟨_, e, rfl, rfl⟩)
  | false => exact (show h.IsTupleIter it a 0 from ⟨_, e, rfl, rfl⟩)
section
variable {X : Cx} {pins : List (Addr × Obj)} {σ : L2.St} {H : Hp} {s : Shared}
theorem seqB_of {b : Bool} {a : Addr} {xs : List V} (I : Inv X pins σ H s) (h : SqB b X.K H a xs) : ∃ its, Vals xs its ∧ SeqB b s.heap a its.toArray ∧ xs.length ≤ sizeLine ∧ a < s.heap.objs.size := by
  cases b with
  | true =>
    obtain ⟨its, r, p, z⟩ := I.list (show SqL X.K H a xs from h)
    exact ⟨its, r, p.isList, z, p.lt⟩
  | false =>
    obtain ⟨its, r, p, z⟩ := I.tuple (show SqT X.K H a xs from h)
    obtain ⟨o, e, _⟩ := id p
    exact ⟨its, r, p, z, Heap.lt_size e⟩
theorem seqB_inj {b : Bool} {a : Addr} {xs ys : List V} (I : Inv X pins σ H s) (h : SqB b X.K H a xs) (h' : SqB b X.K H a ys) : xs = ys := by
  cases b with
  | true => exact I.list_inj h h'
  | false => exact I.tuple_inj h h'
end
/-! ### enumerate -/
def ItE (K : PySem.W.Frag) (b : Bool) (a : Addr) : It where
  go := fun i H => ∃ xs x, SqB b K H a xs ∧ xs[i]? = some x
  yld := fun i H v H' => ∃ T x, v = .ref T ∧ H T = none ∧ H' = upd H T (.tup [.int (i : Nat), x]) ∧ ∀ xs, SqB b K H a xs → xs[i]? = some x
  stop := fun i H => ∃ xs : List V, SqB b K H a xs ∧ xs.length = i
theorem turnE {P : Program} {w : World} {K : PySem.W.Frag} {elts : List Expr} {kk : Nat} {tpos : Pos} (b : Bool) (a e it : Addr) (hai : a ≠ it) (hae : a ≠ e) :
    Turn P w K (.Tuple elts kk tpos) (ItE K b a) [e, it] e (fun i h => (∃ old, IsEnum h e it ((i : Nat) : Int) old) ∧ IterB b h it a i ∧ e ≠ it) where
  mem := List.mem_cons_self
  obj := fun i h ⟨⟨old, he⟩, hit, _⟩ c hc => by
    rcases List.mem_cons.mp hc with z | hc
    · subst z
      exact ⟨_, he, fun v q => nomatch q⟩
    · rcases List.mem_singleton.mp hc with rfl
      exact hit.is
  keep := fun i h h' ⟨⟨old, he⟩, hit, ne⟩ k => ⟨⟨old, k e List.mem_cons_self _ he⟩, hit.at_ fun o q => k it (List.mem_cons_of_mem _ List.mem_cons_self) o q, ne⟩
  item := by
    intro X hP hw hK hc i pins s σ H E I hf st hg
    subst hP hw hK
    obtain ⟨⟨old, he⟩, hit, hne⟩ := st
    obtain ⟨xs, x, hq, hx⟩ := hg
    obtain ⟨its, rv, p, hz, ha⟩ := seqB_of I hq
    have D := drawsB (prog := X.prog) (w := X.w) (A := X.A.in1) b (I.ok.hd hc) it a hai its.toArray
    have hlen := rv.length
    have hi : i < its.toArray.size := by
      have := (List.getElem?_eq_some_iff.mp hx).1
      rw [List.size_toArray]
      omega
    have hel : e < s.heap.objs.size := Heap.lt_size he
    have hil : it < s.heap.objs.size := by obtain ⟨o, q, _⟩ := hit.is; exact Heap.lt_size q
    refine wpAny_pyNext_enum_itemD D he ⟨hit, p⟩ hi hne (fun z => by
      rcases List.mem_cons.mp z with z | z
      · exact hne z
      · exact hae (List.mem_singleton.mp z).symm) fun y h' tk hy ho hst' hT hsz hk => ?_
    obtain ⟨u, hu, ru⟩ := rv.get hx
    have hyu : y = u := by
      have q : its.toArray[i]? = some u := by simpa using hu
      rw [hy] at q
      exact Option.some.inj q
    subst hyu
    refine ⟨_, rfl, wpAny_letOwnedTupleGo_enum (s := { s with heap := h', toks := tk + 1 }) ho fun h'' he' sb => ?_⟩
    have hT2 : h''.get? s.heap.objs.size = some { cls := .type "tuple", data := .seq #[.int i tk, y] } := (sb.2 _ (Nat.ne_of_gt hel)).trans hT
    have new : ObjOk X.prog X.w (upd H s.heap.objs.size (.tup [.int (i : Nat), x])) h'' s.heap.objs.size (.tup [.int (i : Nat), x]) :=
      ⟨by show 2 ≤ sizeLine; decide, [.int i tk, y], .cons ⟨_, rfl⟩ (.cons ru .nil), ⟨_, hT2, rfl, _, rfl⟩⟩
    have out : ∀ c, c ∉ [e, it] → c ≠ e ∧ c ≠ it := fun c hc => ⟨fun z => hc (by simp [z]), fun z => hc (by simp [z])⟩
    have I1 : Inv X pins σ (upd H s.heap.objs.size (.tup [.int (i : Nat), x])) { s with heap := h'', toks := tk + 1 } :=
      I.turnedNew (ch := [e, it]) (fun c ob hc q => (sb.2 c (out c hc).1).trans (hk c ob (out c hc).1 (out c hc).2 q)) hf (Nat.le_refl _) new
    refine ⟨.ref s.heap.objs.size, _, I1, rfl, ⟨_, x, rfl, I.hok.fresh (Nat.le_refl _), rfl, fun ys hy => by rw [seqB_inj I hy hq]; exact hx⟩, ⟨⟨y, ?_⟩, hst'.1.at_ fun o q => (sb.2 it (Ne.symm hne)).trans q, hne⟩, fun c hc => ?_⟩
    · have e1 : ((i + 1 : Nat) : Int) = (i : Int) + 1 := by omega
      rw [e1]
      exact he'
    · have hc' : c < s.heap.objs.size := by
        rcases List.mem_cons.mp hc with z | z
        · rw [z]; exact hel
        · rw [List.mem_singleton.mp z]; exact hil
      rw [upd_ne (Nat.ne_of_lt hc')]
      exact (hf c hc).1
  done := by
    intro X hP hw hK hc i pins s σ H E I hf st hg
    subst hP hw hK
    obtain ⟨⟨old, he⟩, hit, hne⟩ := st
    obtain ⟨xs, hq, hx⟩ := hg
    obtain ⟨its, rv, p, hz, ha⟩ := seqB_of I hq
    have D := drawsB (prog := X.prog) (w := X.w) (A := X.A.in1) b (I.ok.hd hc) it a hai its.toArray
    have hn : its.toArray.size = i := by rw [List.size_toArray, ← rv.length, hx]
    refine wpAny_pyNext_enum_endD D he (by rw [hn]; exact ⟨hit, p⟩) fun h' eb => ⟨rfl, ?_⟩
    obtain ⟨f0, f1, f2, f3, f4, f5⟩ := hf it (List.mem_cons_of_mem _ List.mem_cons_self)
    exact I.turned (t' := s.toks) (fun c o hc q => eb c o hc q) f0 f1 f3 f4 f5
  self := fun A i s Q E ⟨⟨_, he⟩, _⟩ h => wpAny_pyIter_enum he h
/-! ### zip of two, lists or tuples -/
def IsIt2 (z TI TO i1 i2 a1 a2 : Addr) (b1 b2 : Bool) (i : Nat) (h : Heap) : Prop :=
  IsZip h z TI TO .none ∧ IsTupOf2 h TI (.ref i1) (.ref i2) ∧ (∃ x y, IsTupOf2 h TO x y) ∧ IterB b1 h i1 a1 i ∧ IterB b2 h i2 a2 i
def ItZ2 (K : PySem.W.Frag) (b1 b2 : Bool) (a1 a2 : Addr) : It where
  go := fun i H => ∃ xs ys x y, SqB b1 K H a1 xs ∧ SqB b2 K H a2 ys ∧ xs[i]? = some x ∧ ys[i]? = some y
  yld := fun i H v H' => ∃ T x y, v = .ref T ∧ H T = none ∧ H' = upd H T (.tup [x, y]) ∧ (∀ xs, SqB b1 K H a1 xs → xs[i]? = some x) ∧ ∀ xs, SqB b2 K H a2 xs → xs[i]? = some y
  stop := fun i H => ∃ xs ys : List V, SqB b1 K H a1 xs ∧ SqB b2 K H a2 ys ∧ i = min xs.length ys.length
theorem mem4 {z TI TO i1 i2 c : Addr} (hc : c ∈ [z, TI, TO, i1, i2]) : c = z ∨ c = TI ∨ c = TO ∨ c = i1 ∨ c = i2 := by simpa using hc
theorem turnZ2 {P : Program} {w : World} {K : PySem.W.Frag} {elts : List Expr} {kk : Nat} {tpos : Pos} (b1 b2 : Bool) {z TI TO i1 i2 a1 a2 : Addr} (S : ZipSep2 z TI TO i1 i2 [i1, a1] [i2, a2]) (h1 : a1 ≠ i1) (h2 : a2 ≠ i2) :
    Turn P w K (.Tuple elts kk tpos) (ItZ2 K b1 b2 a1 a2) [z, TI, TO, i1, i2] z (IsIt2 z TI TO i1 i2 a1 a2 b1 b2) where
  mem := List.mem_cons_self
  obj := fun i h ⟨hz, hTI, ⟨x, y, hTO⟩, t1, t2⟩ c hc => by
    rcases mem4 hc with q | q | q | q | q
    · rw [q]; exact ⟨_, hz, fun v q => nomatch q⟩
    · rw [q]; exact ⟨_, hTI, fun v q => nomatch q⟩
    · rw [q]; exact ⟨_, hTO, fun v q => nomatch q⟩
    · rw [q]; exact t1.is
    · rw [q]; exact t2.is
  keep := fun i h h' ⟨hz, hTI, ⟨x, y, hTO⟩, t1, t2⟩ k => ⟨k z (by simp) _ hz, k TI (by simp) _ hTI, ⟨x, y, k TO (by simp) _ hTO⟩, t1.at_ fun o q => k i1 (by simp) o q, t2.at_ fun o q => k i2 (by simp) o q⟩
  item := by
    intro X hP hw hK hc i pins s σ H E I hf st hg
    subst hP hw hK
    obtain ⟨hz, hTI, ⟨x0, y0, hTO⟩, t1, t2⟩ := st
    obtain ⟨xs, ys, x, y, hqx, hqy, hx, hy⟩ := hg
    obtain ⟨l1, r1, p1, _, _⟩ := seqB_of I hqx
    obtain ⟨l2, r2, p2, _, _⟩ := seqB_of I hqy
    have D1 := drawsB (prog := X.prog) (w := X.w) (A := X.A.in1) b1 (I.ok.hd hc) i1 a1 h1 l1.toArray
    have D2 := drawsB (prog := X.prog) (w := X.w) (A := X.A.in1) b2 (I.ok.hd hc) i2 a2 h2 l2.toArray
    have lt : ∀ {ws : List V} {l : List Value} {v : V}, Vals ws l → ws[i]? = some v → i < l.toArray.size := fun {ws l v} r e => by
      have q := (List.getElem?_eq_some_iff.mp e).1
      have q2 := r.length
      rw [List.size_toArray]
      omega
    have hzl : z < s.heap.objs.size := Heap.lt_size hz
    refine wpAny_pyNext_zipD2_item S D1 D2 hz hTI hTO ⟨t1, p1⟩ ⟨t2, p2⟩ (lt r1 hx) (lt r2 hy) fun v1 v2 h' tk e1 e2 hz' hTO' s1 s2 hT hsz hk => ?_
    obtain ⟨w1, f1, g1⟩ := r1.get hx
    obtain ⟨w2, f2, g2⟩ := r2.get hy
    have same : ∀ {l : List Value} {v v' : Value}, l.toArray[i]? = some v → l[i]? = some v' → v = v' := fun {l v v'} a b => by
      have q : l.toArray[i]? = some v' := by simpa using b
      rw [a] at q
      exact Option.some.inj q
    obtain rfl := same e1 f1
    obtain rfl := same e2 f2
    refine ⟨_, rfl, wpAny_letOwnedTupleGo_zip (s := { s with heap := h', toks := tk }) hz' fun h'' hz'' sb => ?_⟩
    have hT2 : h''.get? s.heap.objs.size = some { cls := .type "tuple", data := .seq #[v1, v2] } := (sb.2 _ (Nat.ne_of_gt hzl)).trans hT
    have new : ObjOk X.prog X.w (upd H s.heap.objs.size (.tup [x, y])) h'' s.heap.objs.size (.tup [x, y]) :=
      ⟨by show 2 ≤ sizeLine; decide, [v1, v2], .cons g1 (.cons g2 .nil), ⟨_, hT2, rfl, _, rfl⟩⟩
    have I1 : Inv X pins σ (upd H s.heap.objs.size (.tup [x, y])) { s with heap := h'', toks := tk } :=
      I.turnedNew (ch := [z, TI, TO, i1, i2]) (fun c o hc q => by
        simp only [List.mem_cons, List.not_mem_nil, or_false, not_or] at hc
        exact (sb.2 c hc.1).trans (hk c o hc.1 hc.2.2.1 hc.2.2.2.1 hc.2.2.2.2 q)) hf (Nat.le_refl _) new
    refine ⟨.ref s.heap.objs.size, _, I1, rfl, ⟨_, x, y, rfl, I.hok.fresh (Nat.le_refl _), rfl, fun l hl => by rw [seqB_inj I hl hqx]; exact hx, fun l hl => by rw [seqB_inj I hl hqy]; exact hy⟩, ⟨hz'', ?_, ⟨v1, v2, ?_⟩, ?_, ?_⟩, fun c hc => ?_⟩
    · exact (sb.2 _ S.TIz).trans (hk _ _ S.TIz S.TITO S.TIi1 S.TIi2 hTI)
    · exact (sb.2 _ S.TOz).trans hTO'
    · exact s1.1.at_ fun o q => (sb.2 _ (Ne.symm S.zi1)).trans q
    · exact s2.1.at_ fun o q => (sb.2 _ (Ne.symm S.zi2)).trans q
    · have hc' : c < s.heap.objs.size := by
        have tl : ∀ {b : Bool} {it a : Addr}, IterB b s.heap it a i → it < s.heap.objs.size := fun t => by obtain ⟨o, q, _⟩ := t.is; exact Heap.lt_size q
        rcases mem4 hc with q | q | q | q | q
        · rw [q]; exact hzl
        · rw [q]; exact Heap.lt_size hTI
        · rw [q]; exact Heap.lt_size hTO
        · rw [q]; exact tl t1
        · rw [q]; exact tl t2
      rw [upd_ne (Nat.ne_of_lt hc')]
      exact (hf c hc).1
  done := by
    intro X hP hw hK hc i pins s σ H E I hf st hg
    subst hP hw hK
    obtain ⟨hz, hTI, ⟨x0, y0, hTO⟩, t1, t2⟩ := st
    obtain ⟨xs, ys, hqx, hqy, hi⟩ := hg
    obtain ⟨l1, r1, p1, _, _⟩ := seqB_of I hqx
    obtain ⟨l2, r2, p2, _, _⟩ := seqB_of I hqy
    have D1 := drawsB (prog := X.prog) (w := X.w) (A := X.A.in1) b1 (I.ok.hd hc) i1 a1 h1 l1.toArray
    have D2 := drawsB (prog := X.prog) (w := X.w) (A := X.A.in1) b2 (I.ok.hd hc) i2 a2 h2 l2.toArray
    have e1 := r1.length
    have e2 := r2.length
    have z1 : l1.toArray.size = l1.length := List.size_toArray
    have z2 : l2.toArray.size = l2.length := List.size_toArray
    refine wpAny_pyNext_zipD2_end S D1 D2 hz hTI hTO ⟨t1, p1⟩ ⟨t2, p2⟩ (by omega) (by omega) (by omega) fun h' tk hk => ⟨rfl, ?_⟩
    exact I.turnedL (t' := tk) (ch := [z, TI, TO, i1, i2]) (fun c o hc q => by
      simp only [List.mem_cons, List.not_mem_nil, or_false, not_or] at hc
      exact hk c o hc.1 hc.2.2.1 hc.2.2.2.1 hc.2.2.2.2 q) hf
  self := fun A i s Q E st h => wpAny_pyIter_zip st.1 h
/-! ### zip of three -/
def IsIt3 (z TI TO i1 i2 i3 a1 a2 a3 : Addr) (b1 b2 b3 : Bool) (i : Nat) (h : Heap) : Prop :=
  IsZip h z TI TO .none ∧ IsTupOf3 h TI (.ref i1) (.ref i2) (.ref i3) ∧ (∃ x y u, IsTupOf3 h TO x y u) ∧ IterB b1 h i1 a1 i ∧ IterB b2 h i2 a2 i ∧ IterB b3 h i3 a3 i
def ItZ3 (K : PySem.W.Frag) (b1 b2 b3 : Bool) (a1 a2 a3 : Addr) : It where
  go := fun i H => ∃ xs ys zs x y z, SqB b1 K H a1 xs ∧ SqB b2 K H a2 ys ∧ SqB b3 K H a3 zs ∧ xs[i]? = some x ∧ ys[i]? = some y ∧ zs[i]? = some z
  yld := fun i H v H' => ∃ T x y z, v = .ref T ∧ H T = none ∧ H' = upd H T (.tup [x, y, z]) ∧ (∀ xs, SqB b1 K H a1 xs → xs[i]? = some x) ∧ (∀ xs, SqB b2 K H a2 xs → xs[i]? = some y) ∧ ∀ xs, SqB b3 K H a3 xs → xs[i]? = some z
  stop := fun i H => ∃ xs ys zs : List V, SqB b1 K H a1 xs ∧ SqB b2 K H a2 ys ∧ SqB b3 K H a3 zs ∧ i = min (min xs.length ys.length) zs.length
theorem mem5 {z TI TO i1 i2 i3 c : Addr} (hc : c ∈ [z, TI, TO, i1, i2, i3]) : c = z ∨ c = TI ∨ c = TO ∨ c = i1 ∨ c = i2 ∨ c = i3 := by simpa using hc
theorem turnZ3 {P : Program} {w : World} {K : PySem.W.Frag} {elts : List Expr} {kk : Nat} {tpos : Pos} (b1 b2 b3 : Bool) {z TI TO i1 i2 i3 a1 a2 a3 : Addr} (S : ZipSep3 z TI TO i1 i2 i3 [i1, a1] [i2, a2] [i3, a3]) (h1 : a1 ≠ i1) (h2 : a2 ≠ i2) (h3 : a3 ≠ i3) :
    Turn P w K (.Tuple elts kk tpos) (ItZ3 K b1 b2 b3 a1 a2 a3) [z, TI, TO, i1, i2, i3] z (IsIt3 z TI TO i1 i2 i3 a1 a2 a3 b1 b2 b3) where
  mem := List.mem_cons_self
  obj := fun i h ⟨hz, hTI, ⟨x, y, u, hTO⟩, t1, t2, t3⟩ c hc => by
    rcases mem5 hc with q | q | q | q | q | q
    · rw [q]; exact ⟨_, hz, fun v q => nomatch q⟩
    · rw [q]; exact ⟨_, hTI, fun v q => nomatch q⟩
    · rw [q]; exact ⟨_, hTO, fun v q => nomatch q⟩
    · rw [q]; exact t1.is
    · rw [q]; exact t2.is
    · rw [q]; exact t3.is
  keep := fun i h h' ⟨hz, hTI, ⟨x, y, u, hTO⟩, t1, t2, t3⟩ k => ⟨k z (by simp) _ hz, k TI (by simp) _ hTI, ⟨x, y, u, k TO (by simp) _ hTO⟩, t1.at_ fun o q => k i1 (by simp) o q, t2.at_ fun o q => k i2 (by simp) o q, t3.at_ fun o q => k i3 (by simp) o q⟩
  item := by
    intro X hP hw hK hc i pins s σ H E I hf st hg
    subst hP hw hK
    obtain ⟨hz, hTI, ⟨x0, y0, u0, hTO⟩, t1, t2, t3⟩ := st
    obtain ⟨xs, ys, zs, x, y, u, hqx, hqy, hqu, hx, hy, hu⟩ := hg
    obtain ⟨l1, r1, p1, _, _⟩ := seqB_of I hqx
    obtain ⟨l2, r2, p2, _, _⟩ := seqB_of I hqy
    obtain ⟨l3, r3, p3, _, _⟩ := seqB_of I hqu
    have D1 := drawsB (prog := X.prog) (w := X.w) (A := X.A.in1) b1 (I.ok.hd hc) i1 a1 h1 l1.toArray
    have D2 := drawsB (prog := X.prog) (w := X.w) (A := X.A.in1) b2 (I.ok.hd hc) i2 a2 h2 l2.toArray
    have D3 := drawsB (prog := X.prog) (w := X.w) (A := X.A.in1) b3 (I.ok.hd hc) i3 a3 h3 l3.toArray
    have lt : ∀ {ws : List V} {l : List Value} {v : V}, Vals ws l → ws[i]? = some v → i < l.toArray.size := fun {ws l v} r e => by
      have q := (List.getElem?_eq_some_iff.mp e).1
      have q2 := r.length
      rw [List.size_toArray]
      omega
    have hzl : z < s.heap.objs.size := Heap.lt_size hz
    refine wpAny_pyNext_zipD3_item S D1 D2 D3 hz hTI hTO ⟨t1, p1⟩ ⟨t2, p2⟩ ⟨t3, p3⟩ (lt r1 hx) (lt r2 hy) (lt r3 hu) fun v1 v2 v3 h' tk e1 e2 e3 hz' hTO' s1 s2 s3 hT hsz hk => ?_
    obtain ⟨w1, f1, g1⟩ := r1.get hx
    obtain ⟨w2, f2, g2⟩ := r2.get hy
    obtain ⟨w3, f3, g3⟩ := r3.get hu
    have same : ∀ {l : List Value} {v v' : Value}, l.toArray[i]? = some v → l[i]? = some v' → v = v' := fun {l v v'} a b => by
      have q : l.toArray[i]? = some v' := by simpa using b
      rw [a] at q
      exact Option.some.inj q
    obtain rfl := same e1 f1
    obtain rfl := same e2 f2
    obtain rfl := same e3 f3
    refine ⟨_, rfl, wpAny_letOwnedTupleGo_zip (s := { s with heap := h', toks := tk }) hz' fun h'' hz'' sb => ?_⟩
    have hT2 : h''.get? s.heap.objs.size = some { cls := .type "tuple", data := .seq #[v1, v2, v3] } := (sb.2 _ (Nat.ne_of_gt hzl)).trans hT
    have new : ObjOk X.prog X.w (upd H s.heap.objs.size (.tup [x, y, u])) h'' s.heap.objs.size (.tup [x, y, u]) :=
      ⟨by show 3 ≤ sizeLine; decide, [v1, v2, v3], .cons g1 (.cons g2 (.cons g3 .nil)), ⟨_, hT2, rfl, _, rfl⟩⟩
    have I1 : Inv X pins σ (upd H s.heap.objs.size (.tup [x, y, u])) { s with heap := h'', toks := tk } :=
      I.turnedNew (ch := [z, TI, TO, i1, i2, i3]) (fun c o hc q => by
        simp only [List.mem_cons, List.not_mem_nil, or_false, not_or] at hc
        exact (sb.2 c hc.1).trans (hk c o hc.1 hc.2.2.1 hc.2.2.2.1 hc.2.2.2.2.1 hc.2.2.2.2.2 q)) hf (Nat.le_refl _) new
    refine ⟨.ref s.heap.objs.size, _, I1, rfl, ⟨_, x, y, u, rfl, I.hok.fresh (Nat.le_refl _), rfl, fun l hl => by rw [seqB_inj I hl hqx]; exact hx, fun l hl => by rw [seqB_inj I hl hqy]; exact hy, fun l hl => by rw [seqB_inj I hl hqu]; exact hu⟩, ⟨hz'', ?_, ⟨v1, v2, v3, ?_⟩, ?_, ?_, ?_⟩, fun c hc => ?_⟩
    · exact (sb.2 _ S.TIz).trans (hk _ _ S.TIz S.TITO S.TIi1 S.TIi2 S.TIi3 hTI)
    · exact (sb.2 _ S.TOz).trans hTO'
    · exact s1.1.at_ fun o q => (sb.2 _ (Ne.symm S.zi1)).trans q
    · exact s2.1.at_ fun o q => (sb.2 _ (Ne.symm S.zi2)).trans q
    · exact s3.1.at_ fun o q => (sb.2 _ (Ne.symm S.zi3)).trans q
    · have hc' : c < s.heap.objs.size := by
        have tl : ∀ {b : Bool} {it a : Addr}, IterB b s.heap it a i → it < s.heap.objs.size := fun t => by obtain ⟨o, q, _⟩ := t.is; exact Heap.lt_size q
        rcases mem5 hc with q | q | q | q | q | q
        · rw [q]; exact hzl
        · rw [q]; exact Heap.lt_size hTI
        · rw [q]; exact Heap.lt_size hTO
        · rw [q]; exact tl t1
        · rw [q]; exact tl t2
        · rw [q]; exact tl t3
      rw [upd_ne (Nat.ne_of_lt hc')]
      exact (hf c hc).1
  done := by
    intro X hP hw hK hc i pins s σ H E I hf st hg
    subst hP hw hK
    obtain ⟨hz, hTI, ⟨x0, y0, u0, hTO⟩, t1, t2, t3⟩ := st
    obtain ⟨xs, ys, zs, hqx, hqy, hqu, hi⟩ := hg
    obtain ⟨l1, r1, p1, _, _⟩ := seqB_of I hqx
    obtain ⟨l2, r2, p2, _, _⟩ := seqB_of I hqy
    obtain ⟨l3, r3, p3, _, _⟩ := seqB_of I hqu
    have D1 := drawsB (prog := X.prog) (w := X.w) (A := X.A.in1) b1 (I.ok.hd hc) i1 a1 h1 l1.toArray
    have D2 := drawsB (prog := X.prog) (w := X.w) (A := X.A.in1) b2 (I.ok.hd hc) i2 a2 h2 l2.toArray
    have D3 := drawsB (prog := X.prog) (w := X.w) (A := X.A.in1) b3 (I.ok.hd hc) i3 a3 h3 l3.toArray
    have e1 := r1.length
    have e2 := r2.length
    have e3 := r3.length
    have z1 : l1.toArray.size = l1.length := List.size_toArray
    have z2 : l2.toArray.size = l2.length := List.size_toArray
    have z3 : l3.toArray.size = l3.length := List.size_toArray
    refine wpAny_pyNext_zipD3_end S D1 D2 D3 hz hTI hTO ⟨t1, p1⟩ ⟨t2, p2⟩ ⟨t3, p3⟩ (by omega) (by omega) (by omega) (by omega) fun h' tk hk => ⟨rfl, ?_⟩
    exact I.turnedL (t' := tk) (ch := [z, TI, TO, i1, i2, i3]) (fun c o hc q => by
      simp only [List.mem_cons, List.not_mem_nil, or_false, not_or] at hc
      exact hk c o hc.1 hc.2.2.1 hc.2.2.2.1 hc.2.2.2.2.1 hc.2.2.2.2.2 q) hf
  self := fun A i s Q E st h => wpAny_pyIter_zip st.1 h
/-! ### the keys of a dict -/
def ItK (d : Addr) (ob : Obj) (ks : List Addr) : It where
  go := fun i H => H d = some (.ext fun h => h.get? d = some ob) ∧ i < ks.length
  yld := fun i H v H' => H' = H ∧ ∃ a, ks[i]? = some a ∧ v = .ref a
  stop := fun i H => H d = some (.ext fun h => h.get? d = some ob) ∧ ks.length = i
theorem turnK {P : Program} {w : World} {K : PySem.W.Frag} {tg : Expr} {ob : Obj} {es : Array DictEntry} {ep : Nat} {ks : List Addr} (d it : Addr) (hod : ob.data = .dict es ep) (hes : es.toList.map (·.key) = ks.map Value.ref) :
    Turn P w K tg (ItK d ob ks) [it] it (fun i h => h.IsKeyIter it d i es.size ep) where
  mem := List.mem_singleton.mpr rfl
  obj := fun i h ⟨oi, e, c, dd⟩ b hb => by
    rcases List.mem_singleton.mp hb with rfl
    exact ⟨oi, e, fun v z => by rw [dd] at z; cases z⟩
  keep := fun i h h' st k => st.at fun oi e => k it (List.mem_singleton.mpr rfl) oi e
  item := by
    intro X hP hw hK hc i pins s σ H E I hf st hg
    subst hP hw hK
    obtain ⟨hd, hi⟩ := hg
    obtain ⟨f0, f1, f2, f3, f4, f5⟩ := hf it (List.mem_singleton.mpr rfl)
    obtain ⟨hgd, _, _⟩ := I.hok d _ hd
    have hl : es.size = ks.length := by
      have := congrArg List.length hes
      simp only [List.length_map, Array.length_toList] at this
      exact this
    have hie : i < es.size := by omega
    have hx : es[i]? = some es[i] := Array.getElem?_eq_getElem hie
    have hkey : es[i].key = .ref (ks[i]'hi) := by
      have q := congrArg (fun l => l[i]?) hes
      simp only [List.getElem?_map, Array.getElem?_toList, hx, List.getElem?_eq_getElem hi, Option.map_some, Option.some.injEq] at q
      exact q
    refine next_key_item st hgd hod rfl hx fun h' st' sb => ?_
    have I1 : Inv X pins σ H { s with heap := h' } := I.turned (t' := s.toks) (fun b o hb e => (sb.2 b hb).trans e) f0 f1 f3 f4 f5
    obtain ⟨oi, e, c, dd⟩ := id st'
    rw [hkey]
    exact ⟨_, rfl, go_of (s := { s with heap := h' }) e c dd (by decide) ⟨.ref ks[i], H, I1, rfl, ⟨rfl, _, List.getElem?_eq_getElem hi, rfl⟩, st', fun b hb => (hf b hb).1⟩⟩
  done := by
    intro X hP hw hK hc i pins s σ H E I hf st hg
    subst hP hw hK
    obtain ⟨hd, hi⟩ := hg
    obtain ⟨f0, f1, f2, f3, f4, f5⟩ := hf it (List.mem_singleton.mpr rfl)
    obtain ⟨hgd, _, _⟩ := I.hok d _ hd
    have hl : es.size = ks.length := by
      have := congrArg List.length hes
      simp only [List.length_map, Array.length_toList] at this
      exact this
    exact next_key_end (I.ok.hd hc) st hgd hod rfl (by omega) fun h' eb => ⟨rfl, I.turned (t' := s.toks) (fun b o hb e => eb b o hb e) f0 f1 f3 f4 f5⟩
  self := fun A i s Q E st h => wpAny_pyIter_keyiter st h
end Mi
set_option Elab.async false
set_option linter.all false
set_option maxRecDepth 100000
set_option maxHeartbeats 400000
/-! Mi12: sources of loops, read. -/
namespace Mi
open PySem PySem.Spec PyProof.Rows L2
/-- enumerate(v) of anything that begins an iterator -/
theorem meets_enum1 {v : Value} {o : Obj} {Hh : Heap → Prop} (B : Begins v o Hh) : Meets (Builtin.«enumerate.__new__» ⟨[.type "enumerate", v], []⟩) (fun _ R s => Hh s.heap ∧
    R (.ok (.ret (.ref (s.heap.push o).objs.size))) { s with heap := (s.heap.push o).push { cls := .type "enumerate", data := .fields #[.none, .bool false, .ref s.heap.objs.size, rawInt 0, .none, .none] } }) :=
  .of_wp fun prog w A R s hh => by
    obtain ⟨hp, g, d, tk, os⟩ := s
    obtain ⟨h1, hh⟩ := hh
    have hsub := sub_enumerate
    have q1 : ∀ {A' : Around} {E : Value → Shared → Prop} {Q : Value → Shared → Prop}, Q (.ref hp.objs.size) ⟨hp.push o, g, d, tk, os⟩ → wpAny (model prog w) A' (pyIter v) Q E ⟨hp, g, d, tk, os⟩ :=
      fun q => B.iter prog w _ _ ⟨hp, g, d, tk, os⟩ _ h1 q
    wp_walk using q1
    refine wpAny_stack_any fun st => wpAny_pure ?_
    split
    · rename_i c _ _ _ _ _
      cases (c == Value.type "enumerate")
      · wp_walk using q1
        exact ⟨_, rfl, hh⟩
      · wp_walk using q1
        exact ⟨_, rfl, hh⟩
    · wp_walk using q1
      exact ⟨_, rfl, hh⟩
theorem enum_begins1 {prog : Program} {w : World} {A : Around} {E : Value → Shared → Prop} {s : Shared} {v : Value} {o : Obj} {Hh : Heap → Prop} {Q : Value → Shared → Prop} (B : Begins v o Hh) (h1 : Hh s.heap)
    (h : ∀ h', IsEnum h' (s.heap.objs.size + 1) s.heap.objs.size 0 .none → h'.get? s.heap.objs.size = some o → (∀ b o, s.heap.get? b = some o → h'.get? b = some o) → Q (.ref (s.heap.objs.size + 1)) { s with heap := h' }) :
    wpAny (model prog w) A (call (.type "enumerate") [v]) Q E s := by
  refine callType_new F.called_enumerate (by decide) (F.typeCall_enumerate_1 _) (F.newCall_enumerate_1 _) (fun obj => F.args_object_init_2 obj _) F.entry_enumerate_new (meets_enum1 B) ⟨h1, ?_⟩
  have z : (s.heap.push o).objs.size = s.heap.objs.size + 1 := Heap.size_push ..
  show _ ∧ _
  rw [z]
  have he := Heap.get?_push_size (s.heap.push o) (o := { cls := .type "enumerate", data := .fields #[.none, .bool false, .ref s.heap.objs.size, rawInt 0, .none, .none] }) rfl
  rw [z] at he
  exact ⟨⟨_, he, rfl⟩, h _ he (Heap.get?_push_of_some _ (Heap.get?_push_size _ B.free)) fun b o x => Heap.get?_push_of_some _ (Heap.get?_push_of_some _ x)⟩

/-! ### what a source gives -/
def JOk (T : Tb) (G0 : Hp) (m0 : Mm) (ds : List D) (J : It) : Prop :=
  ∀ (i : Nat) (F G : Hp) (m : Mm) (s : S) (H : Hp), Ext G0 m0 G m → R T F G m s H →
    (i = ds.length → J.stop i H) ∧ ∀ d, ds[i]? = some d → J.go i H ∧ ∀ x H', J.yld i H x H' → ∃ G', Ext G m G' m ∧ R T F G' m s H' ∧ Rp T G' m d x
/-- the same while P holds of the state -/
def JOkP (P : S → Prop) (T : Tb) (G0 : Hp) (m0 : Mm) (ds : List D) (J : It) : Prop :=
  ∀ (i : Nat) (F G : Hp) (m : Mm) (s : S) (H : Hp), P s → Ext G0 m0 G m → R T F G m s H →
    (i = ds.length → J.stop i H) ∧ ∀ d, ds[i]? = some d → J.go i H ∧ ∀ x H', J.yld i H x H' → ∃ G', Ext G m G' m ∧ R T F G' m s H' ∧ Rp T G' m d x
section
variable {T : Tb} {G0 : Hp} {m0 : Mm}
theorem JOk.toP {P : S → Prop} {ds : List D} {J : It} (h : JOk T G0 m0 ds J) : JOkP P T G0 m0 ds J := fun i F G m s H _ => h i F G m s H
theorem jok_list {a : Addr} {ds : List D} {vs : List V} (h : G0 a = some (.lst vs)) (r : Rps T G0 m0 ds vs) : JOk T G0 m0 ds (Itl T.K a) := by
  intro i F G m s H e rr
  have hH : SqL T.K H a vs := SqL.of (rr.gH _ _ (e.g _ _ h))
  refine ⟨fun hi => ⟨vs, hH, by rw [hi, r.length]; exact Nat.le_refl _⟩, fun d hd => ?_⟩
  obtain ⟨v, hv, rv⟩ := r.get hd
  refine ⟨⟨vs, v, hH, hv⟩, fun x H' y => ?_⟩
  obtain ⟨y1, y2⟩ := y
  subst y1
  have := y2 vs hH
  rw [hv] at this
  cases this
  exact ⟨G, Ext.refl G m, rr, rv.mono e⟩
theorem jok_tup {a : Addr} {ds : List D} {vs : List V} (h : SqT T.K G0 a vs) (r : Rps T G0 m0 ds vs) : JOk T G0 m0 ds (Itt T.K a) := by
  intro i F G m s H e rr
  have hH : SqT T.K H a vs := SqT.sub rr.gH (SqT.sub e.g h)
  refine ⟨fun hi => ⟨vs, hH, by rw [hi, r.length]; exact Nat.le_refl _⟩, fun d hd => ?_⟩
  obtain ⟨v, hv, rv⟩ := r.get hd
  refine ⟨⟨vs, v, hH, hv⟩, fun x H' y => ?_⟩
  obtain ⟨y1, y2⟩ := y
  subst y1
  have := y2 vs hH
  rw [hv] at this
  cases this
  exact ⟨G, Ext.refl G m, rr, rv.mono e⟩
theorem rangeD_get : ∀ (n : Nat) (lo : Int) (i : Nat) (d : D), (rangeD lo n)[i]? = some d → i < n ∧ d = .int (lo + i)
  | 0, _, _, _, h => by simp [rangeD] at h
  | n + 1, lo, 0, d, h => by
    simp [rangeD] at h
    exact ⟨Nat.succ_pos _, by rw [← h]; simp⟩
  | n + 1, lo, i + 1, d, h => by
    obtain ⟨h1, h2⟩ := rangeD_get n (lo + 1) i d (by simpa [rangeD] using h)
    refine ⟨by omega, ?_⟩
    rw [h2]
    congr 1
    omega
theorem rangeD_length : ∀ (n : Nat) (lo : Int), (rangeD lo n).length = n
  | 0, _ => rfl
  | n + 1, lo => by simp [rangeD, rangeD_length n]
theorem jok_rng (lo : Int) (n : Nat) : JOk T G0 m0 (rangeD lo n) (Itr lo n) := by
  intro i F G m s H e rr
  refine ⟨fun hi => by rw [rangeD_length] at hi; exact Nat.le_of_eq hi.symm, fun d hd => ?_⟩
  obtain ⟨h1, rfl⟩ := rangeD_get _ _ _ _ hd
  refine ⟨h1, fun x H' y => ?_⟩
  obtain ⟨y1, y2⟩ := y
  subst y1 y2
  exact ⟨G, Ext.refl G m, rr, .int _⟩
theorem zipD_get : ∀ {xs ys : List D} {i : Nat} {d : D}, (zipD xs ys)[i]? = some d → ∃ a b, xs[i]? = some a ∧ ys[i]? = some b ∧ d = .tup [a, b]
  | [], _, _, _, h => by simp [zipD] at h
  | _ :: _, [], _, _, h => by simp [zipD] at h
  | x :: xs, y :: ys, 0, d, h => by
    simp [zipD] at h
    exact ⟨x, y, rfl, rfl, h.symm⟩
  | x :: xs, y :: ys, i + 1, d, h => by
    obtain ⟨a, b, h1, h2, h3⟩ := zipD_get (i := i) (by simpa [zipD] using h)
    exact ⟨a, b, by simpa using h1, by simpa using h2, h3⟩
theorem zipD_length : ∀ xs ys : List D, (zipD xs ys).length = min xs.length ys.length
  | [], _ => by simp [zipD]
  | _ :: _, [] => by simp [zipD]
  | _ :: xs, _ :: ys => by simp [zipD, zipD_length xs ys]
theorem zipD3_get : ∀ {xs ys zs : List D} {i : Nat} {d : D}, (zipD3 xs ys zs)[i]? = some d → ∃ a b c, xs[i]? = some a ∧ ys[i]? = some b ∧ zs[i]? = some c ∧ d = .tup [a, b, c]
  | [], _, _, _, _, h => by simp [zipD3] at h
  | _ :: _, [], _, _, _, h => by simp [zipD3] at h
  | _ :: _, _ :: _, [], _, _, h => by simp [zipD3] at h
  | x :: xs, y :: ys, z :: zs, 0, d, h => by
    simp [zipD3] at h
    exact ⟨x, y, z, rfl, rfl, rfl, h.symm⟩
  | x :: xs, y :: ys, z :: zs, i + 1, d, h => by
    obtain ⟨a, b, c, h1, h2, h3, h4⟩ := zipD3_get (i := i) (by simpa [zipD3] using h)
    exact ⟨a, b, c, by simpa using h1, by simpa using h2, by simpa using h3, h4⟩
theorem zipD3_length : ∀ xs ys zs : List D, (zipD3 xs ys zs).length = min (min xs.length ys.length) zs.length
  | [], _, _ => by simp [zipD3]
  | _ :: _, [], _ => by simp [zipD3]
  | _ :: _, _ :: _, [] => by simp [zipD3]
  | _ :: xs, _ :: ys, _ :: zs => by simp [zipD3, zipD3_length xs ys zs]
theorem enumD_get : ∀ {ds : List D} {k i : Nat} {d : D}, (enumD k ds)[i]? = some d → ∃ a, ds[i]? = some a ∧ d = .tup [.int ((k + i : Nat) : Int), a]
  | [], _, _, _, h => by simp [enumD] at h
  | x :: ds, k, 0, d, h => by
    simp [enumD] at h
    exact ⟨x, rfl, by rw [← h]; simp⟩
  | x :: ds, k, i + 1, d, h => by
    obtain ⟨a, h1, h2⟩ := enumD_get (k := k + 1) (i := i) (by simpa [enumD] using h)
    exact ⟨a, by simpa using h1, by rw [h2]; congr 3; omega⟩
theorem enumD_length : ∀ (ds : List D) (k : Nat), (enumD k ds).length = ds.length
  | [], _ => rfl
  | _ :: ds, k => by simp [enumD, enumD_length ds]
/-- a new tuple that is yielded -/
theorem new_tup {F G H : Hp} {m : Mm} {s : S} {p : Addr} {ds : List D} {vs : List V} (r : R T F G m s H) (hp : H p = none) (rs : Rps T G m ds vs) : ∃ G', Ext G m G' m ∧ R T F G' m s (upd H p (.tup vs)) ∧ Rp T G' m (.tup ds) (.ref p) :=
  ⟨upd G p (.tup vs), Ext.upd (none_of_sub r.gH hp), r.imm hp, .tup (SqT.of upd_same) (rs.mono (Ext.upd (none_of_sub r.gH hp)))⟩
def SqBG (b : Bool) (T : Tb) (G : Hp) (a : Addr) (vs : List V) : Prop := if b = true then G a = some (.lst vs) else SqT T.K G a vs
theorem SqBG.sub {b : Bool} {G H : Hp} {a : Addr} {vs : List V} (k : Sub G H) (h : SqBG b T G a vs) : SqBG b T H a vs := by
  cases b with
  | true => exact k _ _ (show G a = some (.lst vs) from h)
  | false => exact SqT.sub k (show SqT T.K G a vs from h)
theorem SqBG.sq {b : Bool} {H : Hp} {a : Addr} {vs : List V} (h : SqBG b T H a vs) : SqB b T.K H a vs := by
  cases b with
  | true => exact SqL.of (show H a = some (.lst vs) from h)
  | false => exact h
theorem jok_enum {b : Bool} {a : Addr} {ds : List D} {vs : List V} (h : SqBG b T G0 a vs) (r : Rps T G0 m0 ds vs) : JOk T G0 m0 (enumD 0 ds) (ItE T.K b a) := by
  intro i F G m s H e rr
  have hH : SqB b T.K H a vs := ((h.sub e.g).sub rr.gH).sq
  refine ⟨fun hi => ⟨vs, hH, by rw [hi, enumD_length, r.length]⟩, fun d hd => ?_⟩
  obtain ⟨d', hd', rfl⟩ := enumD_get hd
  obtain ⟨v, hv, rv⟩ := r.get hd'
  refine ⟨⟨vs, v, hH, hv⟩, fun x H' y => ?_⟩
  obtain ⟨p, x', rfl, hp, rfl, y2⟩ := y
  have := y2 vs hH
  rw [hv] at this
  cases this
  refine new_tup rr hp (.cons ?_ (.cons (rv.mono e) .nil))
  rw [Nat.zero_add]
  exact .int _
theorem jok_zipL {a b : Addr} {ds es : List D} {vs ws : List V} (h1 : G0 a = some (.lst vs)) (r1 : Rps T G0 m0 ds vs) (h2 : G0 b = some (.lst ws)) (r2 : Rps T G0 m0 es ws) : JOk T G0 m0 (zipD ds es) (Itz T.K a b) := by
  intro i F G m s H e rr
  have hA : SqL T.K H a vs := SqL.of (rr.gH _ _ (e.g _ _ h1))
  have hB : SqL T.K H b ws := SqL.of (rr.gH _ _ (e.g _ _ h2))
  refine ⟨fun hi => ⟨vs, ws, hA, hB, by rw [zipD_length, r1.length, r2.length] at hi; omega⟩, fun d hd => ?_⟩
  obtain ⟨x, y, e1, e2, rfl⟩ := zipD_get hd
  obtain ⟨v, hv, rv⟩ := r1.get e1
  obtain ⟨w, hw, rw'⟩ := r2.get e2
  refine ⟨⟨vs, ws, v, w, hA, hB, hv, hw⟩, fun z H' q => ?_⟩
  obtain ⟨p, x', y', rfl, hp, rfl, q1, q2⟩ := q
  have z1 := q1 vs hA
  have z2 := q2 ws hB
  rw [hv] at z1
  rw [hw] at z2
  cases z1
  cases z2
  exact new_tup rr hp (.cons (rv.mono e) (.cons (rw'.mono e) .nil))
theorem jok_zipT {a b : Addr} {ds es : List D} {vs ws : List V} (h1 : SqT T.K G0 a vs) (r1 : Rps T G0 m0 ds vs) (h2 : SqT T.K G0 b ws) (r2 : Rps T G0 m0 es ws) : JOk T G0 m0 (zipD ds es) (RZ.ItzT T.K a b) := by
  intro i F G m s H e rr
  have hA : SqT T.K H a vs := SqT.sub rr.gH (SqT.sub e.g h1)
  have hB : SqT T.K H b ws := SqT.sub rr.gH (SqT.sub e.g h2)
  refine ⟨fun hi => ⟨vs, ws, hA, hB, by rw [zipD_length, r1.length, r2.length] at hi; omega⟩, fun d hd => ?_⟩
  obtain ⟨x, y, e1, e2, rfl⟩ := zipD_get hd
  obtain ⟨v, hv, rv⟩ := r1.get e1
  obtain ⟨w, hw, rw'⟩ := r2.get e2
  refine ⟨⟨vs, ws, v, w, hA, hB, hv, hw⟩, fun z H' q => ?_⟩
  obtain ⟨p, x', y', rfl, hp, rfl, q1, q2⟩ := q
  have z1 := q1 vs hA
  have z2 := q2 ws hB
  rw [hv] at z1
  rw [hw] at z2
  cases z1
  cases z2
  exact new_tup rr hp (.cons (rv.mono e) (.cons (rw'.mono e) .nil))
theorem jok_zip2 {b1 b2 : Bool} {a1 a2 : Addr} {d1 d2 : List D} {v1 v2 : List V} (h1 : SqBG b1 T G0 a1 v1) (r1 : Rps T G0 m0 d1 v1) (h2 : SqBG b2 T G0 a2 v2) (r2 : Rps T G0 m0 d2 v2) : JOk T G0 m0 (zipD d1 d2) (ItZ2 T.K b1 b2 a1 a2) := by
  intro i F G m s H e rr
  have hA : SqB b1 T.K H a1 v1 := ((h1.sub e.g).sub rr.gH).sq
  have hB : SqB b2 T.K H a2 v2 := ((h2.sub e.g).sub rr.gH).sq
  refine ⟨fun hi => ⟨v1, v2, hA, hB, by rw [zipD_length, r1.length, r2.length] at hi; exact hi⟩, fun d hd => ?_⟩
  obtain ⟨x, y, e1, e2, rfl⟩ := zipD_get hd
  obtain ⟨w1, g1, f1⟩ := r1.get e1
  obtain ⟨w2, g2, f2⟩ := r2.get e2
  refine ⟨⟨v1, v2, w1, w2, hA, hB, g1, g2⟩, fun z H' q => ?_⟩
  obtain ⟨p, x', y', rfl, hp, rfl, q1, q2⟩ := q
  have z1 := q1 _ hA
  have z2 := q2 _ hB
  rw [g1] at z1
  rw [g2] at z2
  cases z1
  cases z2
  exact new_tup rr hp (.cons (f1.mono e) (.cons (f2.mono e) .nil))
theorem jok_zip3 {b1 b2 b3 : Bool} {a1 a2 a3 : Addr} {d1 d2 d3 : List D} {v1 v2 v3 : List V} (h1 : SqBG b1 T G0 a1 v1) (r1 : Rps T G0 m0 d1 v1) (h2 : SqBG b2 T G0 a2 v2) (r2 : Rps T G0 m0 d2 v2) (h3 : SqBG b3 T G0 a3 v3) (r3 : Rps T G0 m0 d3 v3) :
    JOk T G0 m0 (zipD3 d1 d2 d3) (ItZ3 T.K b1 b2 b3 a1 a2 a3) := by
  intro i F G m s H e rr
  have hA : SqB b1 T.K H a1 v1 := ((h1.sub e.g).sub rr.gH).sq
  have hB : SqB b2 T.K H a2 v2 := ((h2.sub e.g).sub rr.gH).sq
  have hC : SqB b3 T.K H a3 v3 := ((h3.sub e.g).sub rr.gH).sq
  refine ⟨fun hi => ⟨v1, v2, v3, hA, hB, hC, by rw [zipD3_length, r1.length, r2.length, r3.length] at hi; exact hi⟩, fun d hd => ?_⟩
  obtain ⟨x, y, u, e1, e2, e3, rfl⟩ := zipD3_get hd
  obtain ⟨w1, g1, f1⟩ := r1.get e1
  obtain ⟨w2, g2, f2⟩ := r2.get e2
  obtain ⟨w3, g3, f3⟩ := r3.get e3
  refine ⟨⟨v1, v2, v3, w1, w2, w3, hA, hB, hC, g1, g2, g3⟩, fun z H' q => ?_⟩
  obtain ⟨p, x', y', u', rfl, hp, rfl, q1, q2, q3⟩ := q
  have z1 := q1 _ hA
  have z2 := q2 _ hB
  have z3 := q3 _ hC
  rw [g1] at z1
  rw [g2] at z2
  rw [g3] at z3
  cases z1
  cases z2
  cases z3
  exact new_tup rr hp (.cons (f1.mono e) (.cons (f2.mono e) (.cons (f3.mono e) .nil)))
theorem jok_keys {d : Addr} {ob : Obj} {ks : List D} {as : List Addr} (h : G0 d = some (.ext fun h => h.get? d = some ob)) (r : Rps T G0 m0 ks (as.map V.ref)) : JOk T G0 m0 ks (ItK d ob as) := by
  intro i F G m s H e rr
  have hH := rr.gH _ _ (e.g _ _ h)
  have hl := r.length
  rw [List.length_map] at hl
  refine ⟨fun hi => ⟨hH, by omega⟩, fun x hx => ?_⟩
  obtain ⟨v, hv, rv⟩ := r.get hx
  rw [List.getElem?_map] at hv
  obtain ⟨a, ha, rfl⟩ := Option.map_eq_some_iff.mp hv
  refine ⟨⟨hH, (List.getElem?_eq_some_iff.mp ha).1⟩, fun z H' q => ?_⟩
  obtain ⟨rfl, a', q1, rfl⟩ := q
  rw [ha] at q1
  cases q1
  exact ⟨G, Ext.refl G m, rr, rv.mono e⟩
end
end Mi
set_option Elab.async false
set_option linter.all false
set_option maxRecDepth 100000
set_option maxHeartbeats 400000
/-! Mi13: readings of sources, targets; list comprehensions. -/
namespace Mi
open PySem PySem.Spec PyProof.Rows L2
/-! ### the frame of others grows -/
section
variable {T : Tb} {F G H : Hp} {m : Mm} {s : S} {p : Addr} {o o' : HO}
theorem R.cells {F' G' H' : Hp} (r : R T F G m s H) (gH : Sub G' H') (fH : Sub F' H') (fG : ∀ a o, F' a = some o → G' a = none) (x : Ext G m G' m) (k : ∀ n c a, s.get n = some c → m n = some a → CellAt T G m H a c → CellAt T G' m H' a c ∧ F' a = none) : R T F' G' m s H' :=
  ⟨gH, fH, fG, fun n c e => by
    obtain ⟨a, e1, e2, e3⟩ := r.cell n c e
    exact ⟨a, e1, (k n c a e e1 e2).1, (k n c a e e1 e2).2⟩, r.inj, r.lt, r.fresh⟩
theorem CellAt.upd {a : Addr} {c : Cl} (h : CellAt T G m H a c) (ha : a ≠ p) : CellAt T G m (L2.upd H p o) a c := by
  cases c with
  | lst fz ds =>
    obtain ⟨vs, h1, h2⟩ := h
    exact ⟨vs, by rw [upd_ne ha]; exact h1, h2⟩
  | dic fz ks vs =>
    obtain ⟨ho, kvs, h1, h2⟩ := h
    exact ⟨ho, kvs, by rw [upd_ne ha]; exact h1, h2⟩
theorem R.fnew (r : R T F G m s H) (hp : H p = none) : R T (upd F p o) G m s (upd H p o) := by
  refine r.cells (r.gH.upd hp) r.fH.upd2 (fun a u e => ?_) (Ext.refl G m) (fun n c a e e1 e2 => ?_)
  · by_cases ha : a = p
    · rw [ha]; exact none_of_sub r.gH hp
    · rw [upd_ne ha] at e; exact r.fG a u e
  · have ha : a ≠ p := fun z => by rw [z] at e2; exact e2.there hp
    obtain ⟨a', q1, _, q3⟩ := r.cell n c e
    rw [e1] at q1
    cases q1
    exact ⟨e2.upd ha, by rw [upd_ne ha]; exact q3⟩
theorem R.fset (r : R T (upd F p o) G m s H) : R T (upd F p o') G m s (upd H p o') := by
  have gp : G p = none := r.fG p o upd_same
  refine r.cells (fun a u e => ?_) (fun a u e => ?_) (fun a u e => ?_) (Ext.refl G m) (fun n c a e e1 e2 => ?_)
  · have ha : a ≠ p := fun z => by rw [z, gp] at e; cases e
    rw [upd_ne ha]
    exact r.gH a u e
  · by_cases ha : a = p
    · rw [ha, upd_same] at e ⊢; exact e
    · rw [upd_ne ha] at e ⊢
      exact r.fH a u (by rw [upd_ne ha]; exact e)
  · by_cases ha : a = p
    · rw [ha]; exact gp
    · rw [upd_ne ha] at e
      exact r.fG a u (by rw [upd_ne ha]; exact e)
  · obtain ⟨a', q1, _, q3⟩ := r.cell n c e
    rw [e1] at q1
    cases q1
    have ha : a ≠ p := fun z => by rw [z, upd_same] at q3; cases q3
    rw [upd_ne ha] at q3
    exact ⟨e2.upd ha, by rw [upd_ne ha]; exact q3⟩
theorem R.fat (r : R T (upd F p o) G m s H) : H p = some o := r.fH p o upd_same
/-- what was others' becomes a thing that changes no more -/
theorem R.own (r : R T (upd F p o) G m s H) (hF : F p = none) : R T F (upd G p o) m s H := by
  have gp : G p = none := r.fG p o upd_same
  have x : Ext G m (upd G p o) m := Ext.upd gp
  refine r.cells (fun a u e => ?_) (fun a u e => ?_) (fun a u e => ?_) x (fun n c a e e1 e2 => ?_)
  · by_cases ha : a = p
    · rw [ha, upd_same] at e; rw [ha, ← e]; exact r.fat
    · rw [upd_ne ha] at e; exact r.gH a u e
  · have ha : a ≠ p := fun z => by rw [z, hF] at e; cases e
    exact r.fH a u (by rw [upd_ne ha]; exact e)
  · have ha : a ≠ p := fun z => by rw [z, hF] at e; cases e
    rw [upd_ne ha]
    exact r.fG a u (by rw [upd_ne ha]; exact e)
  · obtain ⟨a', q1, _, q3⟩ := r.cell n c e
    rw [e1] at q1
    cases q1
    have ha : a ≠ p := fun z => by rw [z, upd_same] at q3; cases q3
    rw [upd_ne ha] at q3
    refine ⟨?_, q3⟩
    cases c with
    | lst fz ds =>
      obtain ⟨vs, h1, h2, h3, h4⟩ := e2
      exact ⟨vs, h1, h2.mono x, fun z => by rw [upd_ne ha]; exact h3 z, fun z => by rw [upd_ne ha]; exact h4 z⟩
    | dic fz ks vs =>
      obtain ⟨ho, kvs, h1, h2, h3, h4, h5, h6, h7⟩ := e2
      exact ⟨ho, kvs, h1, h2, h3.mono x, h4, h5.mono x, fun z => by rw [upd_ne ha]; exact h6 z, fun z => by rw [upd_ne ha]; exact h7 z⟩
/-- .. becomes a cell -/
theorem R.ownX {o : HO} {c0 : Cl} (r : R T (upd F p o) G m s H) (hF : F p = none) (hc : CellAt T G (mAdd m s.nx p) H p c0) : R T F G (mAdd m s.nx p) (s.add c0) H := by
  have gp : G p = none := r.fG p _ upd_same
  have x : Ext G m G (mAdd m s.nx p) := Ext.add (r.fresh _ (Nat.le_refl _))
  have notp : ∀ n c a, s.get n = some c → m n = some a → a ≠ p := fun n c a e e1 z => by
    obtain ⟨a', q1, _, q3⟩ := r.cell n c e
    rw [e1] at q1
    cases q1
    rw [z, upd_same] at q3
    cases q3
  refine ⟨r.gH, fun a u e => ?_, fun a u e => ?_, fun n c e => ?_, fun n k b hnk hn hk e1 e2 => ?_, fun n hn => ?_, fun n hn => ?_⟩
  · have ha : a ≠ p := fun z => by rw [z, hF] at e; cases e
    exact r.fH a u (by rw [upd_ne ha]; exact e)
  · have ha : a ≠ p := fun z => by rw [z, hF] at e; cases e
    exact r.fG a u (by rw [upd_ne ha]; exact e)
  · rw [S.get_add] at e
    by_cases h : n = s.nx
    · rw [if_pos h] at e
      cases e
      exact ⟨p, by unfold mAdd; rw [if_pos h], hc, hF⟩
    · rw [if_neg h] at e
      obtain ⟨b, e1, e2, e3⟩ := r.cell n c e
      have hb := notp n c b e e1
      rw [upd_ne hb] at e3
      refine ⟨b, x.m _ _ e1, ?_, e3⟩
      cases c with
      | lst fz ds =>
        obtain ⟨vs, h1, h2, h3⟩ := e2
        exact ⟨vs, h1, h2.mono x, h3⟩
      | dic fz ks vs =>
        obtain ⟨ho, kvs, h1, h2, h3, h4, h5, h6⟩ := e2
        exact ⟨ho, kvs, h1, h2, h3.mono x, h4, h5.mono x, h6⟩
  · rw [S.get_add] at hn hk
    unfold mAdd at e1 e2
    by_cases h : n = s.nx
    · by_cases h' : k = s.nx
      · exact hnk (h.trans h'.symm)
      · rw [if_pos h] at e1
        rw [if_neg h'] at e2 hk
        obtain ⟨d, hd⟩ := Option.isSome_iff_exists.mp hk
        exact notp k d b hd e2 (Option.some.inj e1).symm
    · by_cases h' : k = s.nx
      · rw [if_neg h] at e1 hn
        rw [if_pos h'] at e2
        obtain ⟨d, hd⟩ := Option.isSome_iff_exists.mp hn
        exact notp n d b hd e1 (Option.some.inj e2).symm
      · rw [if_neg h] at e1 hn
        rw [if_neg h'] at e2 hk
        exact r.inj n k b hnk hn hk e1 e2
  · rw [S.get_add] at hn
    show n < s.nx + 1
    by_cases h : n = s.nx
    · omega
    · rw [if_neg h] at hn
      exact Nat.lt_succ_of_lt (r.lt n hn)
  · have hn' : s.nx + 1 ≤ n := hn
    show (if n = s.nx then some p else m n) = none
    rw [if_neg (by omega)]
    exact r.fresh n (by omega)
theorem R.ownC {vs : List V} {ds : List D} (r : R T (upd F p (.lst vs)) G m s H) (hF : F p = none) (rs : Rps T G m ds vs) : R T F G (mAdd m s.nx p) (s.add (.lst false ds)) H :=
  r.ownX hF ⟨vs, r.fat, rs.mono (Ext.add (r.fresh _ (Nat.le_refl _))), fun z => Bool.noConfusion z, fun _ => r.fG p _ upd_same⟩
end
/-! ### targets -/
def Only (l : List Nat) (σ σ' : L2.St) : Prop := σ'.length = σ.length ∧ ∀ j, j ∉ l → σ'[j]? = σ[j]?
theorem Only.refl (l : List Nat) (σ : L2.St) : Only l σ σ := ⟨rfl, fun _ _ => rfl⟩
theorem Only.trans {l l' k : List Nat} {σ σ1 σ2 : L2.St} (a : Only l σ σ1) (b : Only l' σ1 σ2) (h1 : ∀ i ∈ l, i ∈ k) (h2 : ∀ i ∈ l', i ∈ k) : Only k σ σ2 :=
  ⟨b.1.trans a.1, fun j hj => (b.2 j fun z => hj (h2 j z)).trans (a.2 j fun z => hj (h1 j z))⟩
theorem Only.set (i : Nat) (σ : L2.St) (o : Option V) : Only [i] σ (σ.set i o) := ⟨by simp, fun j hj => by rw [List.getElem?_set_ne (fun z => hj (by simp [z]))]⟩
theorem wipe_get (σ : L2.St) : ∀ (vs : List Nat) (j : Nat), (L2.wipe σ vs)[j]? = if j ∈ vs ∧ j < σ.length then some none else σ[j]?
  | [], j => by simp [L2.wipe]
  | v :: vs, j => by
    unfold L2.wipe
    by_cases hv : v = j
    · subst hv
      by_cases hl : v < σ.length
      · rw [List.getElem?_set_self (by rw [L2.wipe_length]; exact hl), if_pos ⟨by simp, hl⟩]
      · rw [List.getElem?_eq_none (by simp [L2.wipe_length]; omega), if_neg (fun z => hl z.2), List.getElem?_eq_none (by omega)]
    · rw [List.getElem?_set_ne hv, wipe_get σ vs j]
      by_cases h : j ∈ vs ∧ j < σ.length
      · rw [if_pos h, if_pos ⟨List.mem_cons_of_mem _ h.1, h.2⟩]
      · rw [if_neg h, if_neg (fun z => h ⟨by
          rcases List.mem_cons.mp z.1 with q | q
          · exact absurd q.symm hv
          · exact q, z.2⟩)]
theorem Only.wipe {l vs : List Nat} {σ σ' : L2.St} (h : Only l σ σ') (k : ∀ i ∈ l, i ∈ vs) : L2.wipe σ' vs = L2.wipe σ vs := by
  apply List.ext_getElem?
  intro j
  rw [wipe_get, wipe_get, h.1]
  by_cases hj : j ∈ vs ∧ j < σ.length
  · rw [if_pos hj, if_pos hj]
  · rw [if_neg hj, if_neg hj]
    by_cases hv : j ∈ vs
    · have hl : ¬ j < σ.length := fun z => hj ⟨hv, z⟩
      have h1 := h.1
      rw [List.getElem?_eq_none (by omega), List.getElem?_eq_none (by omega)]
    · exact h.2 j fun z => hv (k j z)
theorem wipe_wipe (σ : L2.St) (vs : List Nat) : L2.wipe (L2.wipe σ vs) vs = L2.wipe σ vs :=
  Only.wipe (l := vs) ⟨L2.wipe_length σ vs, fun j hj => by rw [wipe_get, if_neg (fun z => hj z.1)]⟩ fun i h => h
section
variable (T : Tb) (l : List Nat)
/-- what a target's store asks -/
def GOk (σ : L2.St) (F G : Hp) (m : Mm) (r : Res Tau) (Q : L2.St → Hp → Prop) : Prop := match r with
  | .ok τ' s' => ∀ G' m' H' σ', Ext G m G' m' → R T F G' m' s' H' → RpS T G' m' τ' σ' → Only l σ σ' → Q σ' H'
  | _ => False
def gRd (ev : D → Tau → S → Res Tau) : TG := fun v σ H Q => ∃ F G m s τ d, R T F G m s H ∧ RpS T G m τ σ ∧ Rp T G m d v ∧ GOk T l σ F G m (ev d τ s) Q
def gsRd (ev : List D → Tau → S → Res Tau) : TGs := fun vs σ H Q => ∃ F G m s τ ds, R T F G m s H ∧ RpS T G m τ σ ∧ Rps T G m ds vs ∧ GOk T l σ F G m (ev ds τ s) Q
end
abbrev W0 : WX := fun _ _ _ _ => False
/-- a reading of a test -/
abbrev bRd (T : Tb) (W : WX) (ev : Tau → S → Res Bool) : L2.St → Hp → (Bool → Hp → Prop) → Prop := tRd T W (fun _ _ (a b : Bool) => a = b) ev
abbrev iRd (T : Tb) (W : WX) (ev : Tau → S → Res (List D)) : L2.St → Hp → (It → Hp → Prop) → Prop := tRd T W (fun G m ds J => JOk T G m ds J) ev
/-- the end of a list comprehension -/
def finC (mu : Bool) (r : List D) (s : S) : Res D := if mu then .ok (.ref s.nx) (s.add (.lst false r)) else .ok (.lst r) s
theorem Res.bind_ok {α β : Type} {r : Res α} {f : α → S → Res β} {c : β} {s' : S} (h : r.bind f = .ok c s') : ∃ a s1, r = .ok a s1 ∧ f a s1 = .ok c s' := by
  cases r with
  | ok a s1 => exact ⟨a, s1, rfl, h⟩
  | exc _ _ => cases h
  | stuck => cases h
theorem loopC_cons {f : D → S → Res (Option D)} {d : D} {ds r : List D} {s send : S} (h : loopC f (d :: ds) s = .ok r send) : ∃ o s1 r', f d s = .ok o s1 ∧ loopC f ds s1 = .ok r' send ∧ r = (match o with | some x => x :: r' | none => r') := by
  simp only [loopC] at h
  cases e : f d s with
  | exc _ _ => rw [e] at h; cases h
  | stuck => rw [e] at h; cases h
  | ok o s1 =>
    rw [e] at h
    simp only at h
    cases e2 : loopC f ds s1 with
    | exc _ _ => rw [e2] at h; cases h
    | stuck => rw [e2] at h; cases h
    | ok r' s2 =>
      rw [e2] at h
      simp only [Res.ok.injEq] at h
      obtain ⟨h1, rfl⟩ := h
      exact ⟨o, s1, r', rfl, e2, h1.symm⟩
theorem comp_okP {P : S → Prop} {T : Tb} {W : WX} {mu : Bool} {g : TG} {tt : TT} {te : TE} {evg : D → Tau → S → Res Tau} {evt : Tau → S → Res Bool} {eve : Tau → S → Res D} {l own : List Nat} {σ : L2.St} {H1 : Hp} {Q : VK} {F G1 : Hp} {m1 : Mm} {s1 send : S} {τ : Tau} {J : It} {ds rtot : List D}
    (hg : ∀ v σ H Q, gRd T l evg v σ H Q → g v σ H Q) (ht : ∀ σ H Q, bRd T W0 evt σ H Q → tt σ H Q) (he : ∀ σ H Q, tRd T W0 (Rp T) eve σ H Q → te σ H Q) (hl : ∀ i ∈ l, i ∈ own)
    (r1 : R T F G1 m1 s1 H1) (hs : RpS T G1 m1 τ σ) (jo : JOkP P T G1 m1 ds J) (hp1 : P s1) (hpk : ∀ d s o s', P s → ((evg d (wipeT τ own) s).bind fun τ1 s3 => (evt τ1 s3).bind fun b s4 => if b then (eve τ1 s4).bind fun y s5 => .ok (some y) s5 else .ok none s4) = .ok o s' → P s') (hf : fits ds = true)
    (hloop : loopC (fun d s2 => (evg d (wipeT τ own) s2).bind fun τ1 s3 => (evt τ1 s3).bind fun b s4 => if b then (eve τ1 s4).bind fun y s5 => .ok (some y) s5 else .ok none s4) ds s1 = .ok rtot send)
    (hfin : TRg T W (Rp T) σ F G1 m1 (finC mu rtot send) Q) : ∀ D, H1 D = none → ∃ W : Nat → Nat → Hp → Prop, (∃ m, W 0 m (upd H1 D (.lst []))) ∧ ∀ i m H, W i m H →
      (J.stop i H ∧ Q (.ref D) H) ∨ (J.go i H ∧ ∃ Nx : Hp → Prop, (∀ H', Nx H' → ∃ m', m' < m ∧ W (i + 1) m' H') ∧ ∀ x H', J.yld i H x H' → g x (L2.wipe σ own) H' fun σ2 H2 => L2.wipe σ2 own = L2.wipe σ own ∧ tt σ2 H2 fun b H3 =>
        if b = true then te σ2 H3 fun y H4 => ∃ acc, H4 D = some (.lst acc) ∧ acc.length < sizeLine ∧ Nx (upd H4 D (.lst (acc ++ [y]))) else Nx H3) := by
  intro D hD
  have hFD : F D = none := none_of_sub r1.fH hD
  replace hpk : ∀ d s o s', P s → (fun d s2 => (evg d (wipeT τ own) s2).bind fun τ1 s3 => (evt τ1 s3).bind fun b s4 => if b then (eve τ1 s4).bind fun y s5 => .ok (some y) s5 else .ok none s4) d s = .ok o s' → P s' := hpk
  generalize hf' : (fun d s2 => (evg d (wipeT τ own) s2).bind fun τ1 s3 => (evt τ1 s3).bind fun b s4 => if b then (eve τ1 s4).bind fun y s5 => .ok (some y) s5 else .ok none s4) = f at hloop hpk
  -- the state ahead of turn i
  let Pv : Nat → Hp → Prop := fun i H => ∃ G m s acc vs r2, P s ∧ i ≤ ds.length ∧ Ext G1 m1 G m ∧ R T (upd F D (.lst vs)) G m s H ∧ Rps T G m acc vs ∧ acc.length ≤ i ∧ loopC f (ds.drop i) s = .ok r2 send ∧ acc ++ r2 = rtot
  refine ⟨fun i m H => m = ds.length - i ∧ Pv i H, ⟨ds.length, by simp, G1, m1, s1, [], [], rtot, hp1, Nat.zero_le _, Ext.refl _ _, r1.fnew hD, .nil, Nat.zero_le _, by simpa using hloop, rfl⟩, ?_⟩
  rintro i m H ⟨rfl, G, m, s, acc, vs, r2, hps, hi, x, r, ra, hla, hlo, hr⟩
  obtain ⟨stop, go⟩ := jo i _ G m s H hps x r
  by_cases hlt : i < ds.length
  · right
    have hd : ds[i]? = some ds[i] := List.getElem?_eq_getElem hlt
    obtain ⟨g1, g2⟩ := go _ hd
    rw [List.drop_eq_getElem_cons hlt] at hlo
    refine ⟨g1, Pv (i + 1), fun H' p => ⟨ds.length - (i + 1), by omega, rfl, p⟩, fun v H' hy => ?_⟩
    obtain ⟨G', x', r0, rv⟩ := g2 v H' hy
    refine hg _ _ _ _ ⟨_, G', m, s, wipeT τ own, ds[i], r0, ((hs.mono x).mono x').wipe own, rv, ?_⟩
    obtain ⟨o, sd, r', e0, e4, er⟩ := loopC_cons hlo
    have hpd := hpk _ _ _ _ hps e0
    rw [← hf'] at e0
    obtain ⟨τ1, sa, e1, e0⟩ := Res.bind_ok e0
    obtain ⟨b, sb, e2, e0⟩ := Res.bind_ok e0
    rw [e1]
    intro G2 m2 H2 σ2 x2 r2' hs2 ho2
    refine ⟨(ho2.wipe hl).trans (wipe_wipe σ own), ht _ _ _ ⟨_, G2, m2, sa, τ1, r2', hs2, ?_⟩⟩
    rw [e2]
    rintro G3 m3 H3 b' x3 r3 rfl
    cases b with
    | false =>
      simp only [Bool.false_eq_true, if_false, Res.ok.injEq] at e0 ⊢
      obtain ⟨rfl, rfl⟩ := e0
      have xx := ((x'.trans x2).trans x3)
      exact ⟨G3, m3, sb, acc, vs, r', hpd, hlt, x.trans xx, r3, ra.mono xx, by omega, e4, by rw [er] at hr; exact hr⟩
    | true =>
      simp only [if_true] at e0 ⊢
      obtain ⟨y, sc, e3, e0⟩ := Res.bind_ok e0
      simp only [Res.ok.injEq] at e0
      obtain ⟨rfl, rfl⟩ := e0
      refine he _ _ _ ⟨_, G3, m3, sb, τ1, r3, hs2.mono x3, ?_⟩
      rw [e3]
      intro G4 m4 H4 yv x4 r4 ry
      have xx := (((x'.trans x2).trans x3).trans x4)
      have hlen := fits_len hf
      refine ⟨vs, r4.fat, by rw [← ra.length]; omega, G4, m4, sc, acc ++ [y], vs ++ [yv], r', hpd, hlt, x.trans xx, r4.fset, (ra.mono xx).append (.cons ry .nil), by rw [List.length_append, List.length_singleton]; omega, e4, by rw [er] at hr; rw [List.append_assoc]; exact hr⟩
  · left
    have hi' : i = ds.length := by omega
    refine ⟨stop hi', ?_⟩
    rw [hi', List.drop_length] at hlo
    simp only [loopC, Res.ok.injEq] at hlo
    obtain ⟨rfl, rfl⟩ := hlo
    rw [List.append_nil] at hr
    subst hr
    have hfin := TRg.mono x hfin
    cases mu with
    | false =>
      have hfin : TRg T W (Rp T) σ F G m (.ok (.lst acc) s) Q := hfin
      have gp : G D = none := r.fG D _ upd_same
      exact hfin _ m H _ (Ext.upd gp) (r.own hFD) (.lst upd_same (ra.mono (Ext.upd gp)))
    | true =>
      have hfin : TRg T W (Rp T) σ F G m (.ok (.ref s.nx) (s.add (.lst false acc))) Q := hfin
      refine hfin G _ H _ (Ext.add (r.fresh _ (Nat.le_refl _))) (r.ownC hFD ra) (.ref ?_)
      show (if s.nx = s.nx then some D else m s.nx) = some D
      rw [if_pos rfl]
theorem comp_ok {T : Tb} {W : WX} {mu : Bool} {g : TG} {tt : TT} {te : TE} {evg : D → Tau → S → Res Tau} {evt : Tau → S → Res Bool} {eve : Tau → S → Res D} {l own : List Nat} {σ : L2.St} {H1 : Hp} {Q : VK} {F G1 : Hp} {m1 : Mm} {s1 send : S} {τ : Tau} {J : It} {ds rtot : List D}
    (hg : ∀ v σ H Q, gRd T l evg v σ H Q → g v σ H Q) (ht : ∀ σ H Q, bRd T W0 evt σ H Q → tt σ H Q) (he : ∀ σ H Q, tRd T W0 (Rp T) eve σ H Q → te σ H Q) (hl : ∀ i ∈ l, i ∈ own)
    (r1 : R T F G1 m1 s1 H1) (hs : RpS T G1 m1 τ σ) (jo : JOk T G1 m1 ds J) (hf : fits ds = true)
    (hloop : loopC (fun d s2 => (evg d (wipeT τ own) s2).bind fun τ1 s3 => (evt τ1 s3).bind fun b s4 => if b then (eve τ1 s4).bind fun y s5 => .ok (some y) s5 else .ok none s4) ds s1 = .ok rtot send)
    (hfin : TRg T W (Rp T) σ F G1 m1 (finC mu rtot send) Q) : ∀ D, H1 D = none → ∃ W : Nat → Nat → Hp → Prop, (∃ m, W 0 m (upd H1 D (.lst []))) ∧ ∀ i m H, W i m H →
      (J.stop i H ∧ Q (.ref D) H) ∨ (J.go i H ∧ ∃ Nx : Hp → Prop, (∀ H', Nx H' → ∃ m', m' < m ∧ W (i + 1) m' H') ∧ ∀ x H', J.yld i H x H' → g x (L2.wipe σ own) H' fun σ2 H2 => L2.wipe σ2 own = L2.wipe σ own ∧ tt σ2 H2 fun b H3 =>
        if b = true then te σ2 H3 fun y H4 => ∃ acc, H4 D = some (.lst acc) ∧ acc.length < sizeLine ∧ Nx (upd H4 D (.lst (acc ++ [y]))) else Nx H3) :=
  comp_okP (P := fun _ => True) hg ht he hl r1 hs jo.toP trivial (fun _ _ _ _ _ _ => trivial) hf hloop hfin
/-- a value, with the state that it leaves -/
def withS {α : Type} (r : Res α) : Res (α × S) := match r with
  | .ok a s => .ok (a, s) s
  | .exc x s => .exc x s
  | .stuck => .stuck
/-- a source that changes, later on; it holds while the state stays as it is -/
abbrev iRdL (T : Tb) (W : WX) (ev : Tau → S → Res (List D)) : L2.St → Hp → (It → Hp → Prop) → Prop := tRd T W (fun G m (p : List D × S) J => JOkP (fun s => s = p.2) T G m p.1 J) fun τ s => withS (ev τ s)
end Mi
set_option Elab.async false
set_option linter.all false
set_option maxRecDepth 100000
set_option maxHeartbeats 400000
/-! Mi14: the rules of expressions, as readings. -/
namespace Mi
open PySem PySem.Spec PyProof.Rows L2
theorem PE.mono {X : Cx} {e : Expr} {t t' : TE} (h : PE X e t) (k : ∀ σ H Q, t' σ H Q → t σ H Q) : PE X e t' := ⟨fun pins s σ H Q I q => h.run pins s σ H Q I (k σ H Q q)⟩
theorem PT.mono {X : Cx} {e : Expr} {t t' : TT} (h : PT X e t) (k : ∀ σ H Q, t' σ H Q → t σ H Q) : PT X e t' := ⟨fun pins s σ H Q I q => h.run pins s σ H Q I (k σ H Q q)⟩
theorem PW.mono {X : Cx} {e : Expr} {t t' : TT} (h : PW X e t) (k : ∀ σ H Q, t' σ H Q → t σ H Q) : PW X e t' := ⟨fun w pins s σ H Q I q => h.run w pins s σ H Q I (k σ H Q q)⟩
theorem PA.mono {X : Cx} {es : List Expr} {t t' : TA} (h : PA X es t) (k : ∀ σ H Q, t' σ H Q → t σ H Q) : PA X es t' := ⟨fun p pins s σ H Q I q => h.run p pins s σ H Q I (k σ H Q q)⟩
theorem PI.mono {X : Cx} {tg e : Expr} {t t' : TI} (h : PI X tg e t) (k : ∀ σ H Q, t' σ H Q → t σ H Q) : PI X tg e t' := ⟨fun pins s σ H R I q => h.run pins s σ H R I (k σ H R q)⟩
theorem PO.mono {X : Cx} {e : Option Expr} {t t' : TO} (h : PO X e t) (k : ∀ σ H Q, t' σ H Q → t σ H Q) : PO X e t' := ⟨fun pins s σ H Q I q => h.run pins s σ H Q I (k σ H Q q)⟩
abbrev eRd (T : Tb) (W : WX) (ev : Tau → S → Res D) : TE := tRd T W (Rp T) ev
abbrev aRd (T : Tb) (W : WX) (ev : Tau → S → Res (List D)) : TA := tRd T W (Rps T) ev
abbrev oRd (T : Tb) (W : WX) (ev : Tau → S → Res (Option Int)) : TO := tRd T W (fun _ _ (a b : Option Int) => a = b) ev
/-- a value as a test -/
def asB (d : D) (s : S) : Res Bool := match d with
  | .bl b => .ok b s
  | _ => .stuck
section
variable {X : Cx} {fa ca : Nat → Addr} {W : WX} {c : Cc} {a b e : Expr} {pos : Pos} {eva evb evd : Tau → S → Res D}
theorem two_rd {T : Tb} {α β : Type} {Rel : Hp → Mm → α → β → Prop} {k : D → D → S → Res α} {σ : L2.St} {H : Hp} {Q : β → Hp → Prop} {P : V → V → Hp → Prop} (h : tRd T W Rel (fun τ s => (eva τ s).bind fun x s1 => (evb τ s1).bind fun y s2 => k x y s2) σ H Q)
    (fin : ∀ F G m s d e x y H, R T F G m s H → Rp T G m d x → Rp T G m e y → TRg T W Rel σ F G m (k d e s) Q → P x y H) : eRd T W eva σ H fun x H1 => eRd T W evb σ H1 fun y H2 => P x y H2 := by
  obtain ⟨F, G, m, s, τ, r, hs, h⟩ := h
  refine tRd.bind (f := fun x s1 => (evb τ s1).bind fun y s2 => k x y s2) r hs h fun d1 s1 G1 m1 H1 v1 e1 r1 hs1 rv1 h1 => ?_
  exact tRd.bind (f := fun y s2 => k d1 y s2) r1 hs1 h1 fun d2 s2 G2 m2 H2 v2 e2 r2 hs2 rv2 h2 => fin F G2 m2 s2 d1 d2 v1 v2 H2 r2 (rv1.mono e2) rv2 h2
theorem op_binc (o : Bo) : OpR X (binaryOp (opBo o)) (rO (tb X fa ca) W σ₀ (evBinC o)) := by
  have none_ : ∀ {d e : D} {st : S} {T : Tb} {σ : L2.St} {F G : Hp} {m : Mm} {Q : VK}, (∀ ds s1, evBin o d e st ≠ .ok (.lst ds) s1) → TRg T W (Rp T) σ F G m (evBinC o d e st) Q → False := by
    intro d e st T σ F G m Q hn h
    unfold evBinC at h
    split at h
    · rename_i ds s1 hq
      exact hn ds s1 hq
    · exact h
  intro pins s σ H x y v u Q I rx ry h
  obtain ⟨F, G, m, st, d, e, r, rd, re, h⟩ := h
  by_cases hq : ∃ ds s1, evBin o d e st = .ok (.lst ds) s1
  · obtain ⟨ds, s1, hq⟩ := hq
    have hC : TRg (tb X fa ca) W (Rp (tb X fa ca)) σ₀ F G m (.ok (.ref s1.nx) (s1.add (.lst false ds))) Q := by
      unfold evBinC at h
      rw [hq] at h
      exact h
    clear h
    have adds : ∀ {xs ys : List D}, st.items d = some xs → st.items e = some ys → fits (xs ++ ys) = true → ds = xs ++ ys → s1 = st → wpAny (model X.prog X.w) X.A (binaryOp .Add v u) (EP X pins σ Q) X.xe s := by
      intro xs ys q1 q2 hf e1 e2
      subst e1 e2
      obtain ⟨a, vs, rfl, ha, ra⟩ := r.items q1 rd
      obtain ⟨b, ws, rfl, hb, rb⟩ := r.items q2 re
      refine op_cat pins s σ H _ _ v u Q I rx ry ⟨a, b, vs, ws, rfl, rfl, ha, hb, ?_, ?_⟩
      · have := fits_len hf
        rw [List.length_append, ra.length, rb.length] at this
        exact this
      · exact TRg.cell r (ra.append rb) hC
    cases o with
    | add =>
      have go : (match st.items d, st.items e with
          | some xs, some ys => if fits (xs ++ ys) then Res.ok (D.lst (xs ++ ys)) st else Res.stuck
          | _, _ => Res.stuck) = Res.ok (D.lst ds) s1 → wpAny (model X.prog X.w) X.A (binaryOp .Add v u) (EP X pins σ Q) X.xe s := by
        intro hq
        cases q1 : st.items d with
        | none => rw [q1] at hq; cases hq
        | some xs =>
          cases q2 : st.items e with
          | none => rw [q1, q2] at hq; cases hq
          | some ys =>
            rw [q1, q2] at hq
            simp only at hq
            by_cases hf : fits (xs ++ ys) = true
            · rw [if_pos hf] at hq
              cases hq
              exact adds q1 q2 hf rfl rfl
            · rw [if_neg hf] at hq
              cases hq
      cases rd with
      | int i => cases re <;> first | (cases hq; done) | exact go hq
      | @tup a vs zs h1 h2 =>
        cases re with
        | @tup b ws es h3 h4 =>
          exfalso
          simp only [evBin] at hq
          split at hq <;> cases hq
        | _ => first | (cases hq; done) | exact go hq
      | _ => cases re <;> first | (cases hq; done) | exact go hq
    | mul =>
      have go : ∀ k : Int, y = .int k → (match st.items d with
          | some xs => if (-(2 ^ 63) ≤ k ∧ k < 2 ^ 63) ∧ xs.length * k.toNat ≤ sizeLine then Res.ok (D.lst (List.replicate k.toNat xs).flatten) st else Res.stuck
          | none => Res.stuck) = Res.ok (D.lst ds) s1 → wpAny (model X.prog X.w) X.A (binaryOp .Mult v u) (EP X pins σ Q) X.xe s := by
        intro k hk hq
        cases q1 : st.items d with
        | none => rw [q1] at hq; cases hq
        | some xs =>
          rw [q1] at hq
          simp only at hq
          by_cases hf : (-(2 ^ 63) ≤ k ∧ k < 2 ^ 63) ∧ xs.length * k.toNat ≤ sizeLine
          · rw [if_pos hf] at hq
            cases hq
            obtain ⟨a, vs, rfl, ha, ra⟩ := r.items q1 rd
            refine op_rep pins s σ H _ _ v u Q I rx ry ⟨a, k, vs, rfl, hk, ha, hf.1.1, hf.1.2, by rw [← ra.length]; exact hf.2, ?_⟩
            exact TRg.cell r (ra.rep k.toNat) hC
          · rw [if_neg hf] at hq
            cases hq
      cases rd <;> cases re <;> first
        | (cases hq; done)
        | exact go _ rfl hq
        | (exfalso; simp only [evBin] at hq; split at hq <;> cases hq)
    | sub => exfalso; cases rd <;> cases re <;> cases hq
    | fdiv => exfalso; cases rd <;> cases re <;> first | (cases hq; done) | (simp only [evBin] at hq; split at hq <;> cases hq)
    | mod => exfalso; cases rd <;> cases re <;> first | (cases hq; done) | (simp only [evBin] at hq; split at hq <;> cases hq)
    | pow => exfalso; cases rd <;> cases re <;> first | (cases hq; done) | (simp only [evBin] at hq; split at hq <;> cases hq)
  · exact (none_ (fun ds s1 z => hq ⟨ds, s1, z⟩) h).elim
theorem rd_binc (o : Bo) (ha : PE X a (eRd (tb X fa ca) W eva)) (hb : PE X b (eRd (tb X fa ca) W evb)) : PE X (.BinOp a (opBo o) b pos) (eRd (tb X fa ca) W fun τ s => (eva τ s).bind fun x s1 => (evb τ s1).bind fun y s2 => evBinC o x y s2) := by
  refine ⟨fun pins s σ H Q I h => (pe_op (pos := pos) (op_binc (fa := fa) (ca := ca) (W := W) (σ₀ := σ) o) ha hb).run pins s σ H Q I (two_rd h fun F G m s d e x y H r rd re h => ⟨F, G, m, s, d, e, r, rd, re, h⟩)⟩
theorem rd_bin (o : Bo) (ha : PE X a (eRd (tb X fa ca) W eva)) (hb : PE X b (eRd (tb X fa ca) W evb)) : PE X (.BinOp a (opBo o) b pos) (eRd (tb X fa ca) W fun τ s => (eva τ s).bind fun x s1 => (evb τ s1).bind fun y s2 => evBin o x y s2) := by
  refine ⟨fun pins s σ H Q I h => (pe_op (pos := pos) (op_bin (fa := fa) (ca := ca) (W := W) (σ₀ := σ) o) ha hb).run pins s σ H Q I (two_rd h fun F G m s d e x y H r rd re h => ⟨F, G, m, s, d, e, r, rd, re, h⟩)⟩
theorem rd_cmp (hu : X.A.units + 80 < cLine) (o : Co) (ha : PE X a (eRd (tb X fa ca) W eva)) (hb : PE X b (eRd (tb X fa ca) W evb)) (hm : behindInMarks (opCo o) b = false) :
    PE X (.Compare a [opCo o] [b] pos) (eRd (tb X fa ca) W fun τ s => (eva τ s).bind fun x s1 => (evb τ s1).bind fun y s2 => evCmp o x y s2) :=
  ⟨fun pins s σ H Q I h => (pe_cmpR (pos := pos) (op_cmp (fa := fa) (ca := ca) (W := W) (σ₀ := σ) hu o) ha hb hm).run pins s σ H Q I (two_rd h fun F G m s d e x y H r rd re h => ⟨F, G, m, s, d, e, r, rd, re, h⟩)⟩
theorem bl_rp {T : Tb} {G : Hp} {m : Mm} {d : D} {b : Bool} (r : Rp T G m d (.bl b)) : d = .bl b := by cases r; rfl
theorem TRg.asB {T : Tb} {α : Type} {β : Type} {Rel : Hp → Mm → α → β → Prop} {σ : L2.St} {F G H : Hp} {m : Mm} {d : D} {s : S} {f : Bool → S → Res α} {Q : β → Hp → Prop} {v : V} (rv : Rp T G m d v) (h : TRg T W Rel σ F G m ((asB d s).bind f) Q) : ∃ b, v = .bl b ∧ d = .bl b ∧ TRg T W Rel σ F G m (f b s) Q := by
  cases rv with
  | bl b => exact ⟨b, rfl, rfl, h⟩
  | _ => exact (show False from h).elim
/-- a test's reading from the value's -/
theorem test_rd {ev : Tau → S → Res D} {σ : L2.St} {H : Hp} {Q : Bool → Hp → Prop} {T : Tb} (h : bRd T W (fun τ s => (ev τ s).bind asB) σ H Q) : eRd T W ev σ H fun x H' => ∃ k, x = .bl k ∧ Q k H' := by
  obtain ⟨F, G, m, s, τ, r, hs, h⟩ := h
  refine ⟨F, G, m, s, τ, r, hs, TRg.bind h fun d1 s1 G1 m1 H1 v1 e1 r1 rv1 h1 => ?_⟩
  cases rv1 with
  | bl b => exact ⟨b, rfl, TRg.ok (show TRg T W (fun _ _ (a b : Bool) => a = b) σ F G1 m1 (.ok b s1) Q from h1) r1 rfl⟩
  | _ => exact (show False from h1).elim
theorem rt_cmp (hu : X.A.units + 80 < cLine) (o : Co) (ha : PE X a (eRd (tb X fa ca) W eva)) (hb : PE X b (eRd (tb X fa ca) W evb)) (hm : behindInMarks (opCo o) b = false) :
    PT X (.Compare a [opCo o] [b] pos) (bRd (tb X fa ca) W fun τ s => ((eva τ s).bind fun x s1 => (evb τ s1).bind fun y s2 => evCmp o x y s2).bind asB) :=
  ⟨fun pins s σ H Q I h => (pt_cmpR (pos := pos) (op_cmp (fa := fa) (ca := ca) (W := W) (σ₀ := σ) hu o) ha hb hm).run pins s σ H Q I (two_rd (test_rd h) fun F G m s d e x y H r rd re h => ⟨F, G, m, s, d, e, r, rd, re, h⟩)⟩
theorem bind_asB (r : Res D) : r.bind asB = (r.bind asB).bind fun b s => .ok b s := by
  cases r with
  | ok d s => cases d <;> rfl
  | _ => rfl
/-- a test of any plain form, by its value -/
theorem rt_val (ha : PE X a (eRd (tb X fa ca) W eva)) (he : ∀ whole, isTrue a X.env whole = (do let v ← whole; standAt a.pos; holding [v] (truthy v))) : PT X a (bRd (tb X fa ca) W fun τ s => (eva τ s).bind asB) :=
  PT.mono (pt_val ha he) fun σ H Q h => test_rd h
/-! ### not, and, or -/
abbrev evNo (ev : Tau → S → Res D) : Tau → S → Res D := fun τ s => (ev τ s).bind fun x s1 => match x with
    | .bl b => .ok (.bl (!b)) s1
    | _ => .stuck
abbrev evAnd (eva evb : Tau → S → Res D) : Tau → S → Res D := fun τ s => (eva τ s).bind fun x s1 => match x with
    | .bl true => (evb τ s1).bind fun y s2 => match y with
      | .bl r => .ok (.bl r) s2
      | _ => .stuck
    | .bl false => .ok (.bl false) s1
    | _ => .stuck
abbrev evOr (eva evb : Tau → S → Res D) : Tau → S → Res D := fun τ s => (eva τ s).bind fun x s1 => match x with
    | .bl false => (evb τ s1).bind fun y s2 => match y with
      | .bl r => .ok (.bl r) s2
      | _ => .stuck
    | .bl true => .ok (.bl true) s1
    | _ => .stuck
theorem rd_no (ha : PE X a (eRd (tb X fa ca) W eva)) : PE X (.UnaryOp .Not a pos) (eRd (tb X fa ca) W (evNo eva)) := by
  refine PE.mono (pe_not ha) fun σ H Q ⟨F, G, m, s, τ, r, hs, h⟩ => ?_
  exact tRd.bind r hs h fun d1 s1 G1 m1 H1 v1 e1 r1 hs1 rv1 h1 => by
    cases rv1 with
    | bl b => exact ⟨b, rfl, TRg.ok h1 r1 (.bl _)⟩
    | _ => exact (show False from h1).elim
theorem rd_and {rest : List Expr} (ha : PE X a (eRd (tb X fa ca) W eva)) (hb : PE X (.BoolOp .And (b :: rest) pos) (eRd (tb X fa ca) W evb)) : PE X (.BoolOp .And (a :: b :: rest) pos) (eRd (tb X fa ca) W (evAnd eva evb)) := by
  refine PE.mono (pe_and ha hb) fun σ H Q ⟨F, G, m, s, τ, r, hs, h⟩ => ?_
  exact tRd.bind r hs h fun d1 s1 G1 m1 H1 v1 e1 r1 hs1 rv1 h1 => by
    cases rv1 with
    | bl b =>
      cases b with
      | false => exact ⟨false, rfl, TRg.ok h1 r1 (.bl _)⟩
      | true =>
        refine ⟨true, rfl, ?_⟩
        rw [if_pos rfl]
        exact tRd.bind r1 hs1 h1 fun d2 s2 G2 m2 H2 v2 e2 r2 hs2 rv2 h2 => by
          cases rv2 with
          | bl b => exact TRg.ok h2 r2 (.bl _)
          | _ => exact (show False from h2).elim
    | _ => exact (show False from h1).elim
theorem rd_or {rest : List Expr} (ha : PE X a (eRd (tb X fa ca) W eva)) (hb : PE X (.BoolOp .Or (b :: rest) pos) (eRd (tb X fa ca) W evb)) : PE X (.BoolOp .Or (a :: b :: rest) pos) (eRd (tb X fa ca) W (evOr eva evb)) := by
  refine PE.mono (pe_or ha hb) fun σ H Q ⟨F, G, m, s, τ, r, hs, h⟩ => ?_
  exact tRd.bind r hs h fun d1 s1 G1 m1 H1 v1 e1 r1 hs1 rv1 h1 => by
    cases rv1 with
    | bl b =>
      cases b with
      | true => exact ⟨true, rfl, TRg.ok h1 r1 (.bl _)⟩
      | false =>
        refine ⟨false, rfl, ?_⟩
        rw [if_neg Bool.false_ne_true]
        exact tRd.bind r1 hs1 h1 fun d2 s2 G2 m2 H2 v2 e2 r2 hs2 rv2 h2 => by
          cases rv2 with
          | bl b => exact TRg.ok h2 r2 (.bl _)
          | _ => exact (show False from h2).elim
    | _ => exact (show False from h1).elim
/-- a test's reading, by what the value's evaluation is -/
abbrev tbRd (T : Tb) (W : WX) (ev : Tau → S → Res D) : TT := bRd T W fun τ s => (ev τ s).bind asB
theorem rt_no (ha : PT X a (tbRd (tb X fa ca) W eva)) : PT X (.UnaryOp .Not a pos) (tbRd (tb X fa ca) W (evNo eva)) := by
  refine PT.mono (pt_not ha) fun σ H Q ⟨F, G, m, s, τ, r, hs, h⟩ => ⟨F, G, m, s, τ, r, hs, ?_⟩
  have h : TRg (tb X fa ca) W (fun _ _ (a b : Bool) => a = b) σ F G m ((evNo eva τ s).bind asB) Q := h
  cases e : eva τ s with
  | stuck => simp only [evNo, e] at h; exact h.elim
  | exc x s1 => simp only [evNo, e] at h ⊢; exact h
  | ok d s1 =>
    simp only [evNo, e] at h ⊢
    cases d with
    | bl b =>
      have h : TRg (tb X fa ca) W (fun _ _ (a b : Bool) => a = b) σ F G m (.ok (!b) s1) Q := h
      show TRg (tb X fa ca) W (fun _ _ (a b : Bool) => a = b) σ F G m (.ok b s1) _
      rintro G' m' H' b' x r' rfl
      exact h G' m' H' _ x r' rfl
    | _ => exact h.elim
theorem rt_one {op : BoolOp} (h : PT X a (tbRd (tb X fa ca) W eva)) (hop : op = .And ∨ op = .Or) : PW X (.BoolOp op [a] pos) (tbRd (tb X fa ca) W eva) := by
  rcases hop with rfl | rfl
  · exact pw_and1 h
  · exact pw_or1 h
theorem rt_and {rest : List Expr} (ha : PT X a (tbRd (tb X fa ca) W eva)) (hb : PW X (.BoolOp .And (b :: rest) pos) (tbRd (tb X fa ca) W evb)) : PW X (.BoolOp .And (a :: b :: rest) pos) (tbRd (tb X fa ca) W (evAnd eva evb)) := by
  refine PW.mono (pw_and ha hb) fun σ H Q ⟨F, G, m, s, τ, r, hs, h⟩ => ⟨F, G, m, s, τ, r, hs, ?_⟩
  have h : TRg (tb X fa ca) W (fun _ _ (a b : Bool) => a = b) σ F G m ((evAnd eva evb τ s).bind asB) Q := h
  cases e : eva τ s with
  | stuck => simp only [evAnd, e] at h; exact h.elim
  | exc x s1 => simp only [evAnd, e] at h ⊢; exact h
  | ok d s1 =>
    simp only [evAnd, e] at h ⊢
    cases d with
    | bl q =>
      cases q with
      | false =>
        have h : TRg (tb X fa ca) W (fun _ _ (a b : Bool) => a = b) σ F G m (.ok false s1) Q := h
        show TRg (tb X fa ca) W (fun _ _ (a b : Bool) => a = b) σ F G m (.ok false s1) _
        rintro G' m' H' b' x r' rfl
        rw [if_neg Bool.false_ne_true]
        exact h G' m' H' _ x r' rfl
      | true =>
        show TRg (tb X fa ca) W (fun _ _ (a b : Bool) => a = b) σ F G m (.ok true s1) _
        rintro G' m' H' b' x r' rfl
        rw [if_pos rfl]
        refine ⟨F, G', m', s1, τ, r', hs.mono x, TRg.mono x ?_⟩
        have h : TRg (tb X fa ca) W (fun _ _ (a b : Bool) => a = b) σ F G m (((evb τ s1).bind fun y s2 => match y with
          | .bl r => .ok (.bl r) s2
          | _ => .stuck).bind asB) Q := h
        show TRg (tb X fa ca) W (fun _ _ (a b : Bool) => a = b) σ F G m ((evb τ s1).bind asB) Q
        cases e2 : evb τ s1 with
        | stuck => rw [e2] at h; exact h.elim
        | exc y s2 => rw [e2] at h; exact h
        | ok d2 s2 =>
          rw [e2] at h
          cases d2 <;> exact h
    | _ => exact h.elim
theorem rt_or {rest : List Expr} (ha : PT X a (tbRd (tb X fa ca) W eva)) (hb : PW X (.BoolOp .Or (b :: rest) pos) (tbRd (tb X fa ca) W evb)) : PW X (.BoolOp .Or (a :: b :: rest) pos) (tbRd (tb X fa ca) W (evOr eva evb)) := by
  refine PW.mono (pw_or ha hb) fun σ H Q ⟨F, G, m, s, τ, r, hs, h⟩ => ⟨F, G, m, s, τ, r, hs, ?_⟩
  have h : TRg (tb X fa ca) W (fun _ _ (a b : Bool) => a = b) σ F G m ((evOr eva evb τ s).bind asB) Q := h
  cases e : eva τ s with
  | stuck => simp only [evOr, e] at h; exact h.elim
  | exc x s1 => simp only [evOr, e] at h ⊢; exact h
  | ok d s1 =>
    simp only [evOr, e] at h ⊢
    cases d with
    | bl q =>
      cases q with
      | true =>
        have h : TRg (tb X fa ca) W (fun _ _ (a b : Bool) => a = b) σ F G m (.ok true s1) Q := h
        show TRg (tb X fa ca) W (fun _ _ (a b : Bool) => a = b) σ F G m (.ok true s1) _
        rintro G' m' H' b' x r' rfl
        rw [if_pos rfl]
        exact h G' m' H' _ x r' rfl
      | false =>
        show TRg (tb X fa ca) W (fun _ _ (a b : Bool) => a = b) σ F G m (.ok false s1) _
        rintro G' m' H' b' x r' rfl
        rw [if_neg Bool.false_ne_true]
        refine ⟨F, G', m', s1, τ, r', hs.mono x, TRg.mono x ?_⟩
        have h : TRg (tb X fa ca) W (fun _ _ (a b : Bool) => a = b) σ F G m (((evb τ s1).bind fun y s2 => match y with
          | .bl r => .ok (.bl r) s2
          | _ => .stuck).bind asB) Q := h
        show TRg (tb X fa ca) W (fun _ _ (a b : Bool) => a = b) σ F G m ((evb τ s1).bind asB) Q
        cases e2 : evb τ s1 with
        | stuck => rw [e2] at h; exact h.elim
        | exc y s2 => rw [e2] at h; exact h
        | ok d2 s2 =>
          rw [e2] at h
          cases d2 <;> exact h
    | _ => exact h.elim
/-! ### chains -/
abbrev evChain (o p : Co) (eva evb evd : Tau → S → Res D) : Tau → S → Res D := fun τ s => (eva τ s).bind fun x s1 => (evb τ s1).bind fun y s2 => (evCmp o x y s2).bind fun r s3 => match r with
    | .bl true => (evd τ s3).bind fun z s4 => evCmp p y z s4
    | .bl false => .ok (.bl false) s3
    | _ => .stuck
theorem chain_rd (o p : Co) {σ : L2.St} {H : Hp} {Q : VK} (h : eRd (tb X fa ca) W (evChain o p eva evb evd) σ H Q) :
    tChain (rO (tb X fa ca) W σ (evCmp o)) (rO (tb X fa ca) W σ (evCmp p)) (eRd (tb X fa ca) W eva) (eRd (tb X fa ca) W evb) (eRd (tb X fa ca) W evd) σ H Q := by
  obtain ⟨F, G, m, s, τ, r, hs, h⟩ := h
  exact tRd.bind r hs h fun d1 s1 G1 m1 H1 v1 e1 r1 hs1 rv1 h1 => tRd.bind r1 hs1 h1 fun d2 s2 G2 m2 H2 v2 e2 r2 hs2 rv2 h2 => ⟨F, G2, m2, s2, d1, d2, r2, rv1.mono e2, rv2,
    TRg.bind h2 fun d3 s3 G3 m3 H3 v3 e3 r3 rv3 h3 => by
      cases rv3 with
      | bl q =>
        refine ⟨q, rfl, ?_⟩
        cases q with
        | false =>
          rw [if_neg Bool.false_ne_true]
          exact TRg.ok h3 r3 (.bl _)
        | true =>
          rw [if_pos rfl]
          exact tRd.bind r3 (hs2.mono e3) h3 fun d4 s4 G4 m4 H4 v4 e4 r4 hs4 rv4 h4 => ⟨F, G4, m4, s4, d2, d4, r4, (rv2.mono e3).mono e4, rv4, h4⟩
      | _ => exact (show False from h3).elim⟩
theorem rd_chain {d : Expr} (hu : X.A.units + 80 < cLine) (o p : Co) (ha : PE X a (eRd (tb X fa ca) W eva)) (hb : PE X b (eRd (tb X fa ca) W evb)) (hd : PE X d (eRd (tb X fa ca) W evd)) (hm : lastMarks [opCo o, opCo p] [b, d] = false) :
    PE X (.Compare a [opCo o, opCo p] [b, d] pos) (eRd (tb X fa ca) W (evChain o p eva evb evd)) :=
  ⟨fun pins s σ H Q I h => (pe_chain (pos := pos) (op_cmp (fa := fa) (ca := ca) (W := W) (σ₀ := σ) hu o) (op_cmp (fa := fa) (ca := ca) (W := W) (σ₀ := σ) hu p) ha hb hd hm).run pins s σ H Q I (chain_rd o p h)⟩
theorem rt_chain {d : Expr} (hu : X.A.units + 80 < cLine) (o p : Co) (ha : PE X a (eRd (tb X fa ca) W eva)) (hb : PE X b (eRd (tb X fa ca) W evb)) (hd : PE X d (eRd (tb X fa ca) W evd)) (hm : lastMarks [opCo o, opCo p] [b, d] = false) :
    PT X (.Compare a [opCo o, opCo p] [b, d] pos) (tbRd (tb X fa ca) W (evChain o p eva evb evd)) :=
  ⟨fun pins s σ H Q I h => (pt_chain (pos := pos) (op_cmp (fa := fa) (ca := ca) (W := W) (σ₀ := σ) hu o) (op_cmp (fa := fa) (ca := ca) (W := W) (σ₀ := σ) hu p) ha hb hd hm).run pins s σ H Q I (chain_rd o p (test_rd h))⟩
theorem rd_ife {t : Expr} {evt : Tau → S → Res D} (ht : PT X t (tbRd (tb X fa ca) W evt)) (ha : PE X a (eRd (tb X fa ca) W eva)) (hb : PE X b (eRd (tb X fa ca) W evb)) : PE X (.IfExp t a b pos) (eRd (tb X fa ca) W fun τ s => (evt τ s).bind fun x s1 => match x with
    | .bl true => eva τ s1
    | .bl false => evb τ s1
    | _ => .stuck) := by
  refine PE.mono (pe_ifExp ht ha hb) fun σ H Q ⟨F, G, m, s, τ, r, hs, h⟩ => ⟨F, G, m, s, τ, r, hs, ?_⟩
  cases e : evt τ s with
  | stuck => simp only [e] at h; exact h.elim
  | exc x s1 => simp only [e] at h ⊢; exact h
  | ok d s1 =>
    simp only [e] at h ⊢
    cases d with
    | bl q =>
      show TRg (tb X fa ca) W (fun _ _ (a b : Bool) => a = b) σ F G m (.ok q s1) _
      rintro G' m' H' b' x r' rfl
      cases q with
      | true => rw [if_pos rfl]; exact ⟨F, G', m', s1, τ, r', hs.mono x, TRg.mono x h⟩
      | false => rw [if_neg Bool.false_ne_true]; exact ⟨F, G', m', s1, τ, r', hs.mono x, TRg.mono x h⟩
    | _ => exact (show False from h).elim
end
end Mi
set_option Elab.async false
set_option linter.all false
set_option maxRecDepth 100000
set_option maxHeartbeats 400000
/-! Mi15: more rules of expressions; sources. -/
namespace Mi
open PySem PySem.Spec PyProof.Rows L2
def notStar : Expr → Bool
  | .Starred _ _ => false
  | _ => true
theorem star_cons {e : Expr} {es : List Expr} {env : Env} (h : notStar e = true) : starEach (e :: es) env = (false, eval e env) :: starEach es env := by
  cases e <;> first | rfl | (simp [notStar] at h)
def notStars (es : List Expr) : Bool := es.all notStar
theorem plain_all {pos : Pos} {env : Env} : ∀ {es : List Expr}, notStars es = true → (backTo pos (starEach es env)).any (·.1) = false
  | [], _ => rfl
  | e :: es, h => by
    have q := Bool.and_eq_true_iff.mp (show (notStar e && es.all notStar) = true from h)
    rw [star_cons q.1]
    show (false || (backTo pos (starEach es env)).any (·.1)) = false
    rw [Bool.false_or]
    exact plain_all q.2
section
variable {X : Cx} {fa ca : Nat → Addr} {W : WX} {c : Cc} {a b e : Expr} {es : List Expr} {pos p : Pos} {eva evb : Tau → S → Res D} {evs : Tau → S → Res (List D)}
theorem one_rd {T : Tb} {α β : Type} {Rel : Hp → Mm → α → β → Prop} {k : D → S → Res α} {σ : L2.St} {H : Hp} {Q : β → Hp → Prop} {P : V → Hp → Prop} (h : tRd T W Rel (fun τ s => (eva τ s).bind k) σ H Q)
    (fin : ∀ F G m s d x H, R T F G m s H → Rp T G m d x → TRg T W Rel σ F G m (k d s) Q → P x H) : eRd T W eva σ H P := by
  obtain ⟨F, G, m, s, τ, r, hs, h⟩ := h
  exact tRd.bind r hs h fun d1 s1 G1 m1 H1 v1 e1 r1 hs1 rv1 h1 => fin F G1 m1 s1 d1 v1 H1 r1 rv1 h1
theorem many_rd {T : Tb} {α β : Type} {Rel : Hp → Mm → α → β → Prop} {k : List D → S → Res α} {σ : L2.St} {H : Hp} {Q : β → Hp → Prop} {P : List V → Hp → Prop} (h : tRd T W Rel (fun τ s => (evs τ s).bind k) σ H Q)
    (fin : ∀ F G m s ds xs H, R T F G m s H → Rps T G m ds xs → TRg T W Rel σ F G m (k ds s) Q → P xs H) : aRd T W evs σ H P := by
  obtain ⟨F, G, m, s, τ, r, hs, h⟩ := h
  exact tRd.bind r hs h fun d1 s1 G1 m1 H1 v1 e1 r1 hs1 rv1 h1 => fin F G1 m1 s1 d1 v1 H1 r1 rv1 h1
/-! ### names and constants -/
theorem rd_slot {i : Nat} {x : Str} (hN : X.N[i]? = some x) (hv : Vis X.env.scope x) (hd : (x == ("__debug__" : Str)) = false) (hcd : (x == ("__classdict__" : Str)) = false) :
    PE X (.Name x pos) (eRd (tb X fa ca) W fun τ s => match τ[i]? with
      | some (some d) => .ok d s
      | _ => .stuck) := by
  refine PE.mono (pe_var hN hv hd hcd) fun σ H Q ⟨F, G, m, s, τ, r, hs, h⟩ => ?_
  cases e : τ[i]? with
  | none => simp only [e] at h; exact h.elim
  | some o =>
    simp only [e] at h
    cases o with
    | none => exact h.elim
    | some d =>
      obtain ⟨v, e1, e2⟩ := hs.at_ i d e
      exact ⟨v, e1, TRg.ok h r e2⟩
theorem rd_const {v : V} {d : D} (h : PE X e (tC v)) (hr : ∀ G m, Rp (tb X fa ca) G m d v) : PE X e (eRd (tb X fa ca) W fun _ s => .ok d s) :=
  PE.mono h fun σ H Q ⟨F, G, m, s, τ, r, hs, h⟩ => TRg.ok (show TRg (tb X fa ca) W (Rp (tb X fa ca)) σ F G m (.ok d s) Q from h) r (hr G m)
theorem rd_frz (ha : PE X a (eRd (tb X fa ca) W eva)) : PE X a (eRd (tb X fa ca) W fun τ s => (eva τ s).bind evFrz) := by
  refine PE.mono ha fun σ H Q h => one_rd h fun F G m s d x H r rd h => ?_
  have q := frz_ok r rd
  cases e : evFrz d s with
  | stuck => rw [e] at h; exact h.elim
  | exc y s1 => rw [e] at q; exact q.elim
  | ok d1 s1 =>
    rw [e] at q h
    obtain ⟨G1, x1, r1, rd1⟩ := q
    exact h G1 m H x x1 r1 rd1
theorem rd_neg (ha : PE X a (eRd (tb X fa ca) W eva)) : PE X (.UnaryOp .USub a pos) (eRd (tb X fa ca) W fun τ s => (eva τ s).bind fun x s1 => match x with
    | .int i => .ok (.int (-i)) s1
    | _ => .stuck) := by
  refine PE.mono (pe_un un_neg ha) fun σ H Q h => one_rd h fun F G m s d x H r rd h => ?_
  cases rd with
  | int i => exact ⟨i, rfl, TRg.ok (show TRg (tb X fa ca) W (Rp (tb X fa ca)) σ F G m (.ok (.int (-i)) s) Q from h) r (.int _)⟩
  | _ => exact (show False from h).elim
/-! ### lists of expressions -/
theorem ra_nil : PA X [] (aRd (tb X fa ca) W fun _ s => .ok [] s) :=
  PA.mono pa_nil fun σ H Q ⟨F, G, m, s, τ, r, hs, h⟩ => TRg.ok (show TRg (tb X fa ca) W (Rps (tb X fa ca)) σ F G m (.ok [] s) Q from h) r .nil
theorem ra_cons (ha : PE X a (eRd (tb X fa ca) W eva)) (hr : PA X es (aRd (tb X fa ca) W evs)) (hs : notStar a = true) : PA X (a :: es) (aRd (tb X fa ca) W fun τ s => (eva τ s).bind fun d s1 => (evs τ s1).bind fun ds s2 => .ok (d :: ds) s2) := by
  refine PA.mono (pa_cons ha hr (star_cons hs)) fun σ H Q ⟨F, G, m, s, τ, r, hs, h⟩ => ?_
  exact tRd.bind r hs h fun d1 s1 G1 m1 H1 v1 e1 r1 hs1 rv1 h1 => tRd.bind r1 hs1 h1 fun d2 s2 G2 m2 H2 v2 e2 r2 hs2 rv2 h2 => TRg.ok h2 r2 (.cons (rv1.mono e2) rv2)
theorem rd_tup {x1} (h : PA X es (aRd (tb X fa ca) W evs)) : PE X (.Tuple es x1 pos) (eRd (tb X fa ca) W fun τ s => (evs τ s).bind fun ds s1 => if fits ds then .ok (.tup ds) s1 else .stuck) := by
  refine PE.mono (pe_tup h) fun σ H Q h => many_rd h fun F G m s ds xs H r rd h => ?_
  obtain ⟨hf, h⟩ := TRg.ite h
  exact ⟨by rw [← rd.length]; exact fits_len hf, h.new r fun p hp => .tup (SqT.of upd_same) (rd.mono (Ext.upd (none_of_sub r.gH hp)))⟩
theorem rd_lst (h : PA X es (aRd (tb X fa ca) W evs)) : PE X (.List es pos) (eRd (tb X fa ca) W fun τ s => (evs τ s).bind fun ds s1 => if fits ds then .ok (.lst ds) s1 else .stuck) := by
  refine PE.mono (pe_lst h) fun σ H Q h => many_rd h fun F G m s ds xs H r rd h => ?_
  obtain ⟨hf, h⟩ := TRg.ite h
  exact ⟨by rw [← rd.length]; exact fits_len hf, h.new r fun p hp => .lst upd_same (rd.mono (Ext.upd (none_of_sub r.gH hp)))⟩
theorem rd_cell (h : PA X es (aRd (tb X fa ca) W evs)) : PE X (.List es pos) (eRd (tb X fa ca) W fun τ s => (evs τ s).bind fun ds s1 => if fits ds then .ok (.ref s1.nx) (s1.add (.lst false ds)) else .stuck) := by
  refine PE.mono (pe_lst h) fun σ H Q h => many_rd h fun F G m s ds xs H r rd h => ?_
  obtain ⟨hf, h⟩ := TRg.ite h
  exact ⟨by rw [← rd.length]; exact fits_len hf, TRg.cell r rd h⟩
/-! ### subscripts, slices -/
def plainIx : Expr → Bool
  | .Slice _ _ _ _ => false
  | _ => true
theorem plainIx_ok (h : plainIx b = true) : PlainIx b := by
  intro o i
  cases b <;> first | rfl | (simp [plainIx] at h)
theorem rd_ix (hu : X.A.units + 80 < cLine) (ha : PE X a (eRd (tb X fa ca) W eva)) (hb : PE X b (eRd (tb X fa ca) W evb)) (hp : plainIx b = true) : PE X (.Subscript a b pos) (eRd (tb X fa ca) W fun τ s => (eva τ s).bind fun x s1 => (evb τ s1).bind fun y s2 => evIx x y s2) :=
  ⟨fun pins s σ H Q I h => (pe_ix (pos := pos) (ix_all (fa := fa) (ca := ca) (W := W) (σ₀ := σ) hu) ha hb (plainIx_ok hp)).run pins s σ H Q I (two_rd h fun F G m s d e x y H r rd re h => ⟨F, G, m, s, d, e, r, rd, re, h⟩)⟩
theorem ro_no : PO X none (oRd (tb X fa ca) W fun _ s => .ok none s) :=
  PO.mono po_none fun σ H Q ⟨F, G, m, s, τ, r, hs, h⟩ => TRg.ok (show TRg (tb X fa ca) W (fun _ _ (a b : Option Int) => a = b) σ F G m (.ok none s) Q from h) r rfl
theorem ro_so (ha : PE X a (eRd (tb X fa ca) W eva)) : PO X (some a) (oRd (tb X fa ca) W fun τ s => (eva τ s).bind fun d s1 => match d with
    | .int i => .ok (some i) s1
    | _ => .stuck) := by
  refine PO.mono (po_some ha) fun σ H Q h => one_rd h fun F G m s d x H r rd h => ?_
  cases rd with
  | int i => exact ⟨i, rfl, TRg.ok (show TRg (tb X fa ca) W (fun _ _ (a b : Option Int) => a = b) σ F G m (.ok (some i) s) Q from h) r rfl⟩
  | _ => exact (show False from h).elim
theorem rd_sl {lo hi : Option Expr} {p2 : Pos} {evl evh : Tau → S → Res (Option Int)} (ha : PE X a (eRd (tb X fa ca) W eva)) (hl : PO X lo (oRd (tb X fa ca) W evl)) (hh : PO X hi (oRd (tb X fa ca) W evh)) :
    PE X (.Subscript a (.Slice lo hi none p2) pos) (eRd (tb X fa ca) W fun τ s => (eva τ s).bind fun x s1 => (evl τ s1).bind fun l s2 => (evh τ s2).bind fun h s3 => evSl x l h s3) := by
  refine ⟨fun pins s σ H Q I h => (pe_slice (pos := pos) (sl_all (fa := fa) (ca := ca) (W := W) (σ₀ := σ)) ha hl hh).run pins s σ H Q I ?_⟩
  obtain ⟨F, G, m, s, τ, r, hs, h⟩ := h
  refine tRd.bind r hs h fun d1 s1 G1 m1 H1 v1 e1 r1 hs1 rv1 h1 => ?_
  refine tRd.bind r1 hs1 h1 fun d2 s2 G2 m2 H2 v2 e2 r2 hs2 rv2 h2 => ?_
  subst rv2
  refine tRd.bind r2 hs2 h2 fun d3 s3 G3 m3 H3 v3 e3 r3 hs3 rv3 h3 => ?_
  subst rv3
  exact ⟨F, G3, m3, s3, d1, r3, (rv1.mono e2).mono e3, h3⟩
theorem rd_rev {k : Nat} {p1 p2 p3 : Pos} (ha : PE X a (eRd (tb X fa ca) W eva)) : PE X (.Subscript a (.Slice none none (some (.UnaryOp .USub (.Constant (.int 1) k p1) p2)) p3) pos) (eRd (tb X fa ca) W fun τ s => (eva τ s).bind evRev) :=
  PE.mono (pe_revL ha) fun σ H Q h => one_rd h fun F G m s d x H r rd h => rev_ok r rd h
/-! ### built-ins -/
theorem rd_bi {id : String} {x : Str} {ev : List D → S → Res D} (hc : ∀ σ₀, CallR X (.builtin id) (rC (tb X fa ca) W σ₀ ev)) (hg : Gl X x) (hm : X.mg x = none) (hv : bootBuiltins x = some (.builtin id)) (hn : x ≠ "__name__") (hdb : (x == ("__debug__" : Str)) = false)
    (ha : PA X (a :: es) (aRd (tb X fa ca) W evs)) (hst : notStars (a :: es) = true) : PE X (.Call (.Name x p) (a :: es) [] pos) (eRd (tb X fa ca) W fun τ s => (evs τ s).bind ev) := by
  have q := Bool.and_eq_true_iff.mp (show (notStar a && es.all notStar) = true from hst)
  exact ⟨fun pins s σ H Q I h => (pe_callB (p := p) (pos := pos) (hc σ) hg hm hv ha hn hdb (star_cons q.1) (plain_all q.2)).run pins s σ H Q I (many_rd h fun F G m s ds xs H r rd h => ⟨F, G, m, s, ds, r, rd, h⟩)⟩
theorem rd_biT {T : String} {x : Str} {ev : List D → S → Res D} (hc : ∀ σ₀, CallR X (.type T) (rC (tb X fa ca) W σ₀ ev)) (hg : Gl X x) (hm : X.mg x = none) (hv : bootBuiltins x = some (.type T)) (hn : x ≠ "__name__") (hdb : (x == ("__debug__" : Str)) = false)
    (ha : PA X (a :: es) (aRd (tb X fa ca) W evs)) (hst : notStars (a :: es) = true) : PE X (.Call (.Name x p) (a :: es) [] pos) (eRd (tb X fa ca) W fun τ s => (evs τ s).bind ev) := by
  have q := Bool.and_eq_true_iff.mp (show (notStar a && es.all notStar) = true from hst)
  exact ⟨fun pins s σ H Q I h => (pe_callTy (p := p) (pos := pos) (hc σ) hg hm hv ha hn hdb (star_cons q.1) (plain_all q.2)).run pins s σ H Q I (many_rd h fun F G m s ds xs H r rd h => ⟨F, G, m, s, ds, r, rd, h⟩)⟩
/-- the class that is handed to isinstance -/
def TyArg (H : Hp) (ts : List Ty) (v : V) : Prop := (∃ t, ts = [t] ∧ v = .ty t.nm) ∨ ∃ tp, v = .ref tp ∧ H tp = some (.tup (ts.map fun t => .ty t.nm))
def rIs (T : Tb) : List V → Hp → VK → Prop := fun xs H Q => ∃ F G m s d x v t ts, xs = [x, v] ∧ R T F G m s H ∧ Rp T G m d x ∧ s.tyOf d = some t ∧ TyArg H ts v ∧ Q (.bl (ts.any fun u => t.isa u)) H
theorem tys_vals : ∀ {ts : List Ty} {its : List Value}, Vals (ts.map fun t => V.ty t.nm) its → its = ts.map fun t => Value.type t.nm
  | [], _, .nil => rfl
  | t :: ts, _, .cons z1 z2 => by
    rw [tys_vals (ts := ts) z2, show _ = Value.type t.nm from z1]
    rfl
theorem call_is : CallR X (.builtin "isinstance") (rIs (tb X fa ca)) := by
  intro pins s σ H xs us Q I rv h
  obtain ⟨F, G, m, st, d, x, v, t, ts, rfl, r, rd, ht, ha, q⟩ := h
  obtain ⟨u1, u2, rfl, r1, r2⟩ := vals2 rv
  obtain ⟨P, Z, pp, hx⟩ := ty_kit I r rd r1 ht
  rcases ha with ⟨t1, rfl, rfl⟩ | ⟨tp, rfl, hT⟩
  · have e2 : u2 = .type t1.nm := r2
    subst e2
    refine PySem.W.kia_one Z I.kIn pp (kit_isa t t1) hx fun tk => ⟨.bl _, H, I.tok tk, rfl, ?_⟩
    simpa using q
  · cases (show u2 = Value.ref tp from r2)
    obtain ⟨_, its, rvs, o, h1, h2, n, h3⟩ := I.hok tp _ hT
    have e3 : its = ts.map fun t => .type t.nm := tys_vals rvs
    subst e3
    obtain ⟨oc, od, dt, sl⟩ := o
    simp only at h2 h3
    subst h2 h3
    exact PySem.W.kia_tup Z I.kIn pp h1 (kit_isas t ts) hx fun tk => ⟨.bl _, H, I.tok tk, rfl, q⟩
/-- a built-in type's name as a value -/
def tyName (t : Ty) : Str := match t with
  | .non => "NoneType"
  | .bl => "bool"
  | .int => "int"
  | .str => "str"
  | .tup => "tuple"
  | .lst => "list"
  | .dic => "dict"
theorem rd_isi1 {t : Ty} {x : Str} {p2 : Pos} (ha : PE X a (eRd (tb X fa ca) W eva)) (hst : notStar a = true) (hg : Gl X "isinstance") (hm : X.mg "isinstance" = none) (hgt : Gl X x) (hmt : X.mg x = none) (hv : bootBuiltins x = some (.type t.nm)) (hn : x ≠ "__name__") (hdb : (x == ("__debug__" : Str)) = false) :
    PE X (.Call (.Name "isinstance" p) [a, .Name x p2] [] pos) (eRd (tb X fa ca) W fun τ s => (eva τ s).bind fun x s1 => match s1.tyOf x with
      | some t' => .ok (.bl ([t].any fun u => t'.isa u)) s1
      | none => .stuck) := by
  have hpa : PA X [a, .Name x p2] (tCons (eRd (tb X fa ca) W eva) (tCons (tC (.ty t.nm)) tNil)) := pa_cons ha (pa_cons (pe_bltn hgt hmt hv rfl hn hdb) pa_nil) (star_cons hst)
  refine PE.mono (pe_callB (p := p) (pos := pos) (call_is (fa := fa) (ca := ca)) hg hm rfl hpa (by decide) (by decide) (star_cons hst) rfl) fun σ H Q h => one_rd h fun F G m s d x H r rd h => ?_
  cases e : s.tyOf d with
  | none => simp only [e] at h; exact h.elim
  | some t' =>
    simp only [e] at h
    exact ⟨F, G, m, s, d, x, _, t', [t], rfl, r, rd, e, .inl ⟨t, rfl, rfl⟩, TRg.ok h r (.bl _)⟩
/-- the names of built-in types, in a row -/
def tyNames (mgn : Str → Bool) (sc : Scope) : List Ty → List Expr → Bool
  | [], [] => true
  | t :: ts, .Name x _ :: es => decide (x = tyName t) && decide (t ≠ .non) && mgn x && decide (sc.names.lookup x = some .globalImplicit) && tyNames mgn sc ts es
  | _, _ => false
theorem tyName_ok {t : Ty} (h : t ≠ .non) : bootBuiltins (tyName t) = some (.type t.nm) ∧ tyName t ≠ "__name__" ∧ (tyName t == ("__debug__" : Str)) = false := by
  cases t <;> first | exact absurd rfl h | exact ⟨rfl, by decide, by decide⟩
theorem pa_tys {mgn : Str → Bool} (hmg : ∀ x, mgn x = true → X.mg x = none) : ∀ {ts : List Ty} {es : List Expr}, tyNames mgn X.env.scope ts es = true → PA X es (fun σ H Q => Q (ts.map fun t => .ty t.nm) H)
  | [], [], _ => pa_nil
  | [], _ :: _, h => by simp [tyNames] at h
  | _ :: _, [], h => by simp [tyNames] at h
  | t :: ts, e :: es, h => by
    cases e with
    | Name x p =>
      simp only [tyNames, Bool.and_eq_true, decide_eq_true_eq] at h
      obtain ⟨⟨⟨⟨rfl, h2⟩, h3⟩, h4⟩, h5⟩ := h
      obtain ⟨q1, q2, q3⟩ := tyName_ok h2
      exact PA.mono (pa_cons (pe_bltn (v := .ty t.nm) h4 (hmg _ h3) q1 rfl q2 q3) (pa_tys hmg h5)) fun σ H Q h => h
    | _ => simp [tyNames] at h
theorem rd_isiT {mgn : Str → Bool} {ts : List Ty} {x1 : Nat} {p2 : Pos} (ha : PE X a (eRd (tb X fa ca) W eva)) (hst : notStar a = true) (hg : Gl X "isinstance") (hm : X.mg "isinstance" = none) (hmg : ∀ x, mgn x = true → X.mg x = none) (ht : tyNames mgn X.env.scope ts es = true) (hl : ts.length < 10) :
    PE X (.Call (.Name "isinstance" p) [a, .Tuple es x1 p2] [] pos) (eRd (tb X fa ca) W fun τ s => (eva τ s).bind fun x s1 => match s1.tyOf x with
      | some t' => .ok (.bl (ts.any fun u => t'.isa u)) s1
      | none => .stuck) := by
  have hpa := pa_cons ha (pa_cons (pe_tup (x1 := x1) (pos := p2) (pa_tys hmg ht)) pa_nil) (star_cons hst)
  refine PE.mono (pe_callB (p := p) (pos := pos) (call_is (fa := fa) (ca := ca)) hg hm rfl hpa (by decide) (by decide) (star_cons hst) rfl) fun σ H Q h => one_rd h fun F G m s d x H r rd h => ?_
  refine ⟨by rw [List.length_map, sizeLine_eq]; omega, fun p hp => ?_⟩
  cases e : s.tyOf d with
  | none => simp only [e] at h; exact h.elim
  | some t' =>
    simp only [e] at h
    have x1 : Ext G m (upd G p (.tup (ts.map fun t => V.ty t.nm))) m := Ext.upd (none_of_sub r.gH hp)
    exact ⟨F, _, m, s, d, x, _, t', ts, rfl, r.imm hp, rd.mono x1, e, .inr ⟨p, rfl, upd_same⟩, h _ m _ _ x1 (r.imm hp) (.bl _)⟩
end
end Mi
set_option Elab.async false
set_option linter.all false
set_option maxRecDepth 100000
set_option maxHeartbeats 400000
/-! Mi16: methods; sources of loops and comprehensions. -/
namespace Mi
open PySem PySem.Spec PyProof.Rows L2
section
variable {X : Cx} {fa ca : Nat → Addr} {W : WX} {c : Cc} {a b e tg : Expr} {es : List Expr} {pos p : Pos} {eva evb evd : Tau → S → Res D} {evs : Tau → S → Res (List D)}
def nameM : Mt → Str
  | .append => "append"
  | .extend => "extend"
  | .index => "index"
  | .get => "get"
def notCall : Expr → Bool
  | .Call _ _ _ _ => false
  | _ => true
theorem base_of {o : Expr} {nm : Str} {env : Env} {w : Sem Value} (h : notCall o = true) : attributeBase o nm env w = w := by
  cases o <;> first | rfl | cases h
theorem rd_mt {o : Expr} {apos : Pos} (hb : notCall o = true) (hu : X.A.units + 80 < cLine) (mt : Mt) (hmt : mt ≠ .get) (ho : PE X o (eRd (tb X fa ca) W eva)) (hline : (apos.endLine == pos.line) = true) (ha : PA X [a] (aRd (tb X fa ca) W evs)) (hst : notStar a = true) :
    PE X (.Call (.Attribute o (nameM mt) apos) [a] [] pos) (eRd (tb X fa ca) W fun τ s => (eva τ s).bind fun x s1 => if (s1.items x).isSome then (evs τ s1).bind fun ds s2 => evMt mt x ds s2 else .stuck) := by
  have hfew : ((backTo pos (starEach [a] X.env)).all (fun x => !x.1) && (backToKw pos (keywordEach [] X.env)).all (fun x => x.1.isSome) && decide ([a].length + ([] : List Keyword).length + (if ([] : List Keyword).isEmpty then 0 else 1) < 30)) = true := by
    rw [star_cons hst]
    rfl
  have core : ∀ {t : TE} {σ : L2.St} {H : Hp} {Q : VK}, eRd (tb X fa ca) W (fun τ s => (eva τ s).bind fun x s1 => if (s1.items x).isSome then (evs τ s1).bind fun ds s2 => evMt mt x ds s2 else .stuck) σ H Q →
      tBM X.K "list" (rM (tb X fa ca) W σ (evMt mt)) (eRd (tb X fa ca) W eva) (aRd (tb X fa ca) W evs) σ H Q := by
    intro t σ H Q ⟨F, G, m, s, τ, r, hs, h⟩
    refine tRd.bind r hs h fun d1 s1 G1 m1 H1 v1 e1 r1 hs1 rv1 h1 => ?_
    obtain ⟨hi, h1⟩ := TRg.ite h1
    obtain ⟨ds, hds⟩ := Option.isSome_iff_exists.mp hi
    obtain ⟨q, vs, rfl, hH, _⟩ := r1.items hds rv1
    exact ⟨.inl ⟨rfl, vs, SqL.of hH⟩, tRd.bind r1 hs1 h1 fun d2 s2 G2 m2 H2 v2 e2 r2 hs2 rv2 h2 => ⟨F, G2, m2, s2, d1, d2, r2, rv1.mono e2, rv2, h2⟩⟩
  cases mt with
  | append => exact ⟨fun pins s σ H Q I h => (pe_bm (apos := apos) (cpos := pos) PySem.F.plainAttrs_list PySem.F.slot_list_append PySem.F.type_list_append (mt_all (fa := fa) (ca := ca) (W := W) (σ₀ := σ) hu .append) ho ha (base_of hb) hfew hline (star_cons hst) rfl).run pins s σ H Q I (core (t := fun _ _ _ => True) h)⟩
  | extend => exact ⟨fun pins s σ H Q I h => (pe_bm (apos := apos) (cpos := pos) PySem.F.plainAttrs_list PySem.F.slot_list_extend PySem.F.type_list_extend (mt_all (fa := fa) (ca := ca) (W := W) (σ₀ := σ) hu .extend) ho ha (base_of hb) hfew hline (star_cons hst) rfl).run pins s σ H Q I (core (t := fun _ _ _ => True) h)⟩
  | index => exact ⟨fun pins s σ H Q I h => (pe_bm (apos := apos) (cpos := pos) PySem.F.plainAttrs_list PySem.F.slot_list_index PySem.F.type_list_index (mt_all (fa := fa) (ca := ca) (W := W) (σ₀ := σ) hu .index) ho ha (base_of hb) hfew hline (star_cons hst) rfl).run pins s σ H Q I (core (t := fun _ _ _ => True) h)⟩
  | get => exact absurd rfl hmt

theorem dic_at {T : Tb} {F G H : Hp} {m : Mm} {st : S} {x : Mi.D} {v : V} {ks vs : List Mi.D} (r : R T F G m st H) (rd : Rp T G m x v) (h : dicOf x st = some (ks, vs)) :
    ∃ a ho kvs, v = .ref a ∧ H a = some ho ∧ DicV T a kvs ho ∧ Rps T G m ks (kvs.map fun p => V.ref p.2.1) ∧ ks.map Mi.keyT = kvs.map (fun p => some p.1) ∧ Rps T G m vs (kvs.map fun p => p.2.2) := by
  cases rd with
  | @dic a ho kvs ks' vs' h1 h2 h3 h4 h5 =>
    have h : some (ks', vs') = some (ks, vs) := h
    cases h
    exact ⟨a, ho, kvs, rfl, r.gH _ _ h1, h2, h3, h4, h5⟩
  | @ref n a em =>
    simp only [dicOf] at h
    cases q : st.get n with
    | none => rw [q] at h; cases h
    | some c =>
      rw [q] at h
      cases c with
      | lst _ _ => cases h
      | dic fz ks' vs' =>
        cases h
        obtain ⟨a', e1, e2, _⟩ := r.cell n _ q
        rw [em] at e1
        cases e1
        obtain ⟨ho, kvs, h1, h2, h3, h4, h5, _⟩ := e2
        exact ⟨a, ho, kvs, rfl, h1, h2, h3, h4, h5⟩
  | _ => cases h
theorem rd_dget {o : Expr} {apos : Pos} (hb : notCall o = true) (hu : X.A.units + 80 < cLine) (ho : PE X o (eRd (tb X fa ca) W eva)) (hline : (apos.endLine == pos.line) = true) (ha : PE X a (eRd (tb X fa ca) W evb)) (hst : notStar a = true) :
    PE X (.Call (.Attribute o "get" apos) [a] [] pos) (eRd (tb X fa ca) W fun τ s => (eva τ s).bind fun x s1 => if (dicOf x s1).isSome then (evb τ s1).bind fun y s2 => evDget x y s2 else .stuck) := by
  have hfew : ((backTo pos (starEach [a] X.env)).all (fun x => !x.1) && (backToKw pos (keywordEach [] X.env)).all (fun x => x.1.isSome) && decide ([a].length + ([] : List Keyword).length + (if ([] : List Keyword).isEmpty then 0 else 1) < 30)) = true := by
    rw [star_cons hst]
    rfl
  refine ⟨fun pins s σ H Q I ⟨F, G, m, st, τ, r, hs, h⟩ => ?_⟩
  have hev := ho.run pins s σ H (fun x H1 => ∃ G1 m1 s1 d1, R (tb X fa ca) F G1 m1 s1 H1 ∧ RpS (tb X fa ca) G1 m1 τ σ ∧ Rp (tb X fa ca) G1 m1 d1 x ∧ TRg (tb X fa ca) W (Rp (tb X fa ca)) σ F G1 m1 (if (dicOf d1 s1).isSome then (evb τ s1).bind fun y s2 => evDget d1 y s2 else .stuck) Q) I (tRd.bind r hs h fun d1 s1 G1 m1 H1 v1 e1 r1 hs1 rv1 h1 => ⟨G1, m1, s1, d1, r1, hs1, rv1, h1⟩)
  refine wpAny_Call_method_late (base_of hb) hfew hline rfl (thn hev fun v s1 ⟨x, H1, I1, rx, G1, m1, st1, d1, r1, hs1, rv1, h1⟩ => ?_)
  obtain ⟨hi, h1⟩ := TRg.ite h1
  obtain ⟨⟨ks, vs⟩, hds⟩ := Option.isSome_iff_exists.mp hi
  obtain ⟨q, hob, kvs, rfl, hH, hd, hk, he, hv⟩ := dic_at r1 rv1 hds
  cases rx
  obtain ⟨xs, dd, pp, hsm, _⟩ := DicV.dictOf I1 r1 hH hd hk he
  refine ⟨"dict", "dict.get", PySem.F.plainAttrs_dict, PySem.F.slot_dict_get, PySem.F.type_dict_get, dd.typeIs, fun b z => ?_, ?_⟩
  · cases z
    obtain ⟨ob, _, _, g1, g2, _⟩ := dd
    exact ⟨ob, g1, g2.2.1⟩
  · have hA := ha.run pins s1 σ H1 (fun y H2 => ∃ G2 m2 s2 d2, Ext G1 m1 G2 m2 ∧ R (tb X fa ca) F G2 m2 s2 H2 ∧ Rp (tb X fa ca) G2 m2 d2 y ∧ TRg (tb X fa ca) W (Rp (tb X fa ca)) σ F G2 m2 (evDget d1 d2 s2) Q) I1 (tRd.bind r1 hs1 h1 fun d2 s2 G2 m2 H2 v2 e2 r2 hs2 rv2 h2 => ⟨G2, m2, s2, d2, e2, r2, rv2, h2⟩)
    rw [star_cons hst]
    refine Calls.callWith_builtin rfl (Calls.evalArgs_plain (Calls.spliced_cons (thn hA fun iv s2 ⟨y, H2, I2, ry, G2, m2, st2, d2, e2, r2, rv2, h2⟩ => Calls.spliced_nil ?_)))
    unfold evDget at h2
    cases q1 : dicOf d1 st2 with
    | none => rw [q1] at h2; exact h2.elim
    | some p =>
      obtain ⟨ks2, vs2⟩ := p
      rw [q1] at h2
      cases q2 : Mi.keyT d2 with
      | none => rw [q2] at h2; exact h2.elim
      | some k =>
        rw [q2] at h2
        simp only at h2
        obtain ⟨q', hob', kvs', e9, hH', hd', hk', he', hv'⟩ := dic_at r2 (rv1.mono e2) q1
        cases e9
        obtain ⟨xs', dd', pp', hsm', _⟩ := DicV.dictOf I2 r2 hH' hd' hk' he'
        obtain ⟨xa, rfl, isk⟩ := Rp.keyT I2 r2 rv2 q2
        cases ry
        obtain ⟨g1, g2⟩ := dget_at (T := tb X fa ca) (G := G2) (m := m2) k he' hv' pp'
        refine call_meetsIn PySem.F.slot_dict_get dd'.typeIs PySem.F.entry_dict_get (PySem.F.args_dict_get_2 _ _) (meetsH_dict_get (nestedKind X.prog X.w) q xa hsm') ⟨show X.A.in1.units + 8 < cLine from by show X.A.units + 1 + 8 < cLine; omega, k, xs', isk, dd', ?_⟩
        cases q3 : dget k ks2 vs2 with
        | none =>
          rw [q3] at h2
          rw [g2 q3]
          exact ⟨.non, H2, I2.tok _, rfl, TRg.ok h2 r2 .non⟩
        | some z =>
          rw [q3] at h2
          obtain ⟨bb, u', v', e5, e6, e7⟩ := g1 z q3
          rw [e5]
          exact ⟨v', H2, I2.tok _, e6, TRg.ok h2 r2 e7⟩
/-! ### sources -/
theorem walk_pi {pins : List (Addr × Obj)} {σ : L2.St} {F G H : Hp} {m : Mm} {s : Shared} {st : S} {d : D} {v : V} {u : Value} {Rr : It → Hp → Prop} (I : Inv X pins σ H s) (r : R (tb X fa ca) F G m st H) (rd : Rp (tb X fa ca) G m d v) (ru : RelV v u)
    (h : TRg (tb X fa ca) W (fun G m ds J => JOk (tb X fa ca) G m ds J) σ F G m (match st.walk d with | some ds => .ok ds st | none => .stuck) Rr) : wpAny (model X.prog X.w) X.A (pyIter u) (PIE X pins σ tg Rr) X.xe s := by
  have lists : ∀ (q : Addr) (ds : List D) (vs : List V), v = .ref q → G q = some (.lst vs) → Rps (tb X fa ca) G m ds vs → TRg (tb X fa ca) W (fun G m ds J => JOk (tb X fa ca) G m ds J) σ F G m (.ok ds st) Rr → wpAny (model X.prog X.w) X.A (pyIter u) (PIE X pins σ tg Rr) X.xe s := by
    intro q ds vs ev hG hr h
    subst ev
    cases ru
    obtain ⟨its, rv, pl, hz⟩ := I.list (SqL.of (K := X.K) (r.gH _ _ hG))
    exact wpAny_pyIter_list pl.isList (pi_one (tk := s.toks) I _ (turn_list q _) ⟨_, Heap.get?_push_size _ rfl, rfl, rfl⟩ (TRg.ok h r (jok_list hG hr)))
  cases rd with
  | @lst q vs ds h1 h2 => exact lists q ds vs rfl h1 h2 h
  | @tup q vs ds h1 h2 =>
    cases ru
    have h : TRg (tb X fa ca) W (fun G m ds J => JOk (tb X fa ca) G m ds J) σ F G m (.ok ds st) Rr := h
    obtain ⟨its, rv, pl, hz⟩ := I.tuple (SqT.sub r.gH h1)
    exact wpAny_pyIter_tuple (show s.heap.IsTuple q its.toArray from pl) (pi_one (tk := s.toks) I _ (turn_tuple q _) ⟨_, Heap.get?_push_size _ rfl, rfl, rfl⟩ (TRg.ok h r (jok_tup h1 h2)))
  | @dic q ho kvs ks vs h1 h2 h3 h4 h5 =>
    cases ru
    have h : TRg (tb X fa ca) W (fun G m ds J => JOk (tb X fa ca) G m ds J) σ F G m (.ok ks st) Rr := h
    obtain ⟨ob, es, ep, xs, rfl, g1, g2, g3, g4, g5, g6, g7⟩ := h2
    obtain ⟨hg, _, _⟩ := I.hok q _ (r.gH _ _ h1)
    have hes : es.toList.map (·.key) = (kvs.map (fun p => p.2.1)).map Value.ref := by
      rw [g3, List.map_map, List.map_map]
      clear h1 h3 h4 h5 g3 g4 g6 h
      induction g7 with
      | nil => rfl
      | cons z t ih => rw [List.map_cons, List.map_cons, ih]; congr 1; exact congrArg Value.ref z.2.1.symm
    have hk : Rps (tb X fa ca) G m ks ((kvs.map (fun p => p.2.1)).map V.ref) := by
      rw [List.map_map]
      exact h3
    refine iter_keys g5 hg g1 g2 (pi_one (tk := s.toks) I _ (turnK q _ g2 hes) ⟨_, Heap.get?_push_size _ rfl, rfl, rfl⟩ (TRg.ok h r (jok_keys h1 hk)))
  | @ref n q em =>
    cases z : st.get n with
    | none => simp only [S.walk, z] at h; exact h.elim
    | some cl =>
      simp only [S.walk, z] at h
      cases cl with
      | dic _ _ _ => exact h.elim
      | lst fz ds =>
        cases fz with
        | false => exact h.elim
        | true =>
          obtain ⟨q', vs, e1, _, h1, h2, h3, _⟩ := cell_lst r z (.ref em)
          cases e1
          exact lists q ds vs rfl (h3 rfl) h2 h
  | _ => exact (show False from h).elim
theorem ri_it (ha : PE X a (eRd (tb X fa ca) W eva)) : PI X tg a (iRd (tb X fa ca) W fun τ s => (eva τ s).bind fun d s1 => match s1.walk d with
    | some ds => .ok ds s1
    | none => .stuck) := by
  refine ⟨fun pins s σ H Rr I h => ?_⟩
  refine thn (ha.run pins s σ H (fun v H1 => ∃ F G m st d, R (tb X fa ca) F G m st H1 ∧ Rp (tb X fa ca) G m d v ∧ TRg (tb X fa ca) W (fun G m ds J => JOk (tb X fa ca) G m ds J) σ F G m (match st.walk d with | some ds => .ok ds st | none => .stuck) Rr) I (one_rd h fun F G m s d x H r rd h => ⟨F, G, m, s, d, r, rd, h⟩)) fun u s1 ⟨v, H1, I1, ru, F, G, m, st, d, r, rd, h⟩ => ?_
  exact walk_pi I1 r rd ru h
theorem eRd_mono {T : Tb} {W : WX} {eva : Tau → S → Res D} {σ : L2.St} {H : Hp} {Q Q' : VK} (h : eRd T W eva σ H Q) (k : ∀ v H, Q v H → Q' v H) : eRd T W eva σ H Q' := by
  obtain ⟨F, G, m, s, τ, r, hs, h⟩ := h
  refine ⟨F, G, m, s, τ, r, hs, ?_⟩
  cases e : eva τ s with
  | stuck => rw [e] at h; exact h
  | exc x s1 => rw [e] at h; exact h
  | ok d s1 =>
    rw [e] at h
    exact fun G' m' H' b x r rb => k _ _ (h G' m' H' b x r rb)
theorem TRg.withS {T : Tb} {σ : L2.St} {F G : Hp} {m : Mm} {ds : List D} {s : S} {Q : It → Hp → Prop} (h : TRg T W (fun G m (p : List D × S) J => JOkP (fun s => s = p.2) T G m p.1 J) σ F G m (Mi.withS (.ok ds s)) Q) : ∀ G' m' H' J, Ext G m G' m' → R T F G' m' s H' → JOkP (fun u => u = s) T G' m' ds J → Q J H' := fun G' m' H' J x r jo => h G' m' H' J x r jo
/-- the items of a list, read while the state stays -/
theorem jokP_items {T : Tb} {F G H : Hp} {m : Mm} {st : S} {d : D} {q : Addr} {ds : List D} {vs : List V} (r : R T F G m st H) (rd : Rp T G m d (.ref q)) (hi : st.items d = some ds) : JOkP (fun u => u = st) T G m ds (Itl T.K q) := by
  intro i F' G' m' s' H' es e rr
  subst es
  obtain ⟨a', vs', e1, e2, e3⟩ := rr.items hi (rd.mono e)
  cases e1
  have hH : SqL T.K H' q vs' := SqL.of e2
  refine ⟨fun hi => ⟨vs', hH, by rw [hi, e3.length]; exact Nat.le_refl _⟩, fun d hd => ?_⟩
  obtain ⟨v, hv, rv⟩ := e3.get hd
  refine ⟨⟨vs', v, hH, hv⟩, fun x H'' y => ?_⟩
  obtain ⟨y1, y2⟩ := y
  subst y1
  have := y2 vs' hH
  rw [hv] at this
  cases this
  exact ⟨G', Ext.refl G' m', rr, rv⟩
theorem jokP_enum {T : Tb} {F G H : Hp} {m : Mm} {st : S} {d : D} {q : Addr} {ds : List D} (r : R T F G m st H) (rd : Rp T G m d (.ref q)) (hi : st.items d = some ds) : JOkP (fun u => u = st) T G m (enumD 0 ds) (ItE T.K true q) := by
  intro i F' G' m' s' H' es e rr
  subst es
  obtain ⟨a', vs', e1, e2, e3⟩ := rr.items hi (rd.mono e)
  cases e1
  have hH : SqB true T.K H' q vs' := SqL.of e2
  refine ⟨fun hi => ⟨vs', hH, by rw [hi, enumD_length, e3.length]⟩, fun d hd => ?_⟩
  obtain ⟨d', hd', rfl⟩ := enumD_get hd
  obtain ⟨v, hv, rv⟩ := e3.get hd'
  refine ⟨⟨vs', v, hH, hv⟩, fun x H'' y => ?_⟩
  obtain ⟨p, x', rfl, hp, rfl, y2⟩ := y
  have := y2 vs' hH
  rw [hv] at this
  cases this
  refine new_tup rr hp (.cons ?_ (.cons rv .nil))
  rw [Nat.zero_add]
  exact .int _
abbrev evLv (eva : Tau → S → Res D) : Tau → S → Res (List D) := fun τ s => (eva τ s).bind fun d s1 => match s1.items d with
    | some ds => .ok ds s1
    | none => .stuck
abbrev evLve (eva : Tau → S → Res D) : Tau → S → Res (List D) := fun τ s => (eva τ s).bind fun d s1 => match s1.items d with
    | some ds => .ok (enumD 0 ds) s1
    | none => .stuck
theorem lv_rd {T : Tb} {σ : L2.St} {H : Hp} {k : List D → List D} {Rr : It → Hp → Prop} (h : iRdL T W (fun τ s => (eva τ s).bind fun d s1 => match s1.items d with
    | some ds => .ok (k ds) s1
    | none => .stuck) σ H Rr) : eRd T W eva σ H fun v H1 => ∃ F G m st d ds, R T F G m st H1 ∧ Rp T G m d v ∧ st.items d = some ds ∧ ∀ G' m' H' J, Ext G m G' m' → R T F G' m' st H' → JOkP (fun u => u = st) T G' m' (k ds) J → Rr J H' := by
  obtain ⟨F, G, m, s, τ, r, hs, h⟩ := h
  refine ⟨F, G, m, s, τ, r, hs, ?_⟩
  cases e : eva τ s with
  | stuck => simp only [e] at h; exact (show False from h).elim
  | exc x s1 => simp only [e] at h; exact h
  | ok d s1 =>
    simp only [e] at h
    intro G' m' H' b x r' rb
    cases q : s1.items d with
    | none =>
      have h : TRg T W _ σ F G m (Mi.withS (match s1.items d with | some ds => Res.ok (k ds) s1 | none => Res.stuck)) Rr := h
      rw [q] at h
      exact (show False from h).elim
    | some ds =>
      have h : TRg T W _ σ F G m (Mi.withS (match s1.items d with | some ds => Res.ok (k ds) s1 | none => Res.stuck)) Rr := h
      rw [q] at h
      exact ⟨F, G', m', s1, d, ds, r', rb, q, fun G2 m2 H2 J x2 r2 jo => h G2 m2 H2 J (x.trans x2) r2 jo⟩
theorem ri_lv (ha : PE X a (eRd (tb X fa ca) W eva)) : PI X tg a (iRdL (tb X fa ca) W (evLv eva)) := by
  refine ⟨fun pins s σ H Rr I h => ?_⟩
  refine thn (ha.run pins s σ H _ I (lv_rd (k := id) h)) fun u s1 ⟨v, H1, I1, ru, F, G, m, st, d, ds, r, rd, hi, h⟩ => ?_
  obtain ⟨q, vs, rfl, e2, e3⟩ := r.items hi rd
  cases ru
  obtain ⟨its, rv, pl, hz⟩ := I1.list (SqL.of (K := X.K) e2)
  exact wpAny_pyIter_list pl.isList (pi_one (tk := s1.toks) I1 _ (turn_list q _) ⟨_, Heap.get?_push_size _ rfl, rfl, rfl⟩ (h G m H1 _ (Ext.refl G m) r (jokP_items (vs := vs) r rd hi)))
theorem small_of {i : Int} (h : small i = true) : -(2 ^ 62) ≤ i ∧ i < 2 ^ 62 := by
  have q := Bool.and_eq_true_iff.mp h
  exact ⟨of_decide_eq_true q.1, of_decide_eq_true q.2⟩
theorem ri_rng (hg : Gl X "range") (hm : X.mg "range" = none) (ha : PE X a (eRd (tb X fa ca) W eva)) (hst : notStar a = true) : PI X tg (.Call (.Name "range" p) [a] [] pos) (iRd (tb X fa ca) W fun τ s => (eva τ s).bind fun d s1 => match d with
    | .int j => if small j then .ok (rangeD 0 j.toNat) s1 else .stuck
    | _ => .stuck) := by
  refine PI.mono (pi_range1 hg hm (pa_cons ha pa_nil (star_cons hst)) (star_cons hst)) fun σ H Rr h => one_rd h fun F G m s d x H r rd h => ?_
  cases rd with
  | int j =>
    obtain ⟨hs, h⟩ := TRg.ite (show TRg (tb X fa ca) W (fun G m ds J => JOk (tb X fa ca) G m ds J) σ F G m (if small j then .ok (rangeD 0 j.toNat) s else .stuck) Rr from h)
    have q := small_of hs
    exact ⟨j, rfl, q.1, q.2, TRg.ok h r (jok_rng 0 j.toNat)⟩
  | _ => exact (show False from h).elim
theorem ri_rng2 (hg : Gl X "range") (hm : X.mg "range" = none) (ha : PE X a (eRd (tb X fa ca) W eva)) (hb : PE X b (eRd (tb X fa ca) W evb)) (hst : notStar a = true) (hst2 : notStar b = true) : PI X tg (.Call (.Name "range" p) [a, b] [] pos) (iRd (tb X fa ca) W fun τ s => (eva τ s).bind fun x s1 => (evb τ s1).bind fun y s2 => match x, y with
    | .int i, .int j => if small i && small j then .ok (rangeD i (j - i).toNat) s2 else .stuck
    | _, _ => .stuck) := by
  refine PI.mono (pi_range2 hg hm (pa_cons ha (pa_cons hb pa_nil (star_cons hst2)) (star_cons hst)) (by rw [star_cons hst, star_cons hst2] <;> rfl) (star_cons hst2)) fun σ H Rr h => two_rd h fun F G m s d e x y H r rd re h => ?_
  cases rd with
  | int i =>
    cases re with
    | int j =>
      obtain ⟨hs, h⟩ := TRg.ite (show TRg (tb X fa ca) W (fun G m ds J => JOk (tb X fa ca) G m ds J) σ F G m (if small i && small j then .ok (rangeD i (j - i).toNat) s else .stuck) Rr from h)
      have hs := Bool.and_eq_true_iff.mp hs
      have q := small_of hs.1
      have q2 := small_of hs.2
      exact ⟨i, j, rfl, ⟨q.1, q.2, q2.1, q2.2⟩, TRg.ok h r (jok_rng i (j - i).toNat)⟩
    | _ => exact (show False from h).elim
  | _ => exact (show False from h).elim
/-- what is walked by enumerate or zip: a list that changes no more, or a tuple -/
theorem walkS_sq {T : Tb} {F G H : Hp} {m : Mm} {st : S} {d : D} {v : V} {ds : List D} (r : R T F G m st H) (rd : Rp T G m d v) (h : st.walkS d = some ds) : ∃ q vs, v = .ref q ∧ SqBG (!isTupD d) T G q vs ∧ Rps T G m ds vs := by
  cases rd with
  | @lst q vs ds' h1 h2 =>
    simp only [S.walkS, Option.some.injEq] at h
    subst h
    exact ⟨q, vs, rfl, h1, h2⟩
  | @tup q vs ds' h1 h2 =>
    simp only [S.walkS, Option.some.injEq] at h
    subst h
    exact ⟨q, vs, rfl, h1, h2⟩
  | @ref n q em =>
    cases z : st.get n with
    | none => simp [S.walkS, z] at h
    | some cl =>
      cases cl with
      | dic _ _ _ => simp [S.walkS, z] at h
      | lst fz ds' =>
        cases fz with
        | false => simp [S.walkS, z] at h
        | true =>
          simp only [S.walkS, z, Option.some.injEq] at h
          subst h
          obtain ⟨q', vs, e1, _, h1, h2, h3, _⟩ := cell_lst r z (.ref em)
          cases e1
          exact ⟨q, vs, rfl, h3 rfl, h2⟩
  | _ => simp [S.walkS] at h
theorem ri_zip2 {elts : List Expr} {kk : Nat} {tpos : Pos} (hg : Gl X "zip") (hm : X.mg "zip" = none) (ha : PE X a (eRd (tb X fa ca) W eva)) (hb : PE X b (eRd (tb X fa ca) W evb)) (hst : notStar a = true) (hst2 : notStar b = true) :
    PI X (.Tuple elts kk tpos) (.Call (.Name "zip" p) [a, b] [] pos) (iRd (tb X fa ca) W fun τ s => (eva τ s).bind fun x s1 => (evb τ s1).bind fun y s2 => match s2.walkS x, s2.walkS y with
      | some xs, some ys => .ok (zipD xs ys) s2
      | _, _ => .stuck) := by
  refine ⟨fun pins s σ H Rr I h => ?_⟩
  have ha' : PA X [a, b] (tCons (eRd (tb X fa ca) W eva) (tCons (eRd (tb X fa ca) W evb) tNil)) := pa_cons ha (pa_cons hb pa_nil (star_cons hst2)) (star_cons hst)
  refine Call_ (ld_blt I hg hm PyProof.Rows.boot_zip (PyProof.Rows.callWith_type1 (thn (ha'.run pos pins s σ H (fun vs H1 => ∃ F G m st d1 d2 v1 v2, vs = [v1, v2] ∧ R (tb X fa ca) F G m st H1 ∧ Rp (tb X fa ca) G m d1 v1 ∧ Rp (tb X fa ca) G m d2 v2 ∧ TRg (tb X fa ca) W (fun G m ds J => JOk (tb X fa ca) G m ds J) σ F G m (match st.walkS d1, st.walkS d2 with
      | some xs, some ys => .ok (zipD xs ys) st
      | _, _ => .stuck) Rr) I ?_) fun us s1 ⟨vs, H1, I1, rv, F, G, m, st, d1, d2, v1, v2, ev, r, rd1, rd2, h⟩ => ?_) (star_cons hst) (plain_all (by simp [notStars, hst2]))))
  · obtain ⟨F, G, m, s, τ, r, hs, h⟩ := h
    refine tRd.bind r hs h fun d1 s1 G1 m1 H1 v1 e1 r1 hs1 rv1 h1 => ?_
    exact tRd.bind r1 hs1 h1 fun d2 s2 G2 m2 H2 v2 e2 r2 hs2 rv2 h2 => ⟨F, G2, m2, s2, d1, d2, v1, v2, rfl, r2, rv1.mono e2, rv2, h2⟩
  · subst ev
    cases q1 : st.walkS d1 with
    | none => rw [q1] at h; exact h.elim
    | some xs =>
      cases q2 : st.walkS d2 with
      | none => rw [q1, q2] at h; exact h.elim
      | some ys =>
        rw [q1, q2] at h
        obtain ⟨a1, w1, rfl, hq1, rq1⟩ := walkS_sq r rd1 q1
        obtain ⟨a2, w2, rfl, hq2, rq2⟩ := walkS_sq r rd2 q2
        cases rv with
        | cons u1 t =>
          cases t with
          | cons u2 t =>
            cases t
            cases u1
            cases u2
            obtain ⟨l1, _, p1, _, n1⟩ := seqB_of I1 ((hq1.sub r.gH).sq : SqB (!isTupD d1) X.K H1 a1 w1)
            obtain ⟨l2, _, p2, _, n2⟩ := seqB_of I1 ((hq2.sub r.gH).sq : SqB (!isTupD d2) X.K H1 a2 w2)
            refine zip_begins2 (beginsB (!isTupD d1) a1 l1.toArray) (beginsB (!isTupD d2) a2 l2.toArray) p1 p2 fun h' hz hTI hTO g1 g2 hsz hk => wpAny_pyIter_zip hz ?_
            have I2 : Inv X pins σ H1 { s1 with heap := h' } := I1.kept (t' := s1.toks) hk
            have below1 : ∀ {q : Addr}, q < s1.heap.objs.size → ∀ b ∈ [q], b < s1.heap.objs.size := fun hq b hb => by rw [List.mem_singleton.mp hb]; exact hq
            refine ⟨s1.heap.objs.size + 4, [s1.heap.objs.size + 4, s1.heap.objs.size + 2, s1.heap.objs.size + 3, s1.heap.objs.size, s1.heap.objs.size + 1], _, _, H1, rfl, I2,
              turnZ2 (!isTupD d1) (!isTupD d2) (zip_sep2 (below1 n1) (below1 n2)) (Nat.ne_of_lt n1) (Nat.ne_of_lt (Nat.lt_succ_of_lt n2)),
              ⟨hz, hTI, ⟨_, _, hTO⟩, objB_iter g1, objB_iter g2⟩, fun b hb => ?_, TRg.ok h r (jok_zip2 hq1 rq1 hq2 rq2)⟩
            have hle : s1.heap.objs.size ≤ b := by
              rcases mem4 hb with z | z | z | z | z
              · rw [z]; exact Nat.le_add_right _ _
              · rw [z]; exact Nat.le_add_right _ _
              · rw [z]; exact Nat.le_add_right _ _
              · rw [z]; exact Nat.le_refl _
              · rw [z]; exact Nat.le_add_right _ _
            exact I1.fpOk hle (I1.hok.fresh hle)
theorem ri_enu {elts : List Expr} {kk : Nat} {tpos : Pos} (hg : Gl X "enumerate") (hm : X.mg "enumerate" = none) (ha : PE X a (eRd (tb X fa ca) W eva)) (hst : notStar a = true) :
    PI X (.Tuple elts kk tpos) (.Call (.Name "enumerate" p) [a] [] pos) (iRd (tb X fa ca) W fun τ s => (eva τ s).bind fun d s1 => match s1.walkS d with
      | some ds => .ok (enumD 0 ds) s1
      | none => .stuck) := by
  refine ⟨fun pins s σ H Rr I h => ?_⟩
  have ha' : PA X [a] (tCons (eRd (tb X fa ca) W eva) tNil) := pa_cons ha pa_nil (star_cons hst)
  refine Call_ (ld_blt I hg hm boot_enumerate (PyProof.Rows.callWith_type1 (thn (ha'.run pos pins s σ H (fun vs H1 => ∃ F G m st d v, vs = [v] ∧ R (tb X fa ca) F G m st H1 ∧ Rp (tb X fa ca) G m d v ∧ TRg (tb X fa ca) W (fun G m ds J => JOk (tb X fa ca) G m ds J) σ F G m (match st.walkS d with | some ds => .ok (enumD 0 ds) st | none => .stuck) Rr) I
    (one_rd h fun F G m s d x H r rd h => ⟨F, G, m, s, d, x, rfl, r, rd, h⟩)) fun us s1 ⟨vs, H1, I1, rv, F, G, m, st, d, v, ev, r, rd, h⟩ => ?_) (star_cons hst) rfl))
  subst ev
  obtain ⟨u, rfl, ru⟩ := vals1 rv
  cases q1 : st.walkS d with
  | none => rw [q1] at h; exact h.elim
  | some xs =>
    rw [q1] at h
    obtain ⟨q, vs, rfl, hq, rq⟩ := walkS_sq r rd q1
    cases ru
    have hB : SqB (!isTupD d) X.K H1 q vs := (hq.sub r.gH).sq
    obtain ⟨its, rvs, p', hz, hlt⟩ := seqB_of I1 hB
    refine enum_begins1 (beginsB (!isTupD d) q its.toArray) p' fun h' he hit hk => wpAny_pyIter_enum he ?_
    have I2 : Inv X pins σ H1 { s1 with heap := h' } := I1.kept (t' := s1.toks) hk
    refine ⟨s1.heap.objs.size + 1, [s1.heap.objs.size + 1, s1.heap.objs.size], _, _, H1, rfl, I2, turnE (!isTupD d) q (s1.heap.objs.size + 1) s1.heap.objs.size (Nat.ne_of_lt hlt) (Nat.ne_of_lt (Nat.lt_succ_of_lt hlt)), ⟨⟨.none, he⟩, objB_iter hit, Nat.succ_ne_self _⟩, fun b hb => ?_, TRg.ok h r (jok_enum hq rq)⟩
    have hle : s1.heap.objs.size ≤ b := by
      rcases List.mem_cons.mp hb with z | z
      · rw [z]; exact Nat.le_succ _
      · rw [List.mem_singleton.mp z]; exact Nat.le_refl _
    exact I1.fpOk hle (I1.hok.fresh hle)
theorem ri_lve {elts : List Expr} {kk : Nat} {tpos : Pos} (hg : Gl X "enumerate") (hm : X.mg "enumerate" = none) (ha : PE X a (eRd (tb X fa ca) W eva)) (hst : notStar a = true) :
    PI X (.Tuple elts kk tpos) (.Call (.Name "enumerate" p) [a] [] pos) (iRdL (tb X fa ca) W (evLve eva)) := by
  refine ⟨fun pins s σ H Rr I h => ?_⟩
  have ha' : PA X [a] (tCons (eRd (tb X fa ca) W eva) tNil) := pa_cons ha pa_nil (star_cons hst)
  refine Call_ (ld_blt I hg hm boot_enumerate (PyProof.Rows.callWith_type1 (thn (ha'.run pos pins s σ H (fun vs H1 => ∃ F G m st d v ds, vs = [v] ∧ R (tb X fa ca) F G m st H1 ∧ Rp (tb X fa ca) G m d v ∧ st.items d = some ds ∧ ∀ G' m' H' J, Ext G m G' m' → R (tb X fa ca) F G' m' st H' → JOkP (fun u => u = st) (tb X fa ca) G' m' (enumD 0 ds) J → Rr J H') I
    (eRd_mono (lv_rd h) fun v H1 ⟨F, G, m, st, d, ds, h1, h2, h3, h4⟩ => ⟨F, G, m, st, d, v, ds, rfl, h1, h2, h3, h4⟩)) fun us s1 ⟨vs, H1, I1, rv, F, G, m, st, d, v, ds, ev, r, rd, hi, h⟩ => ?_) (star_cons hst) rfl))
  subst ev
  obtain ⟨u, rfl, ru⟩ := vals1 rv
  obtain ⟨q, vs, rfl, e2, e3⟩ := r.items hi rd
  cases ru
  have hB : SqB true X.K H1 q vs := SqL.of e2
  obtain ⟨its, rvs, p', hz, hlt⟩ := seqB_of I1 hB
  refine enum_begins1 (beginsB true q its.toArray) p' fun h' he hit hk => wpAny_pyIter_enum he ?_
  have I2 : Inv X pins σ H1 { s1 with heap := h' } := I1.kept (t' := s1.toks) hk
  refine ⟨s1.heap.objs.size + 1, [s1.heap.objs.size + 1, s1.heap.objs.size], _, _, H1, rfl, I2, turnE true q (s1.heap.objs.size + 1) s1.heap.objs.size (Nat.ne_of_lt hlt) (Nat.ne_of_lt (Nat.lt_succ_of_lt hlt)), ⟨⟨.none, he⟩, objB_iter hit, Nat.succ_ne_self _⟩, fun b hb => ?_, h G m H1 _ (Ext.refl G m) r (jokP_enum r rd hi)⟩
  have hle : s1.heap.objs.size ≤ b := by
    rcases List.mem_cons.mp hb with z | z
    · rw [z]; exact Nat.le_succ _
    · rw [List.mem_singleton.mp z]; exact Nat.le_refl _
  exact I1.fpOk hle (I1.hok.fresh hle)
theorem ri_zip3 {d : Expr} {elts : List Expr} {kk : Nat} {tpos : Pos} (hg : Gl X "zip") (hm : X.mg "zip" = none) (ha : PE X a (eRd (tb X fa ca) W eva)) (hb : PE X b (eRd (tb X fa ca) W evb)) (hd : PE X d (eRd (tb X fa ca) W evd)) (hst : notStar a = true) (hst2 : notStar b = true) (hst3 : notStar d = true) :
    PI X (.Tuple elts kk tpos) (.Call (.Name "zip" p) [a, b, d] [] pos) (iRd (tb X fa ca) W fun τ s => (eva τ s).bind fun x s1 => (evb τ s1).bind fun y s2 => (evd τ s2).bind fun z s3 => match s3.walkS x, s3.walkS y, s3.walkS z with
      | some xs, some ys, some zs => .ok (zipD3 xs ys zs) s3
      | _, _, _ => .stuck) := by
  refine ⟨fun pins s σ H Rr I h => ?_⟩
  have ha' : PA X [a, b, d] (tCons (eRd (tb X fa ca) W eva) (tCons (eRd (tb X fa ca) W evb) (tCons (eRd (tb X fa ca) W evd) tNil))) := pa_cons ha (pa_cons hb (pa_cons hd pa_nil (star_cons hst3)) (star_cons hst2)) (star_cons hst)
  refine Call_ (ld_blt I hg hm PyProof.Rows.boot_zip (PyProof.Rows.callWith_type1 (thn (ha'.run pos pins s σ H (fun vs H1 => ∃ F G m st d1 d2 d3 v1 v2 v3, vs = [v1, v2, v3] ∧ R (tb X fa ca) F G m st H1 ∧ Rp (tb X fa ca) G m d1 v1 ∧ Rp (tb X fa ca) G m d2 v2 ∧ Rp (tb X fa ca) G m d3 v3 ∧ TRg (tb X fa ca) W (fun G m ds J => JOk (tb X fa ca) G m ds J) σ F G m (match st.walkS d1, st.walkS d2, st.walkS d3 with
      | some xs, some ys, some zs => .ok (zipD3 xs ys zs) st
      | _, _, _ => .stuck) Rr) I ?_) fun us s1 ⟨vs, H1, I1, rv, F, G, m, st, d1, d2, d3, v1, v2, v3, ev, r, rd1, rd2, rd3, h⟩ => ?_) (star_cons hst) (plain_all (by simp [notStars, hst2, hst3]))))
  · obtain ⟨F, G, m, s, τ, r, hs, h⟩ := h
    refine tRd.bind r hs h fun d1 s1 G1 m1 H1 v1 e1 r1 hs1 rv1 h1 => ?_
    refine tRd.bind r1 hs1 h1 fun d2 s2 G2 m2 H2 v2 e2 r2 hs2 rv2 h2 => ?_
    exact tRd.bind r2 hs2 h2 fun d3 s3 G3 m3 H3 v3 e3 r3 hs3 rv3 h3 => ⟨F, G3, m3, s3, d1, d2, d3, v1, v2, v3, rfl, r3, (rv1.mono e2).mono e3, rv2.mono e3, rv3, h3⟩
  · subst ev
    cases q1 : st.walkS d1 with
    | none => rw [q1] at h; exact h.elim
    | some xs =>
      cases q2 : st.walkS d2 with
      | none => rw [q1, q2] at h; exact h.elim
      | some ys =>
        cases q3 : st.walkS d3 with
        | none => rw [q1, q2, q3] at h; exact h.elim
        | some zs =>
          rw [q1, q2, q3] at h
          obtain ⟨a1, w1, rfl, hq1, rq1⟩ := walkS_sq r rd1 q1
          obtain ⟨a2, w2, rfl, hq2, rq2⟩ := walkS_sq r rd2 q2
          obtain ⟨a3, w3, rfl, hq3, rq3⟩ := walkS_sq r rd3 q3
          cases rv with
          | cons u1 t =>
            cases t with
            | cons u2 t =>
              cases t with
              | cons u3 t =>
                cases t
                cases u1
                cases u2
                cases u3
                obtain ⟨l1, _, p1, _, n1⟩ := seqB_of I1 ((hq1.sub r.gH).sq : SqB (!isTupD d1) X.K H1 a1 w1)
                obtain ⟨l2, _, p2, _, n2⟩ := seqB_of I1 ((hq2.sub r.gH).sq : SqB (!isTupD d2) X.K H1 a2 w2)
                obtain ⟨l3, _, p3, _, n3⟩ := seqB_of I1 ((hq3.sub r.gH).sq : SqB (!isTupD d3) X.K H1 a3 w3)
                refine zip_begins3 (beginsB (!isTupD d1) a1 l1.toArray) (beginsB (!isTupD d2) a2 l2.toArray) (beginsB (!isTupD d3) a3 l3.toArray) p1 p2 p3 fun h' hz hTI hTO g1 g2 g3 hsz hk => wpAny_pyIter_zip hz ?_
                have I2 : Inv X pins σ H1 { s1 with heap := h' } := I1.kept (t' := s1.toks) hk
                have below1 : ∀ {q : Addr}, q < s1.heap.objs.size → ∀ b ∈ [q], b < s1.heap.objs.size := fun hq b hb => by rw [List.mem_singleton.mp hb]; exact hq
                refine ⟨s1.heap.objs.size + 5, [s1.heap.objs.size + 5, s1.heap.objs.size + 3, s1.heap.objs.size + 4, s1.heap.objs.size, s1.heap.objs.size + 1, s1.heap.objs.size + 2], _, _, H1, rfl, I2,
                  turnZ3 (!isTupD d1) (!isTupD d2) (!isTupD d3) (zip_sep3 (below1 n1) (below1 n2) (below1 n3)) (Nat.ne_of_lt n1) (Nat.ne_of_lt (Nat.lt_succ_of_lt n2)) (Nat.ne_of_lt (Nat.lt_succ_of_lt (Nat.lt_succ_of_lt n3))),
                  ⟨hz, hTI, ⟨_, _, _, hTO⟩, objB_iter g1, objB_iter g2, objB_iter g3⟩, fun b hb => ?_, TRg.ok h r (jok_zip3 hq1 rq1 hq2 rq2 hq3 rq3)⟩
                have hle : s1.heap.objs.size ≤ b := by
                  rcases mem5 hb with z | z | z | z | z | z
                  · rw [z]; exact Nat.le_add_right _ _
                  · rw [z]; exact Nat.le_add_right _ _
                  · rw [z]; exact Nat.le_add_right _ _
                  · rw [z]; exact Nat.le_refl _
                  · rw [z]; exact Nat.le_add_right _ _
                  · rw [z]; exact Nat.le_add_right _ _
                exact I1.fpOk hle (I1.hok.fresh hle)
end
end Mi
set_option Elab.async false
set_option linter.all false
set_option maxRecDepth 100000
set_option maxHeartbeats 400000
/-! Mi17: calls of the program's defs; targets. -/
namespace Mi
open PySem PySem.Spec PyProof.Rows L2
/-- what a def promises, the frames around it keeping no guards -/
structure FnG (P : Program) (w : World) (K : PySem.W.Frag) (mg : Str → Option Value) (base : Heap) (k : Nat) (f : Addr) (fd : FuncData) (ps : List Str) (sp : Sp) : Prop where
  len : ∀ vs H Q E, sp vs H Q E → vs.length = ps.length
  run : ∀ (A : Around) (fs : List Env) (s : Shared) (H : Hp) (args : Args) (us : List Value) (vs : List V) (Q : VK) (E : XK), Room k A → A.guards = some [] → Env0 P w K mg base A fs s H → BindsTo s fd args (ps.zip us) → Vals vs us → sp vs H Q E →
    codeAny (model P w) A (.call (.ref f) args) (CR (L2.CX P w) fs P w H s Q E) s
/-- the program's defs: names, function data, parameters; what they compute -/
structure Ge where
  P : Program
  w : World
  K : PySem.W.Frag
  mg : Str → Option Value
  base : Heap
  tab : Nat → Option Fd
  wf : Nat
  fa : Nat → Addr
  ca : Nat → Addr
  nm : Nat → Str
  fd : Nat → FuncData
  ps : Nat → List Str
abbrev Ge.T (g : Ge) : Tb := ⟨g.P, g.w, g.K, g.fa, g.ca⟩
def spM (g : Ge) (n f : Nat) : Sp := fun vs H Q E => ∃ F G m s ds, R g.T F G m s H ∧ Rps g.T G m ds vs ∧ TRg g.T (fun c d _ H => E c d H) (Rp g.T) [] F G m (callN g.tab g.wf n f ds s) Q
/-- each def keeps its promise to the depth n -/
def Ge.All (g : Ge) (n : Nat) : Prop := ∀ f e, g.tab f = some e → (g.ps f).length = e.ps ∧ FnG g.P g.w g.K g.mg g.base n (g.fa f) (g.fd f) (g.ps f) (spM g n f)
structure Ge.Ok (g : Ge) : Prop where
  at_ : ∀ f e, g.tab f = some e → g.mg (g.nm f) = some (.ref (g.fa f)) ∧ PySem.W.keepIn g.K (.ref (g.fa f)) = true ∧ Binds g.K (g.fd f) (g.ps f) []
theorem callN_len {tab : Nat → Option Fd} {wf n f : Nat} {ds : List D} {s : S} (h : callN tab wf n f ds s ≠ .stuck) : ∃ e, tab f = some e ∧ ds.length = e.ps := by
  cases n with
  | zero => exact absurd rfl h
  | succ n =>
    simp only [callN] at h
    cases e : tab f with
    | none => rw [e] at h; exact absurd rfl h
    | some fd =>
      rw [e] at h
      simp only at h
      by_cases hl : ds.length = fd.ps
      · exact ⟨fd, rfl, hl⟩
      · rw [if_neg hl] at h
        exact absurd rfl h
theorem TRg.nstuck {T : Tb} {W : WX} {α β : Type} {Rel : Hp → Mm → α → β → Prop} {σ : L2.St} {F G : Hp} {m : Mm} {r : Res α} {Q : β → Hp → Prop} (h : TRg T W Rel σ F G m r Q) : r ≠ .stuck := by
  cases r with
  | stuck => exact h.elim
  | _ => exact fun z => by cases z
/-- the context is one of the program's -/
structure In (g : Ge) (X : Cx) (W : WX) (n : Nat) : Prop where
  P : X.prog = g.P
  w : X.w = g.w
  K : X.K = g.K
  mg : X.mg = g.mg
  base : X.base = g.base
  room : Room n X.A
  guards : X.A.guards = some []
  calm : X.calm = true
  nd : X.N.Nodup
  pass : ∀ σ, PassesAt (L2.CX X.prog X.w) X σ (WE W σ)
theorem In.T {g : Ge} {X : Cx} {W : WX} {n : Nat} (h : In g X W n) : g.T = tb X g.fa g.ca := by
  show Tb.mk g.P g.w g.K g.fa g.ca = Tb.mk X.prog X.w X.K g.fa g.ca
  rw [h.P, h.w, h.K]
theorem In.un {g : Ge} {X : Cx} {W : WX} {n : Nat} (h : In g X W n) : X.A.units + 80 < cLine := by have := h.room.un; omega
section
variable {g : Ge} {X : Cx} {W : WX} {n : Nat} {a b e : Expr} {es : List Expr} {pos p : Pos} {eva evb : Tau → S → Res D} {evs : Tau → S → Res (List D)}
/-- a def runs -/
theorem fn_runs (hi : In g X W n) (ok : g.Ok) (all : g.All n) {f : Nat} {pins : List (Addr × Obj)} {σ : L2.St} {H : Hp} {s : Shared} {Q : VK} {us : List Value} {vs : List V} {args : Args} (hb : ∀ e, g.tab f = some e → vs.length = (g.ps f).length → BindsTo s (g.fd f) args ((g.ps f).zip us))
    (I : Inv X pins σ H s) (r : Vals vs us) {F G : Hp} {m : Mm} {st : S} {ds : List D} (rr : R g.T F G m st H) (rs : Rps g.T G m ds vs) (h : TRg g.T W (Rp g.T) σ F G m (callN g.tab g.wf n f ds st) Q) :
    codeAny (model X.prog X.w) X.A (.call (.ref (g.fa f)) args) (fun r s' => match r with
      | .ok (.ret u) => EP X pins σ Q u s'
      | .ok _ => False
      | .error e => X.xe e s') s := by
  obtain ⟨e, he, hl⟩ := callN_len h.nstuck
  obtain ⟨h1, F0⟩ := all f e he
  have hlen : vs.length = (g.ps f).length := by rw [← rs.length, hl, h1]
  have rc := F0.run X.A X.stack s H args us vs Q (fun c d H => W c d σ H) hi.room hi.guards (by rw [← hi.P, ← hi.w, ← hi.K, ← hi.mg, ← hi.base]; exact I.env0) (hb e he hlen) r ⟨F, G, m, st, ds, rr, rs, by
    cases q : callN g.tab g.wf n f ds st with
    | stuck => rw [q] at h; exact h
    | ok d s1 => rw [q] at h; exact h
    | exc y s1 => rw [q] at h; exact h⟩
  rw [hi.P, hi.w]
  refine codeAny_mono rc fun r s' hq => ?_
  cases r with
  | error e => exact hi.pass σ pins H s e s' I (by rw [hi.P, hi.w]; exact hq)
  | ok fl =>
    cases fl with
    | ret u => exact I.after (by rw [hi.P, hi.w]; exact hq)
    | next => exact False.elim hq
    | brk => exact False.elim hq
    | cont => exact False.elim hq
theorem rd_call (hi : In g X W n) (ok : g.Ok) (all : g.All n) {f : Nat} {x : Str} (hf : (g.tab f).isSome = true) (hx : g.nm f = x) (hg : Gl X x) (hdb : (x == ("__debug__" : Str)) = false) (ha : PA X (a :: es) (aRd g.T W evs)) (hst : notStars (a :: es) = true) :
    PE X (.Call (.Name x p) (a :: es) [] pos) (eRd g.T W fun τ s => (evs τ s).bind fun ds s1 => callN g.tab g.wf n f ds s1) := by
  have q := Bool.and_eq_true_iff.mp (show (notStar a && es.all notStar) = true from hst)
  obtain ⟨e, he⟩ := Option.isSome_iff_exists.mp hf
  obtain ⟨k1, k2, k3⟩ := ok.at_ f e he
  refine ⟨fun pins s σ H Q I h => ?_⟩
  refine wpAny_Call_Name_kw (ld_glob I hg (by rw [hi.mg, ← hx]; exact k1) ?_ hdb)
  refine PySem.W.callWith_K (h₀ := X.base) I.ok.mod.kin (by rw [hi.K]; exact k2) (thn (ha.run pos pins s σ H (fun vs H1 => ∃ F G m st ds, R g.T F G m st H1 ∧ Rps g.T G m ds vs ∧ TRg g.T W (Rp g.T) σ F G m (callN g.tab g.wf n f ds st) Q) I (many_rd h fun F G m s ds xs H r rd h => ⟨F, G, m, s, ds, r, rd, h⟩))
    fun us s1 ⟨vs, H1, I1, r, F, G, m, st, ds, rr, rs, h⟩ => ⟨I1.kIn, ?_⟩) (star_cons q.1) (plain_all q.2)
  refine wpAny_call (codeAny_mono (fn_runs hi ok all (us := us) (fun e he hl => ?_) I1 r rr rs h) fun r s' hq => ?_)
  · have b := k3 s1 us (by rw [← hi.K]; exact I1.kIn) (by rw [List.append_nil, ← r.length]; exact hl)
    rw [List.append_nil] at b
    exact b
  · cases r with
    | error e => exact hq
    | ok fl => cases fl <;> first | exact hq | exact hq.elim
/-- f(e, ..), f a name that holds a def -/
theorem rd_lcall (hi : In g X W n) (ok : g.Ok) (all : g.All n) {i : Nat} {x : Str} (hN : X.N[i]? = some x) (hv : Vis X.env.scope x) (hdb : (x == ("__debug__" : Str)) = false) (hcd : (x == ("__classdict__" : Str)) = false) (ha : PA X (a :: es) (aRd g.T W evs)) (hst : notStars (a :: es) = true) :
    PE X (.Call (.Name x p) (a :: es) [] pos) (eRd g.T W fun τ s => match τ[i]? with
      | some (some (.fn f)) => if (g.tab f).isSome then (evs τ s).bind fun ds s1 => callN g.tab g.wf n f ds s1 else .stuck
      | _ => .stuck) := by
  have q := Bool.and_eq_true_iff.mp (show (notStar a && es.all notStar) = true from hst)
  refine ⟨fun pins s σ H Q I ⟨F, G, m, st, τ, r, hs, h⟩ => ?_⟩
  cases e : τ[i]? with
  | none => simp only [e] at h; exact h.elim
  | some o =>
    simp only [e] at h
    cases o with
    | none => exact h.elim
    | some d =>
      cases d with
      | fn f =>
        obtain ⟨v, e1, e2⟩ := hs.at_ i _ e
        cases e2
        refine wpAny_Call_Name_kw (thn ((pe_var (pos := p) hN hv hdb hcd).run pins s σ H (fun v H1 => v = .ref (g.fa f) ∧ H1 = H) I ⟨_, e1, rfl, rfl⟩) fun u s1 ⟨v, H1, I1, r1, q1⟩ => ?_)
        obtain ⟨rfl, rfl⟩ := q1
        cases r1
        -- the def is one of the table, or its arguments stop
        have h : TRg g.T W (Rp g.T) σ F G m (if (g.tab f).isSome = true then (evs τ st).bind fun ds s1 => callN g.tab g.wf n f ds s1 else .stuck) Q := h
        by_cases hf : (g.tab f).isSome = true
        · rw [if_pos hf] at h
          obtain ⟨e, he⟩ := Option.isSome_iff_exists.mp hf
          obtain ⟨k1, k2, k3⟩ := ok.at_ f e he
          refine PySem.W.callWith_K (h₀ := X.base) I.ok.mod.kin (by rw [hi.K]; exact k2) (thn (ha.run pos pins s1 σ H1 (fun vs H1 => ∃ F G m st ds, R g.T F G m st H1 ∧ Rps g.T G m ds vs ∧ TRg g.T W (Rp g.T) σ F G m (callN g.tab g.wf n f ds st) Q) I1
            (many_rd (k := fun ds s1 => callN g.tab g.wf n f ds s1) ⟨F, G, m, st, τ, r, hs, h⟩ fun F G m s ds xs H r rd h => ⟨F, G, m, s, ds, r, rd, h⟩)) fun us s1 ⟨vs, H1, I1, r, F, G, m, st, ds, rr, rs, h⟩ => ⟨I1.kIn, ?_⟩) (star_cons q.1) (plain_all q.2)
          refine wpAny_call (codeAny_mono (fn_runs hi ok all (us := us) (fun e he hl => ?_) I1 r rr rs h) fun r s' hq => ?_)
          · have b := k3 s1 us (by rw [← hi.K]; exact I1.kIn) (by rw [List.append_nil, ← r.length]; exact hl)
            rw [List.append_nil] at b
            exact b
          · cases r with
            | error e => exact hq
            | ok fl => cases fl <;> first | exact hq | exact hq.elim
        · rw [if_neg hf] at h
          exact h.elim
      | _ => exact h.elim
end
/-! ### targets -/
section
variable {X : Cx} {fa ca : Nat → Addr} {a b e : Expr} {es : List Expr} {pos p : Pos} {eva evb : Tau → S → Res D} {l l' : List Nat}
theorem PG.mono {e : Expr} {t t' : TG} (h : PG X e t) (k : ∀ v σ H Q, t' v σ H Q → t v σ H Q) : PG X e t' := ⟨fun pins s σ H v u Q I r q => h.run pins s σ H v u Q I r (k v σ H Q q)⟩
theorem PGs.mono {es : List Expr} {t t' : TGs} (h : PGs X es t) (k : ∀ v σ H Q, t' v σ H Q → t v σ H Q) : PGs X es t' := ⟨fun pins s σ H v u Q I r q => h.run pins s σ H v u Q I r (k v σ H Q q)⟩
theorem rg_nm {i : Nat} {x : Str} (hN : X.N.Nodup) (hx : X.N[i]? = some x) (hl : Loc X.env.scope x) (hf : X.fn x = true ∨ X.env.scope.names.lookup x = some .local) : PG X (.Name x pos) (gRd (tb X fa ca) [i] fun d τ s => .ok (τ.set i (some d)) s) :=
  PG.mono (pg_name hN hx hl hf) fun v σ H Q ⟨F, G, m, s, τ, d, r, hs, rd, h⟩ => h G m H _ (Ext.refl G m) r (hs.set i rd) (Only.set i σ _)
theorem rgs_nil : PGs X [] (gsRd (tb X fa ca) [] fun ds τ s => match ds with
    | [] => .ok τ s
    | _ => .stuck) := by
  refine PGs.mono pgs_nil fun vs σ H Q ⟨F, G, m, s, τ, ds, r, hs, rd, h⟩ => ?_
  cases ds with
  | nil => cases rd; exact ⟨rfl, h G m H σ (Ext.refl G m) r hs (Only.refl _ _)⟩
  | cons _ _ => exact h.elim
theorem GOk.mono {T : Tb} {σ : L2.St} {F G G1 : Hp} {m m1 : Mm} {r : Res Tau} {Q : L2.St → Hp → Prop} (x : Ext G m G1 m1) (h : GOk T l σ F G m r Q) : GOk T l σ F G1 m1 r Q := by
  cases r with
  | ok τ s => exact fun G' m' H' σ' e => h G' m' H' σ' (x.trans e)
  | exc _ _ => exact h
  | stuck => exact h
theorem assign_cons {e : Expr} {es : List Expr} {env : Env} (h : notStar e = true) : assignEach (e :: es) env = (false, assign e env) :: assignEach es env := by
  cases e <;> first | rfl | (simp [notStar] at h)
theorem assign_len {env : Env} : ∀ {es : List Expr}, notStars es = true → (assignEach es env).length = es.length ∧ (assignEach es env).findIdx? (·.1) = none
  | [], _ => ⟨rfl, rfl⟩
  | e :: es, h => by
    have q := Bool.and_eq_true_iff.mp (show (notStar e && es.all notStar) = true from h)
    obtain ⟨h1, h2⟩ := assign_len (env := env) (es := es) q.2
    rw [assign_cons q.1]
    refine ⟨by rw [List.length_cons, h1, List.length_cons], ?_⟩
    rw [List.findIdx?_cons, h2]
    rfl
theorem rgs_cons {evg : D → Tau → S → Res Tau} {evgs : List D → Tau → S → Res Tau} (hst : notStar e = true) (h1 : PG X e (gRd (tb X fa ca) l evg)) (h2 : PGs X es (gsRd (tb X fa ca) l' evgs)) : PGs X (e :: es) (gsRd (tb X fa ca) (l ++ l') fun ds τ s => match ds with
    | [] => .stuck
    | d :: ds => match evg d τ s with
      | .ok τ1 s1 => evgs ds τ1 s1
      | _ => .stuck) := by
  refine PGs.mono (pgs_cons h1 h2 (by rw [assign_cons hst] <;> rfl)) fun vs σ H Q ⟨F, G, m, s, τ, ds, r, hs, rd, h⟩ => ?_
  cases rd with
  | nil => exact h.elim
  | @cons d v ds vs rd1 rd2 =>
    refine ⟨v, vs, rfl, F, G, m, s, τ, d, r, hs, rd1, ?_⟩
    have h : GOk (tb X fa ca) (l ++ l') σ F G m (match evg d τ s with
      | .ok τ1 s1 => evgs ds τ1 s1
      | _ => .stuck) Q := h
    cases e1 : evg d τ s with
    | exc _ _ => rw [e1] at h; exact h.elim
    | stuck => rw [e1] at h; exact h.elim
    | ok τ1 s1 =>
      rw [e1] at h
      intro G' m' H' σ' x r' hs' ho
      refine ⟨F, G', m', s1, τ1, ds, r', hs', rd2.mono x, ?_⟩
      have h := GOk.mono x h
      simp only at h
      cases e2 : evgs ds τ1 s1 with
      | exc _ _ => rw [e2] at h; exact h.elim
      | stuck => rw [e2] at h; exact h.elim
      | ok τ2 s2 =>
        rw [e2] at h
        exact fun G2 m2 H2 σ2 x2 r2 hs2 ho2 => h G2 m2 H2 σ2 x2 r2 hs2 (ho.trans ho2 (fun i hi => List.mem_append_left _ hi) (fun i hi => List.mem_append_right _ hi))
theorem rg_tp {k : Nat} {evgs : List D → Tau → S → Res Tau} (hc : X.calm = true) (hst : notStars es = true) (hlen : ∀ ds τ s, evgs ds τ s ≠ .stuck → ds.length = es.length) (h : PGs X es (gsRd (tb X fa ca) l evgs)) : PG X (.Tuple es k pos) (gRd (tb X fa ca) l fun d τ s => match d with
    | .tup ds => evgs ds τ s
    | _ => .stuck) := by
  obtain ⟨h1, h2⟩ := assign_len (env := X.env) hst
  refine PG.mono (pg_tup (n := es.length) hc h h1 h2) fun v σ H Q ⟨F, G, m, s, τ, d, r, hs, rd, h⟩ => ?_
  cases rd with
  | @tup q vs ds g1 g2 =>
    have h : GOk (tb X fa ca) l σ F G m (evgs ds τ s) Q := h
    have hl := hlen ds τ s (fun z => by rw [z] at h; exact h)
    exact ⟨q, vs, rfl, SqT.sub r.gH g1, by rw [← g2.length]; exact hl, F, G, m, s, τ, ds, r, hs, g2, h⟩
  | _ => exact h.elim
theorem rg_sub (hu : X.A.units + 80 < cLine) (hp : plainIx b = true) (ho : PE X a (eRd (tb X fa ca) W0 eva)) (hi : PE X b (eRd (tb X fa ca) W0 evb)) : PG X (.Subscript a b pos) (gRd (tb X fa ca) [] fun d τ s => match eva τ s with
    | .ok x s1 => match evb τ s1 with
      | .ok y s2 => match setIx x y d s2 with
        | some s3 => .ok τ s3
        | none => .stuck
      | _ => .stuck
    | _ => .stuck) := by
  refine PG.mono (pg_sub ho hi (set_all (fa := fa) (ca := ca) hu) (fun v => by cases b <;> first | rfl | (simp [plainIx] at hp))) fun v σ H Q ⟨F, G, m, s, τ, d, r, hs, rd, h⟩ => ?_
  refine ⟨F, G, m, s, τ, r, hs, ?_⟩
  simp only at h
  cases e1 : eva τ s with
  | exc _ _ => rw [e1] at h; exact h.elim
  | stuck => rw [e1] at h; exact h.elim
  | ok x s1 =>
    rw [e1] at h
    intro G1 m1 H1 xv x1 r1 rx
    refine ⟨F, G1, m1, s1, τ, r1, hs.mono x1, ?_⟩
    simp only at h
    cases e2 : evb τ s1 with
    | exc _ _ => rw [e2] at h; exact h.elim
    | stuck => rw [e2] at h; exact h.elim
    | ok y s2 =>
      rw [e2] at h
      intro G2 m2 H2 yv x2 r2 ry
      simp only at h
      cases e3 : setIx x y d s2 with
      | none => rw [e3] at h; exact h.elim
      | some s3 =>
        rw [e3] at h
        exact ⟨F, G2, m2, s2, x, y, d, s3, r2, rx.mono x2, ry, rd.mono (x1.trans x2), e3, fun G' m' H' x3 r3 => h G' m' H' σ ((x1.trans x2).trans x3) r3 ((hs.mono (x1.trans x2)).mono x3) (Only.refl _ _)⟩
end
end Mi
set_option Elab.async false
set_option linter.all false
set_option maxRecDepth 100000
set_option maxHeartbeats 400000
/-! Mi18: comprehensions, calls by keywords. -/
namespace Mi
open PySem PySem.Spec PyProof.Rows L2
section
variable {X : Cx} {fa ca : Nat → Addr} {W : WX} {a b e tg iter elt : Expr} {es : List Expr} {pos p : Pos} {eve evk : Tau → S → Res D} {evs : Tau → S → Res (List D)} {evi : Tau → S → Res (List D)} {evg : D → Tau → S → Res Tau} {evt : Tau → S → Res Bool} {l : List Nat}
/-- any block of this comprehension -/
abbrev Blk (X : Cx) (scope : Scope) (Y : Cx) : Prop := ∃ (s : Shared) (H : Hp) (C : Addr) (cl : List (Str × Addr)) (fp : List Addr), Y = X.blk s H scope (compEnvC scope cl C X.env) fp
theorem PTs.mono {X : Cx} {es : List Expr} {t t' : TT} (h : PTs X es t) (k : ∀ σ H Q, t' σ H Q → t σ H Q) : PTs X es t' := ⟨fun pins s σ H Q I q => h.run pins s σ H Q I (k σ H Q q)⟩
theorem rts_nil {Y : Cx} : PTs Y [] (bRd (tb X fa ca) W0 fun _ s => .ok true s) :=
  PTs.mono pts_nil fun σ H Q ⟨F, G, m, s, τ, r, hs, h⟩ => TRg.ok (show TRg (tb X fa ca) W0 (fun _ _ (a b : Bool) => a = b) σ F G m (.ok true s) Q from h) r rfl
abbrev evComp (mu : Bool) (own : List Nat) (evi : Tau → S → Res (List D)) (evg : D → Tau → S → Res Tau) (evt : Tau → S → Res Bool) (eve : Tau → S → Res D) : Tau → S → Res D := fun τ s => (evi τ s).bind fun ds s1 => if fits ds then
      (match loopC (fun d s2 => (evg d (wipeT τ own) s2).bind fun τ1 s3 => (evt τ1 s3).bind fun b s4 => if b then (eve τ1 s4).bind fun y s5 => .ok (some y) s5 else .ok none s4) ds s1 with
      | .ok r s2 => if mu then .ok (.ref s2.nx) (s2.add (.lst false r)) else .ok (.lst r) s2
      | _ => .stuck)
    else .stuck
theorem lc_rd {mu : Bool} {wi : TI} {g : TG} {tt : TT} {te : TE} {own : List Nat} {σ : L2.St} {H : Hp} {Q : VK} (hwi : ∀ σ H Q, iRd (tb X fa ca) W evi σ H Q → wi σ H Q) (hg : ∀ v σ H Q, gRd (tb X fa ca) l evg v σ H Q → g v σ H Q) (ht : ∀ σ H Q, bRd (tb X fa ca) W0 evt σ H Q → tt σ H Q) (he : ∀ σ H Q, tRd (tb X fa ca) W0 (Rp (tb X fa ca)) eve σ H Q → te σ H Q) (hl : ∀ i ∈ l, i ∈ own)
    (h : eRd (tb X fa ca) W (evComp mu own evi evg evt eve) σ H Q) : tLc wi g tt te own σ H Q := by
  obtain ⟨F, G, m, s, τ, r, hs, h⟩ := h
  refine hwi _ _ _ (tRd.bind r hs h fun ds s1 G1 m1 H1 J e1 r1 hs1 jo h1 => ?_)
  obtain ⟨hf, h1⟩ := TRg.ite h1
  cases q : loopC (fun d s2 => (evg d (wipeT τ own) s2).bind fun τ1 s3 => (evt τ1 s3).bind fun b s4 => if b then (eve τ1 s4).bind fun y s5 => .ok (some y) s5 else .ok none s4) ds s1 with
  | exc _ _ => rw [q] at h1; exact h1.elim
  | stuck => rw [q] at h1; exact h1.elim
  | ok rt send =>
    rw [q] at h1
    exact comp_ok (mu := mu) hg ht he hl r1 hs1 jo hf q h1
def notSet : Expr → Bool
  | .Set _ _ _ => false
  | _ => true
theorem rd_comp {mu : Bool} {ifs : List Expr} {scope : Scope} {own : List (Str × Nat)} (hc : X.calm = true) (hN : X.N.Nodup) (hi : PI X tg iter (iRd (tb X fa ca) W evi)) (ok : blkC X.N X.env.scope scope own = true)
    (hg : ∀ Y, Blk X scope Y → PG Y tg (gRd (tb X fa ca) l evg)) (ht : ∀ Y, Blk X scope Y → PTs Y ifs (bRd (tb X fa ca) W0 evt)) (he : ∀ Y, Blk X scope Y → PE Y elt (eRd (tb X fa ca) W0 eve)) (hl : ∀ i ∈ l, i ∈ own.map (·.2)) (hfs : ∀ x, foldedSetIterable iter X.env x = pure x) :
    PE X (.ListComp elt [⟨tg, iter, ifs, 0⟩] scope pos) (eRd (tb X fa ca) W (evComp mu (own.map (·.2)) evi evg evt eve)) :=
  PE.mono (pe_lc hc hN hi (blkOk_by ok) (fun s H C cl fp => hg _ ⟨s, H, C, cl, fp, rfl⟩) (fun s H C cl fp => ht _ ⟨s, H, C, cl, fp, rfl⟩) (fun s H C cl fp => he _ ⟨s, H, C, cl, fp, rfl⟩) hfs) fun σ H Q h => lc_rd (fun _ _ _ q => q) (fun _ _ _ _ q => q) (fun _ _ _ q => q) (fun _ _ _ q => q) hl h
theorem lc_rdP {mu : Bool} {wi : TI} {g : TG} {tt : TT} {te : TE} {own : List Nat} {σ : L2.St} {H : Hp} {Q : VK} (hwi : ∀ σ H Q, iRdL (tb X fa ca) W evi σ H Q → wi σ H Q) (hg : ∀ v σ H Q, gRd (tb X fa ca) l evg v σ H Q → g v σ H Q) (ht : ∀ σ H Q, bRd (tb X fa ca) W0 evt σ H Q → tt σ H Q) (he : ∀ σ H Q, tRd (tb X fa ca) W0 (Rp (tb X fa ca)) eve σ H Q → te σ H Q) (hl : ∀ i ∈ l, i ∈ own)
    (hk : ∀ τ d s o s', ((evg d τ s).bind fun τ1 s3 => (evt τ1 s3).bind fun b s4 => if b then (eve τ1 s4).bind fun y s5 => .ok (some y) s5 else .ok none s4) = .ok o s' → s' = s)
    (h : eRd (tb X fa ca) W (evComp mu own evi evg evt eve) σ H Q) : tLc wi g tt te own σ H Q := by
  obtain ⟨F, G, m, s, τ, r, hs, h⟩ := h
  refine hwi _ _ _ ⟨F, G, m, s, τ, r, hs, ?_⟩
  show TRg (tb X fa ca) W _ σ F G m (withS (evi τ s)) _
  have h : TRg (tb X fa ca) W (Rp (tb X fa ca)) σ F G m (evComp mu own evi evg evt eve τ s) Q := h
  unfold evComp at h
  cases q0 : evi τ s with
  | stuck => rw [q0] at h; exact (show False from h).elim
  | exc x s1 => rw [q0] at h; exact h
  | ok ds s1 =>
    rw [q0] at h
    intro G1 m1 H1 J e1 r1 jo
    obtain ⟨hf, h1⟩ := TRg.ite (TRg.mono e1 h)
    cases q : loopC (fun d s2 => (evg d (wipeT τ own) s2).bind fun τ1 s3 => (evt τ1 s3).bind fun b s4 => if b then (eve τ1 s4).bind fun y s5 => .ok (some y) s5 else .ok none s4) ds s1 with
    | exc _ _ => rw [q] at h1; exact h1.elim
    | stuck => rw [q] at h1; exact h1.elim
    | ok rt send =>
      rw [q] at h1
      exact comp_okP (mu := mu) hg ht he hl r1 (hs.mono e1) jo rfl (fun d s o s' hs hq => by rw [hk _ _ _ _ _ hq, hs]) hf q h1
theorem rd_compP {mu : Bool} {ifs : List Expr} {scope : Scope} {own : List (Str × Nat)} (hc : X.calm = true) (hN : X.N.Nodup) (hi : PI X tg iter (iRdL (tb X fa ca) W evi)) (ok : blkC X.N X.env.scope scope own = true)
    (hg : ∀ Y, Blk X scope Y → PG Y tg (gRd (tb X fa ca) l evg)) (ht : ∀ Y, Blk X scope Y → PTs Y ifs (bRd (tb X fa ca) W0 evt)) (he : ∀ Y, Blk X scope Y → PE Y elt (eRd (tb X fa ca) W0 eve)) (hl : ∀ i ∈ l, i ∈ own.map (·.2)) (hfs : ∀ x, foldedSetIterable iter X.env x = pure x)
    (hk : ∀ τ d s o s', ((evg d τ s).bind fun τ1 s3 => (evt τ1 s3).bind fun b s4 => if b then (eve τ1 s4).bind fun y s5 => .ok (some y) s5 else .ok none s4) = .ok o s' → s' = s) :
    PE X (.ListComp elt [⟨tg, iter, ifs, 0⟩] scope pos) (eRd (tb X fa ca) W (evComp mu (own.map (·.2)) evi evg evt eve)) :=
  PE.mono (pe_lc hc hN hi (blkOk_by ok) (fun s H C cl fp => hg _ ⟨s, H, C, cl, fp, rfl⟩) (fun s H C cl fp => ht _ ⟨s, H, C, cl, fp, rfl⟩) (fun s H C cl fp => he _ ⟨s, H, C, cl, fp, rfl⟩) hfs) fun σ H Q h => lc_rdP (fun _ _ _ q => q) (fun _ _ _ _ q => q) (fun _ _ _ q => q) (fun _ _ _ q => q) hl hk h
/-- name = [..] on one line -/
theorem rs_setLc {mu : Bool} {ifs : List Expr} {scope : Scope} {own : List (Str × Nat)} {i : Nat} {y : Str} {py spos : Pos} (hc : X.calm = true) (hN : X.N.Nodup) (hy : X.N[i]? = some y) (hyl : X.env.scope.names.lookup y = some .local) (hsw : swapsWith (.ListComp elt [⟨tg, iter, ifs, 0⟩] scope pos) (some (.Name y py)) spos.line X.env = pure true) (hi : PI X tg iter (iRd (tb X fa ca) W evi)) (ok : blkC X.N X.env.scope scope own = true)
    (hg : ∀ Y, Blk X scope Y → PG Y tg (gRd (tb X fa ca) l evg)) (ht : ∀ Y, Blk X scope Y → PTs Y ifs (bRd (tb X fa ca) W0 evt)) (he : ∀ Y, Blk X scope Y → PE Y elt (eRd (tb X fa ca) W0 eve)) (hl : ∀ i ∈ l, i ∈ own.map (·.2)) (hfs : ∀ x, foldedSetIterable iter X.env x = pure x) :
    PS X (.Assign [.Name y py] (.ListComp elt [⟨tg, iter, ifs, 0⟩] scope pos) spos) (tAsg (eRd (tb X fa ca) W (evComp mu (own.map (·.2)) evi evg evt eve)) (gName i)) := by
  have h := ps_setLc (spos := spos) hc hN hy hyl hsw hi (blkOk_by ok) (fun s H C cl fp => hg _ ⟨s, H, C, cl, fp, rfl⟩) (fun s H C cl fp => ht _ ⟨s, H, C, cl, fp, rfl⟩) (fun s H C cl fp => he _ ⟨s, H, C, cl, fp, rfl⟩) hfs
  exact ⟨fun pins s σ H D I q => h.run pins s σ H D I (lc_rd (mu := mu) (fun _ _ _ q => q) (fun _ _ _ _ q => q) (fun _ _ _ q => q) (fun _ _ _ q => q) hl q)⟩
/-! ### dicts that a comprehension makes -/
/-- the dict at p after d[k] = v -/
theorem dict_put {pins : List (Addr × Obj)} {s : Shared} {σ : L2.St} {F G H : Hp} {m : Mm} {st : S} {p ka : Addr} {ho : HO} {kvs : KVs} {ks vs : List D} {kd d : D} {k : NestedKey} {v : V} {u : Value} {h' : Heap} {t' : Nat} {xs : List (NestedKey × Addr × Value)} (I : Inv X pins σ H s) (r : R (tb X fa ca) F G m st H)
    (h1 : H p = some ho) (h2 : DicV (tb X fa ca) p kvs ho) (h3 : Rps (tb X fa ca) G m ks (kvs.map fun p => V.ref p.2.1)) (h4 : ks.map keyT = kvs.map (fun p => some p.1)) (h5 : Rps (tb X fa ca) G m vs (kvs.map fun p => p.2.2)) (rb : Rp (tb X fa ca) G m kd (.ref ka)) (q2 : Mi.keyT kd = some k) (rd : Rp (tb X fa ca) G m d v) (rv : RelV v u) (hl : ks.length < sizeLine)
    (d1 : s.heap.DictOfH (nestedKind X.prog X.w) p xs) (d2 : Paired PairR kvs xs) (d3 : (p == sysModules) = false) (hd' : h'.DictOfH (nestedKind X.prog X.w) p (storedH xs k ka u)) (sb : Heap.SameBut p s.heap h') :
    ∃ ho' kvs', Inv X pins σ (upd H p ho') { s with heap := h', toks := t' } ∧ DicV (tb X fa ca) p kvs' ho' ∧ Rps (tb X fa ca) G m (dput k kd d ks vs).1 (kvs'.map fun p => V.ref p.2.1) ∧ (dput k kd d ks vs).1.map keyT = kvs'.map (fun p => some p.1) ∧ Rps (tb X fa ca) G m (dput k kd d ks vs).2 (kvs'.map fun p => p.2.2) := by
  have hlen : kvs.length = ks.length := by have := congrArg List.length h4; simp only [List.length_map] at this; exact this.symm
  have hlx : kvs.length = xs.length := Paired.length d2
  have mut_ : Mut (H p) := by
    obtain ⟨ob, es, ep, xs', rfl, _⟩ := h2
    rw [h1]
    exact True.intro
  obtain ⟨_, _, _, _, _, _, _, _, nd⟩ := id d1
  have ndk : (kvs.map (·.1)).Nodup := by rw [paired_keys d2]; exact nd
  obtain ⟨ob, es, ep, g1, g2, g3, g4, g5, g6⟩ := hd'
  have I' := I.write (x := p) (e := p) (h' := h') (o := .ext fun h => h.get? p = some ob) (t' := t') mut_ (.inl rfl) (fun b u hb hu => (sb.2 b hb).trans hu) ⟨_, g1⟩ ⟨g1, ⟨_, g1⟩, fun h1 h2 e st => st _ e⟩
  obtain ⟨x1, x2⟩ := dget_at (T := tb X fa ca) (G := G) (m := m) k h4 h5 d2
  cases z : dget k ks vs with
  | none =>
    have z2 := storedH_new (x2 z) ka u
    have e : dput k kd d ks vs = (ks ++ [kd], vs ++ [d]) := by unfold dput; rw [z]
    refine ⟨_, kvs ++ [(k, ka, v)], I', ⟨ob, es, ep, storedH xs k ka u, rfl, g2, g3, g4, g6, d3, by rw [z2, List.length_append, List.length_singleton]; omega, by rw [z2]; exact paired_snoc ⟨rfl, rfl, rv⟩ d2⟩, ?_, ?_, ?_⟩
    · rw [e, List.map_append]
      exact h3.append (.cons rb .nil)
    · rw [e, List.map_append, List.map_append, h4]
      simp [q2]
    · rw [e, List.map_append]
      exact h5.append (.cons rd .nil)
  | some w =>
    obtain ⟨b', u', v', y1, _⟩ := x1 w z
    have z2 := storedH_old y1 ka u
    have e : dput k kd d ks vs = (ks, dputV k d ks vs) := by unfold dput; rw [z]
    refine ⟨_, kvs.map (putA k v), I', ⟨ob, es, ep, storedH xs k ka u, rfl, g2, g3, g4, g6, d3, by rw [z2, List.length_map]; omega, by rw [z2]; exact putA_paired rv d2⟩, ?_, ?_, ?_⟩
    · rw [e, putA_map _ (fun p => by rw [(putA_key k v p).2])]
      exact h3
    · rw [e, putA_map _ (fun p => by rw [(putA_key k v p).1])]
      exact h4
    · rw [e]
      exact dputV_rps rd h4 h5 ndk
/-- what d[k] = v asks within the comprehension: the dict stands at D among others' things -/
def dSet (T : Tb) (D : Addr) (y z : V) (H : Hp) (Q : Hp → Prop) : Prop := ∃ F G m s ks vs kvs ho kd d k, R T F G m s H ∧ F D = some ho ∧ DicV T D kvs ho ∧ Rps T G m ks (kvs.map fun p => V.ref p.2.1) ∧ ks.map keyT = kvs.map (fun p => some p.1) ∧ Rps T G m vs (kvs.map fun p => p.2.2) ∧
  Rp T G m kd y ∧ Mi.keyT kd = some k ∧ Rp T G m d z ∧ ks.length < sizeLine ∧ ∀ ho' kvs', DicV T D kvs' ho' → Rps T G m (dput k kd d ks vs).1 (kvs'.map fun p => V.ref p.2.1) → (dput k kd d ks vs).1.map keyT = kvs'.map (fun p => some p.1) → Rps T G m (dput k kd d ks vs).2 (kvs'.map fun p => p.2.2) → Q (upd H D ho')
theorem dset_ok {pins : List (Addr × Obj)} {s : Shared} {σ : L2.St} {H : Hp} {D : Addr} {y z : V} {u r : Value} {Qn : Hp → Prop} {E : Value → Shared → Prop} {Q : Unit → Shared → Prop} (hu : X.A.units + 80 < cLine) (I : Inv X pins σ H s) (ry : RelV y u) (rz : RelV z r) (h : dSet (tb X fa ca) D y z H Qn) (hQ : ∀ s' H', Inv X pins σ H' s' → Qn H' → Q () s') :
    wpAny (model X.prog X.w) X.A (dictSet D u r) Q E s := by
  obtain ⟨F, G, m, st, ks, vs, kvs, ho, kd, d, k, rr, hF, h2, h3, h4, h5, rb, q2, rd, hl, h⟩ := h
  obtain ⟨ka, rfl, isk⟩ := Rp.keyT I rr rb q2
  cases ry
  have h1 := rr.fH _ _ hF
  obtain ⟨xs, d1, d2, d3, d4⟩ := DicV.dictOf I rr h1 h2 h3 h4
  refine wpAny_dictSet_heap (show X.A.units + 8 < cLine from by omega) isk d1 (fun h' hd' sb => ?_) d4
  obtain ⟨ho', kvs', I', p1, p2, p3, p4⟩ := dict_put (t' := s.toks + (nestedKind X.prog X.w).draws k) I rr h1 h2 h3 h4 h5 rb q2 rd rz hl d1 d2 d3 hd' sb
  exact hQ _ _ I' (h ho' kvs' p1 p2 p3 p4)
end
end Mi
set_option Elab.async false
set_option linter.all false
set_option maxRecDepth 100000
set_option maxHeartbeats 400000
/-! Mi19: dict comprehensions with tuple keys. -/
namespace Mi
open PySem PySem.Spec PyProof.Rows L2
def tDcN (T : Tb) (wi : TI) (g : TG) (tt : TT) (tk tv : TE) (own : List Nat) : TE := fun σ H Q => wi σ H fun J H1 => ∀ (D : Addr) (o1 : HO), H1 D = none → DicV T D [] o1 → ∃ Wn : Nat → Nat → Hp → Prop, (∃ m, Wn 0 m (upd H1 D o1)) ∧ ∀ i m H, Wn i m H →
  (J.stop i H ∧ Q (.ref D) H) ∨ (J.go i H ∧ ∃ Nx : Hp → Prop, (∀ H', Nx H' → ∃ m', m' < m ∧ Wn (i + 1) m' H') ∧ ∀ x H', J.yld i H x H' → g x (L2.wipe σ own) H' fun σ2 H2 => L2.wipe σ2 own = L2.wipe σ own ∧ tt σ2 H2 fun b H3 =>
    if b = true then tk σ2 H3 fun y H4 => tv σ2 H4 fun z H5 => dSet T D y z H5 Nx else Nx H3)
section
variable {X : Cx} {fa ca : Nat → Addr}
theorem dcN_run {pins : List (Addr × Obj)} {s : Shared} {σ : L2.St} {H : Hp} {Q : VK} {kx vx tg src : Expr} {ifs : List Expr} {scope : Scope} {own : List (Str × Nat)} {pos pos' : Pos} {wi : TI} {g : TG} {tt : TT} {tk tv : TE} {use : Option (Value → Sem Unit)} {Qf : Value → Shared → Prop}
    (hc : X.calm = true) (hN : X.N.Nodup) (hu : X.A.units + 80 < cLine) (I : Inv X pins σ H s) (hi : PI X tg src wi) (ok : BlkOk X.N X.env.scope scope own)
    (hg : ∀ Y, Blk X scope Y → PG Y tg g) (ht : ∀ Y, Blk X scope Y → PTs Y ifs tt) (hk : ∀ Y, Blk X scope Y → PE Y kx tk) (he : ∀ Y, Blk X scope Y → PE Y vx tv) (hfs : ∀ x, foldedSetIterable src X.env x = pure x)
    (h : tDcN (tb X fa ca) wi g tt tk tv (own.map (·.2)) σ H Q)
    (back : ∀ D C s' m H', Inv X pins σ H' s' → Q (.ref D) H' → s'.heap.Ns C m → FpOk X pins H' C → compPost (model X.prog X.w) X.A X.xe use Qf (.ref D) C (.ok .next) s') :
    wpAny (model X.prog X.w) X.A (comprehension (.DictComp kx vx [⟨tg, src, ifs, 0⟩] scope pos) scope X.env pos' newDict false (eval src X.env) use) Qf X.xe s := by
  have captured : ∀ y ∈ scope.names, y.2 = .free → ∃ c, X.env.cells.lookup y.1 = some c := fun y hy e => (ok.free y hy e).elim (fun k => I.ok.has _ (.inl k)) (fun k => I.ok.has _ (.inr k))
  refine wpAny_comprehension_free (use := use) rfl hfs (closure_ok captured) ok.kind (fun y hy e => by rw [ok.uniq y hy, e]) (thn (hi.run pins s σ H _ I h) fun _ sa hsa => thn hsa fun _ sb hsb => ?_)
  obtain ⟨it, fp, tn, J, Hb, rfl, Ib, T, tb0, fb, q⟩ := hsb
  refine wpAny_newObj_type (newEnv_comp ?_)
  -- the new dict at D
  obtain ⟨ob, es, ep, n1, n2, n3, n4, n5, n6⟩ := Heap.DictOfH.new (knd := nestedKind X.prog X.w) sb.heap
  generalize hD : sb.heap.objs.size = D at n1
  have freshD : Hb D = none := Ib.hok.fresh (Nat.le_of_eq hD)
  have lowD : (D == sysModules) = false := beq_eq_false_iff_ne.mpr fun e => by
    have z := Ib.big
    rw [hD, e] at z
    exact Nat.lt_irrefl _ z
  obtain ⟨Wn, ⟨k0, w0⟩, turn⟩ := q D (.ext fun h => h.get? D = some ob) freshD ⟨ob, es, ep, [], rfl, n2, n3, n4, List.nodup_nil, lowD, Nat.zero_le _, .nil⟩
  generalize hsc : ({ sb with heap := sb.heap.push { cls := .type "dict", data := .dict #[] } } : Shared) = sc
  have hsc' : sc.heap = sb.heap.push { cls := .type "dict", data := .dict #[] } := by rw [← hsc]
  have Ic : Inv X pins σ (upd Hb D (.ext fun h => h.get? D = some ob)) sc := by
    rw [← hsc]
    exact Ib.laid (t' := sb.toks) (fun b o e => Heap.get?_push_of_some _ e) (Nat.le_of_eq hD) ⟨n1, ⟨_, n1⟩, fun h1 h2 e st => st _ e⟩
  have small : ∀ b ∈ fp, b < sb.heap.objs.size := fun b hb => by
    obtain ⟨o, e, _⟩ := T.obj _ _ tb0 b hb
    exact Heap.lt_size e
  have fc : ∀ b ∈ fp, FpOk X pins (upd Hb D (.ext fun h => h.get? D = some ob)) b ∧ b < sc.heap.objs.size := fun b hb => by
    have lt := small b hb
    refine ⟨⟨?_, (fb b hb).2⟩, by rw [hsc', Heap.size_push]; exact Nat.lt_succ_of_lt lt⟩
    rw [upd_ne (by rw [← hD]; exact Nat.ne_of_lt lt)]
    exact (fb b hb).1
  have tc : tn 0 sc.heap := T.keep _ _ _ tb0 fun b _ o e => by rw [hsc']; exact Heap.get?_push_of_some _ e
  have Id := block_start Ic ok hN fc
  have blk : Blk X scope (X.blk sc (upd Hb D (.ext fun h => h.get? D = some ob)) scope (compEnvC scope (cellsFrom (sc.heap.objs.size + 1) scope.names (cloFrom X.env.cells scope.names [])) sc.heap.objs.size X.env) fp) := ⟨_, _, _, _, _, rfl⟩
  show codeAny _ _ (.compStart (.DictComp kx vx [⟨tg, src, ifs, 0⟩] scope pos) 0 (.ref it) (.ref D) (compEnvC scope (cellsFrom (sc.heap.objs.size + 1) scope.names (cloFrom X.env.cells scope.names [])) sc.heap.objs.size X.env)) (compPost (model X.prog X.w) X.A X.xe use Qf (.ref D) sc.heap.objs.size) { sc with heap := pushCells (sc.heap.push { cls := .type "dict", data := .dict #[] }) scope.names }
  have nfp : ∀ b ∈ fp, (upd Hb D (.ext fun h => h.get? D = some ob)) b = none := fun b hb => (fc b hb).1.1
  generalize hce : compEnvC scope (cellsFrom (sc.heap.objs.size + 1) scope.names (cloFrom X.env.cells scope.names [])) sc.heap.objs.size X.env = ce at Id blk ⊢
  have cL : ce.locals = sc.heap.objs.size := by subst hce; rfl
  generalize hHc : upd Hb D (.ext fun h => h.get? D = some ob) = Hc at Ic Id blk w0 nfp fc
  generalize hsd : ({ sc with heap := pushCells (sc.heap.push { cls := .type "dict", data := .dict #[] }) scope.names } : Shared) = sd at Id ⊢
  generalize hY : X.blk sc Hc scope ce fp = Y at Id blk
  have yP : Y.prog = X.prog := by subst hY; rfl
  have yw : Y.w = X.w := by subst hY; rfl
  have yK : Y.K = X.K := by subst hY; rfl
  have yA : Y.A = X.A := by subst hY; rfl
  have yc : Y.calm = true := by subst hY; exact hc
  have yex : Y.ex = fp := by subst hY; rfl
  have yenv : Y.env = ce := by subst hY; rfl
  have yxe : Y.xe = fun _ _ => False := by subst hY; rfl
  have ypn : Y.pn = [] := by subst hY; rfl
  have td0 : tn 0 sd.heap := T.keep _ _ _ tc fun b _ o e => by rw [← hsd]; exact pushCells_keeps _ _ _ _ (Heap.get?_push_of_some _ e)
  have stay : ∀ {σ' : L2.St} {H' : Hp} {s' : Shared}, Inv Y [] σ' H' s' → (∀ b ∈ fp, H' b = none) → ∀ b ∈ fp, FpOk Y [] H' b := fun {σ' H' s'} I' hn b hb => by
    have hbx : b ∈ Y.ex := by rw [yex]; exact hb
    exact ⟨hn b hb, (I'.ok.exf b hbx).1, I'.ok.exfs b hbx, .inl hbx, fun x c e => (I'.ok.exf b hbx).2 x c e, fun p hp => by rw [ypn] at hp; exact absurd hp (by simp)⟩
  have loop : codeAny (model X.prog X.w) X.A (.compLoop (.DictComp kx vx [⟨tg, src, ifs, 0⟩] scope pos) 0 (.ref it) (.ref D) ce) (compPost (model X.prog X.w) X.A X.xe use Qf (.ref D) sc.heap.objs.size) sd := by
    refine compLoop_anyD (fun n s' => ∃ i H', Inv Y [] (L2.wipe σ (own.map (·.2))) H' s' ∧ tn i s'.heap ∧ (∀ b ∈ fp, H' b = none) ∧ Wn i n H') ?_ k0 ⟨0, Hc, Id, td0, nfp, w0⟩
    rintro n s5 ⟨i, H5, I5, t5, n5, w5⟩
    have stop_or := turn i n H5 w5
    rcases stop_or with ⟨stop, qq⟩ | ⟨go, Nx, hNx, step⟩
    · have qd := T.done Y yP yw yK yc i [] s5 _ H5 (fun _ _ => False) I5 (stay I5 n5) t5 stop
      rw [yA] at qd
      refine thnF qd fun r s6 ⟨hr, I6⟩ => ?_
      subst hr
      subst hY
      have I7 : Inv X pins σ H5 s6 := Ic.call' (ch := fp) I6.os I6.base I6.hok I6.bare fun b hb => ⟨(fc b hb).1.2.2.2.1, (fc b hb).1.2.1, (fc b hb).1.2.2.2.2.1, (fc b hb).1.2.2.2.2.2⟩
      have nC : H5 sc.heap.objs.size = none := by
        have z : H5 ce.locals = none := I6.free
        rw [cL] at z
        exact z
      obtain ⟨m, hn, _⟩ := I6.loc
      have hn : s6.heap.Ns ce.locals m := hn
      rw [cL] at hn
      exact back D sc.heap.objs.size s6 m H5 I7 qq hn (Ic.fpOk (Nat.le_refl _) nC)
    · have qi := T.item Y yP yw yK yc i [] s5 _ H5 (fun _ _ => False) I5 (stay I5 n5) t5 go
      rw [yA] at qi
      refine thnF qi fun r s6 ⟨u, hr, h6⟩ => ?_
      subst hr
      refine thnF h6 fun _ s7 ⟨x, H7, I7, r7, y7, t7, n7⟩ => ?_
      have I7' := I7.pinned (stay I7 n7) (T.obj _ _ t7)
      have pg := (hg Y blk).run _ s7 _ H7 x u _ I7' r7 (step x H7 y7)
      rw [yP, yw, yA, yxe, yenv] at pg
      refine thnF pg fun _ s8 ⟨σ8, H8, I8, hw8, q8⟩ => ?_
      have pt := (ht Y blk).run _ s8 σ8 H8 _ I8 q8
      rw [yP, yw, yA, yxe, yenv] at pt
      refine thnF pt fun b s9 ⟨H9, I9, q9⟩ => ?_
      have fin : ∀ {s' : Shared} {H' : Hp}, Inv Y ([] ++ pinsAt fp s7.heap) σ8 H' s' → Nx H' → ∃ m, m < n ∧ ∃ i H', Inv Y [] (L2.wipe σ (own.map (·.2))) H' s' ∧ tn i s'.heap ∧ (∀ b ∈ fp, H' b = none) ∧ Wn i m H' := fun {s' H'} I' nx => by
        obtain ⟨m', hm, w'⟩ := hNx H' nx
        have held : ∀ b ∈ fp, ∀ o, s7.heap.get? b = some o → s'.heap.get? b = some o ∧ H' b = none := fun b hb o e =>
          have z := I'.pin (b, o) (List.mem_append_right _ (List.mem_append_right _ (mem_pinsAt hb e)))
          ⟨z.1, z.2.1⟩
        refine ⟨m', hm, i + 1, H', (I'.unpinned (pins := [])).weak (by rw [← hw8, L2.wipe_length]) (fun j v e => ?_), T.keep _ _ _ t7 fun b hb o e => (held b hb o e).1, fun b hb => ?_, w'⟩
        · rw [← hw8] at e
          exact (wipe_some e).1
        · obtain ⟨o, e, _⟩ := T.obj _ _ t7 b hb
          exact (held b hb o e).2
      cases b with
      | false =>
        simp only [Bool.false_eq_true, if_false] at q9 ⊢
        exact fin I9 q9
      | true =>
        simp only [if_true] at q9 ⊢
        have pk := (hk Y blk).run _ s9 σ8 H9 _ I9 q9
        rw [yP, yw, yA, yxe, yenv] at pk
        refine thnF pk fun zk s10 ⟨yk, H10, I10, r10, q10⟩ => ?_
        have pv := (he Y blk).run _ s10 σ8 H10 _ I10 q10
        rw [yP, yw, yA, yxe, yenv] at pv
        refine thnF pv fun zv s11 ⟨yv, H11, I11, r11, q11⟩ => ?_
        have q11' : dSet (tb Y fa ca) D yk yv H11 Nx := by
          have e : tb Y fa ca = tb X fa ca := by
            show Tb.mk Y.prog Y.w Y.K fa ca = Tb.mk X.prog X.w X.K fa ca
            rw [yP, yw, yK]
          rw [e]
          exact q11
        have z := dset_ok (X := Y) (E := fun _ _ => False) (Q := fun _ s' => ∃ m, m < n ∧ ∃ i H', Inv Y [] (L2.wipe σ (own.map (·.2))) H' s' ∧ tn i s'.heap ∧ (∀ b ∈ fp, H' b = none) ∧ Wn i m H') (by rw [yA]; exact hu) I11 r10 r11 q11' (fun s' H' I' nx => fin I' nx)
        rw [yP, yw, yA] at z
        exact thnF z fun _ _ q => q
  exact codeAny_compStart_dict loop (T.self X.A 0 _ _ _ td0 loop)
theorem pe_dcN {kx vx tg src : Expr} {ifs : List Expr} {scope : Scope} {own : List (Str × Nat)} {pos : Pos} {wi : TI} {g : TG} {tt : TT} {tk tv : TE} (hc : X.calm = true) (hN : X.N.Nodup) (hu : X.A.units + 80 < cLine) (hi : PI X tg src wi) (ok : BlkOk X.N X.env.scope scope own)
    (hg : ∀ Y, Blk X scope Y → PG Y tg g) (ht : ∀ Y, Blk X scope Y → PTs Y ifs tt) (hk : ∀ Y, Blk X scope Y → PE Y kx tk) (he : ∀ Y, Blk X scope Y → PE Y vx tv) (hfs : ∀ x, foldedSetIterable src X.env x = pure x) :
    PE X (.DictComp kx vx [⟨tg, src, ifs, 0⟩] scope pos) (tDcN (tb X fa ca) wi g tt tk tv (own.map (·.2))) := by
  refine ⟨fun pins s σ H Q I h => ?_⟩
  rw [arm_eval_DictComp]
  refine dcN_run hc hN hu I hi ok hg ht hk he hfs h fun D C s' m H' I' q hn f => ⟨m, hn, fun h'' sb => ?_⟩
  obtain ⟨f0, f1, f2, f3, f4, f5⟩ := f
  exact ⟨.ref D, H', I'.turned (t' := s'.toks) (fun b o hb e => (sb.2 b hb).trans e) f0 f1 f3 f4 f5, rfl, q⟩
/-- name = {k: v for ..} on one line, a local name -/
theorem ps_setDc {i : Nat} {y : Str} {py spos : Pos} {kx vx tg src : Expr} {ifs : List Expr} {scope : Scope} {own : List (Str × Nat)} {pos : Pos} {wi : TI} {g : TG} {tt : TT} {tk tv : TE} (hc : X.calm = true) (hN : X.N.Nodup) (hu : X.A.units + 80 < cLine) (hy : X.N[i]? = some y) (hyl : X.env.scope.names.lookup y = some .local)
    (hsw : swapsWith (.DictComp kx vx [⟨tg, src, ifs, 0⟩] scope pos) (some (.Name y py)) spos.line X.env = pure true) (hi : PI X tg src wi) (ok : BlkOk X.N X.env.scope scope own)
    (hg : ∀ Y, Blk X scope Y → PG Y tg g) (ht : ∀ Y, Blk X scope Y → PTs Y ifs tt) (hk : ∀ Y, Blk X scope Y → PE Y kx tk) (he : ∀ Y, Blk X scope Y → PE Y vx tv) (hfs : ∀ x, foldedSetIterable src X.env x = pure x) :
    PS X (.Assign [.Name y py] (.DictComp kx vx [⟨tg, src, ifs, 0⟩] scope pos) spos) (tAsg (tDcN (tb X fa ca) wi g tt tk tv (own.map (·.2))) (gName i)) := by
  refine ⟨fun pins s σ H D I h => ?_⟩
  rw [exec_Assign_Name_used _ _ _ _ hsw]
  refine wpAny_bind (wpAny_standAt (wpAny_bind ?_))
  show wpAny _ X.A (do let _ ← comprehension (.DictComp kx vx [⟨tg, src, ifs, 0⟩] scope pos) scope X.env (firstIterPos [⟨tg, src, ifs, 0⟩] pos) newDict false (eval src X.env) (some (assign (.Name y py) X.env))) _ _ s
  have h : tDcN (tb X fa ca) wi g tt tk tv (own.map (·.2)) σ H (fun x H1 => gName i x σ H1 D.nx) := h
  refine wpAny_bind (thn (dcN_run (Qf := fun _ s' => SP X pins D .next s') hc hN hu I hi ok hg ht hk he hfs h fun L C s' m H' I' q hn f => ?_) fun _ _ hq => wpAny_pure (wpAny_pure hq))
  show wpAny _ _ (assign (.Name y py) X.env (.ref L)) _ _ _
  refine wpAny_assign_Name (store_ok2 (v := V.ref L) I' hN hy (.inl hyl) rfl (fun s2 I2 ⟨a, sb, ha⟩ => ?_) (.inr hyl))
  obtain ⟨f0, f1, f2, f3, f4, f5⟩ := f
  have apart : C ≠ a := ha.elim (fun z => by rw [z]; exact f1) (fun z e => f4 y a z e.symm)
  exact ⟨m, hn.sameBut sb apart, fun h3 sb3 => ⟨_, H', I2.turned (t' := s2.toks) (fun b o hb e => (sb3.2 b hb).trans e) f0 f1 f3 f4 f5, q⟩⟩
end
end Mi
set_option Elab.async false
set_option linter.all false
set_option maxRecDepth 100000
set_option maxHeartbeats 400000
/-! Mi20: dict comprehensions read; calls by keywords; statements. -/
namespace Mi
open PySem PySem.Spec PyProof.Rows L2
section
variable {X : Cx} {fa ca : Nat → Addr} {W : WX} {a b e tg iter : Expr} {es : List Expr} {pos p : Pos} {eva evv evk : Tau → S → Res D} {evi evs : Tau → S → Res (List D)} {evg : D → Tau → S → Res Tau} {evt : Tau → S → Res Bool} {l : List Nat}
theorem loopK_cons {f : D → S → Res (Option (D × D))} {d : D} {ds ks vs : List D} {s send : S} {r : List D × List D} (h : loopK f (d :: ds) ks vs s = .ok r send) : ∃ o s1, f d s = .ok o s1 ∧ (match o with
    | none => loopK f ds ks vs s1 = .ok r send
    | some (k, v) => ∃ q, keyT k = some q ∧ loopK f ds (dput q k v ks vs).1 (dput q k v ks vs).2 s1 = .ok r send) := by
  simp only [loopK] at h
  cases e : f d s with
  | exc _ _ => rw [e] at h; cases h
  | stuck => rw [e] at h; cases h
  | ok o s1 =>
    cases o with
    | none =>
      rw [e] at h
      exact ⟨none, s1, rfl, h⟩
    | some kv =>
      obtain ⟨k, v⟩ := kv
      rw [e] at h
      simp only at h
      cases e2 : keyT k with
      | none => rw [e2] at h; cases h
      | some q =>
        rw [e2] at h
        exact ⟨some (k, v), s1, rfl, q, e2, h⟩
theorem dput_len (q : NestedKey) (k v : D) (ks vs : List D) : (dput q k v ks vs).1.length ≤ ks.length + 1 := by
  unfold dput
  cases dget q ks vs with
  | none => simp
  | some _ => exact Nat.le_succ _
abbrev evDComp (mu : Bool) (own : List Nat) (evi : Tau → S → Res (List D)) (evg : D → Tau → S → Res Tau) (evt : Tau → S → Res Bool) (evk evv : Tau → S → Res D) : Tau → S → Res D := fun τ s => (evi τ s).bind fun ds s1 => if fits ds then
      (match loopK (fun d s2 => (evg d (wipeT τ own) s2).bind fun τ1 s3 => (evt τ1 s3).bind fun b s4 => if b then (evk τ1 s4).bind fun x s5 => (evv τ1 s5).bind fun y s6 => .ok (some (x, y)) s6 else .ok none s4) ds [] [] s1 with
      | .ok (ks, vs) s2 => if mu then .ok (.ref s2.nx) (s2.add (.dic false ks vs)) else .ok (.dic ks vs) s2
      | _ => .stuck)
    else .stuck
theorem dc_rd {mu : Bool} {ow : List Nat} {σ : L2.St} {H : Hp} {Q : VK} (hl : ∀ i ∈ l, i ∈ ow) (h : eRd (tb X fa ca) W (evDComp mu ow evi evg evt evk evv) σ H Q) : tDcN (tb X fa ca) (iRd (tb X fa ca) W evi) (gRd (tb X fa ca) l evg) (bRd (tb X fa ca) W0 evt) (eRd (tb X fa ca) W0 evk) (eRd (tb X fa ca) W0 evv) ow σ H Q := by
  obtain ⟨F, G, m, s, τ, r, hs, h⟩ := h
  refine tRd.bind r hs h fun ds s1 G1 m1 H1 J e1 r1 hs1 jo h1 => ?_
  obtain ⟨hf, h1⟩ := TRg.ite h1
  generalize hf' : (fun d s2 => (evg d (wipeT τ ow) s2).bind fun τ1 s3 => (evt τ1 s3).bind fun b s4 => if b then (evk τ1 s4).bind fun x s5 => (evv τ1 s5).bind fun y s6 => Res.ok (some (x, y)) s6 else Res.ok none s4) = f at h1
  cases q : loopK f ds [] [] s1 with
  | exc _ _ => rw [q] at h1; exact h1.elim
  | stuck => rw [q] at h1; exact h1.elim
  | ok rt send =>
    rw [q] at h1
    intro D o1 hD d0
    have hFD : F D = none := none_of_sub r1.fH hD
    let Pv : Nat → Hp → Prop := fun i H => ∃ G m s ks vs kvs ho, i ≤ ds.length ∧ Ext G1 m1 G m ∧ R (tb X fa ca) (upd F D ho) G m s H ∧ DicV (tb X fa ca) D kvs ho ∧ Rps (tb X fa ca) G m ks (kvs.map fun p => V.ref p.2.1) ∧ ks.map keyT = kvs.map (fun p => some p.1) ∧ Rps (tb X fa ca) G m vs (kvs.map fun p => p.2.2) ∧ ks.length ≤ i ∧ loopK f (ds.drop i) ks vs s = .ok rt send
    refine ⟨fun i m H => m = ds.length - i ∧ Pv i H, ⟨ds.length, by simp, G1, m1, s1, [], [], [], o1, Nat.zero_le _, Ext.refl _ _, r1.fnew hD, d0, .nil, rfl, .nil, Nat.zero_le _, by simpa using q⟩, ?_⟩
    rintro i m H ⟨rfl, G, m, s, ks, vs, kvs, ho, hi, x, r, hdv, hks, hke, hvs, hle, hlo⟩
    obtain ⟨stop, go⟩ := jo i _ G m s H x r
    by_cases hlt : i < ds.length
    · right
      obtain ⟨g1, g2⟩ := go _ (List.getElem?_eq_getElem hlt)
      rw [List.drop_eq_getElem_cons hlt] at hlo
      refine ⟨g1, Pv (i + 1), fun H' pp => ⟨ds.length - (i + 1), by omega, rfl, pp⟩, fun v H' hy => ?_⟩
      obtain ⟨G', x', r0, rv⟩ := g2 v H' hy
      obtain ⟨o, sd, e0, e4⟩ := loopK_cons hlo
      rw [← hf'] at e0
      obtain ⟨τ1, sa, e1', e0⟩ := Res.bind_ok e0
      obtain ⟨b, sb0, et, e0⟩ := Res.bind_ok e0
      refine ⟨_, G', m, s, wipeT τ ow, ds[i], r0, ((hs1.mono x).mono x').wipe ow, rv, ?_⟩
      rw [e1']
      intro G2 m2 H2 σ2 x2 r2' hs2 ho2
      refine ⟨(ho2.wipe hl).trans (wipe_wipe σ ow), ?_⟩
      refine ⟨_, G2, m2, sa, τ1, r2', hs2, ?_⟩
      rw [et]
      rintro G3' m3' H3' b' x3' r3' rfl
      cases b with
      | false =>
        simp only [Bool.false_eq_true, if_false, Res.ok.injEq] at e0 ⊢
        obtain ⟨rfl, rfl⟩ := e0
        have xx := ((x'.trans x2).trans x3')
        exact ⟨G3', m3', sb0, ks, vs, kvs, ho, hlt, x.trans xx, r3', hdv, hks.mono xx, hke, hvs.mono xx, by omega, e4⟩
      | true =>
        simp only [if_true] at e0 ⊢
        obtain ⟨kd', sb, e2, e0⟩ := Res.bind_ok e0
        obtain ⟨d', sc, e3, e0⟩ := Res.bind_ok e0
        simp only [Res.ok.injEq] at e0
        obtain ⟨rfl, rfl⟩ := e0
        obtain ⟨qk, ek, e4⟩ := e4
        refine ⟨_, G3', m3', sb0, τ1, r3', hs2.mono x3', ?_⟩
        rw [e2]
        intro G3 m3 H3 kv x3 r3 rk
        refine ⟨_, G3, m3, sb, τ1, r3, (hs2.mono x3').mono x3, ?_⟩
        rw [e3]
        intro G4 m4 H4 dv x4 r4 rd
        have xx := (((x'.trans x2).trans x3').trans x3).trans x4
        have hlen := fits_len hf
        refine ⟨_, G4, m4, sc, ks, vs, kvs, ho, kd', d', qk, r4, upd_same, hdv, hks.mono xx, hke, hvs.mono xx, rk.mono x4, ek, rd, by omega, fun ho' kvs' p1 p2 p3 p4 => ?_⟩
        exact ⟨G4, m4, sc, _, _, kvs', ho', hlt, x.trans xx, r4.fset, p1, p2, p3, p4, by have := dput_len qk kd' d' ks vs; omega, e4⟩
    · left
      have hi' : i = ds.length := by omega
      refine ⟨stop hi', ?_⟩
      rw [hi', List.drop_length] at hlo
      simp only [loopK, Res.ok.injEq] at hlo
      obtain ⟨rfl, rfl⟩ := hlo
      cases mu with
      | false =>
        have hfin : TRg (tb X fa ca) W (Rp (tb X fa ca)) σ F G m (.ok (.dic ks vs) s) Q := TRg.mono x h1
        have gp : G D = none := r.fG D _ upd_same
        have x2 : Ext G m (upd G D ho) m := Ext.upd gp
        exact hfin _ m H _ x2 (r.own hFD) (.dic upd_same hdv (hks.mono x2) hke (hvs.mono x2))
      | true =>
        have hfin : TRg (tb X fa ca) W (Rp (tb X fa ca)) σ F G m (.ok (.ref s.nx) (s.add (.dic false ks vs))) Q := TRg.mono x h1
        have gp : G D = none := r.fG D _ upd_same
        have x2 : Ext G m G (mAdd m s.nx D) := Ext.add (r.fresh _ (Nat.le_refl _))
        refine hfin G _ H _ x2 (r.ownX hFD ⟨ho, kvs, r.fat, hdv, hks.mono x2, hke, hvs.mono x2, fun z => Bool.noConfusion z, fun _ => gp⟩) (.ref ?_)
        show (if s.nx = s.nx then some D else m s.nx) = some D
        rw [if_pos rfl]
theorem rd_dcomp {mu : Bool} {kx vx : Expr} {ifs : List Expr} {scope : Scope} {own : List (Str × Nat)} (hc : X.calm = true) (hN : X.N.Nodup) (hu : X.A.units + 80 < cLine) (hi : PI X tg iter (iRd (tb X fa ca) W evi)) (ok : blkC X.N X.env.scope scope own = true)
    (hg : ∀ Y, Blk X scope Y → PG Y tg (gRd (tb X fa ca) l evg)) (ht : ∀ Y, Blk X scope Y → PTs Y ifs (bRd (tb X fa ca) W0 evt)) (hk : ∀ Y, Blk X scope Y → PE Y kx (eRd (tb X fa ca) W0 evk)) (he : ∀ Y, Blk X scope Y → PE Y vx (eRd (tb X fa ca) W0 evv)) (hl : ∀ i ∈ l, i ∈ own.map (·.2)) (hfs : ∀ x, foldedSetIterable iter X.env x = pure x) :
    PE X (.DictComp kx vx [⟨tg, iter, ifs, 0⟩] scope pos) (eRd (tb X fa ca) W (evDComp mu (own.map (·.2)) evi evg evt evk evv)) :=
  PE.mono (pe_dcN (fa := fa) (ca := ca) hc hN hu hi (blkOk_by ok) hg ht hk he hfs) fun σ H Q h => dc_rd hl h
theorem rs_setDc {mu : Bool} {kx vx : Expr} {ifs : List Expr} {scope : Scope} {own : List (Str × Nat)} {i : Nat} {y : Str} {py spos : Pos} (hc : X.calm = true) (hN : X.N.Nodup) (hu : X.A.units + 80 < cLine) (hy : X.N[i]? = some y) (hyl : X.env.scope.names.lookup y = some .local) (hsw : swapsWith (.DictComp kx vx [⟨tg, iter, ifs, 0⟩] scope pos) (some (.Name y py)) spos.line X.env = pure true)
    (hi : PI X tg iter (iRd (tb X fa ca) W evi)) (ok : blkC X.N X.env.scope scope own = true)
    (hg : ∀ Y, Blk X scope Y → PG Y tg (gRd (tb X fa ca) l evg)) (ht : ∀ Y, Blk X scope Y → PTs Y ifs (bRd (tb X fa ca) W0 evt)) (hk : ∀ Y, Blk X scope Y → PE Y kx (eRd (tb X fa ca) W0 evk)) (he : ∀ Y, Blk X scope Y → PE Y vx (eRd (tb X fa ca) W0 evv)) (hl : ∀ i ∈ l, i ∈ own.map (·.2)) (hfs : ∀ x, foldedSetIterable iter X.env x = pure x) :
    PS X (.Assign [.Name y py] (.DictComp kx vx [⟨tg, iter, ifs, 0⟩] scope pos) spos) (tAsg (eRd (tb X fa ca) W (evDComp mu (own.map (·.2)) evi evg evt evk evv)) (gName i)) := by
  have h := ps_setDc (fa := fa) (ca := ca) (spos := spos) hc hN hu hy hyl hsw hi (blkOk_by ok) hg ht hk he hfs
  exact ⟨fun pins s σ H D I q => h.run pins s σ H D I (dc_rd hl q)⟩
/-! ### keywords -/
theorem PK.mono {kws : List Keyword} {t t' : TA} (h : PK X kws t) (k : ∀ σ H Q, t' σ H Q → t σ H Q) : PK X kws t' := ⟨fun p pins s σ H Q I q => h.run p pins s σ H Q I (k σ H Q q)⟩
theorem rk_nil : PK X [] (aRd (tb X fa ca) W fun _ s => .ok [] s) :=
  PK.mono pk_nil fun σ H Q ⟨F, G, m, s, τ, r, hs, h⟩ => TRg.ok (show TRg (tb X fa ca) W (Rps (tb X fa ca)) σ F G m (.ok [] s) Q from h) r .nil
theorem rk_cons {nm : Option Str} {kpos : Pos} {kws : List Keyword} (ha : PE X a (eRd (tb X fa ca) W eva)) (hr : PK X kws (aRd (tb X fa ca) W evs)) : PK X (⟨nm, a, kpos⟩ :: kws) (aRd (tb X fa ca) W fun τ s => (eva τ s).bind fun d s1 => (evs τ s1).bind fun ds s2 => .ok (d :: ds) s2) := by
  refine PK.mono (pk_cons ha hr) fun σ H Q ⟨F, G, m, s, τ, r, hs, h⟩ => ?_
  exact tRd.bind r hs h fun d1 s1 G1 m1 H1 v1 e1 r1 hs1 rv1 h1 => tRd.bind r1 hs1 h1 fun d2 s2 G2 m2 H2 v2 e2 r2 hs2 rv2 h2 => TRg.ok h2 r2 (.cons (rv1.mono e2) rv2)
end
def permV {α : Type} (as : List α) (perm : List Nat) : Option (List α) := perm.mapM fun i => as[i]?
theorem permV_cons {α : Type} {as : List α} {i : Nat} {perm : List Nat} {bs : List α} (h : permV as (i :: perm) = some bs) : ∃ b r, as[i]? = some b ∧ permV as perm = some r ∧ bs = b :: r := by
  unfold permV at h ⊢
  rw [List.mapM_cons] at h
  cases e : as[i]? with
  | none => rw [e] at h; cases h
  | some b =>
    rw [e] at h
    cases e2 : List.mapM (fun i => as[i]?) perm with
    | none => rw [e2] at h; cases h
    | some r =>
      rw [e2] at h
      cases h
      exact ⟨b, r, rfl, rfl, rfl⟩
theorem perm_rps {T : Tb} {G : Hp} {m : Mm} {ds : List D} {vs : List V} {us : List Value} (rs : Rps T G m ds vs) (rv : Vals vs us) : ∀ {perm : List Nat} {as : List D}, permV ds perm = some as → ∃ xs ws, permV vs perm = some xs ∧ permV us perm = some ws ∧ Rps T G m as xs ∧ Vals xs ws
  | [], as, h => by
    cases h
    exact ⟨[], [], rfl, rfl, .nil, .nil⟩
  | i :: perm, as, h => by
    obtain ⟨d, r, e1, e2, rfl⟩ := permV_cons h
    obtain ⟨xs, ws, p1, p2, p3, p4⟩ := perm_rps rs rv e2
    obtain ⟨v, e3, rd⟩ := rs.get e1
    obtain ⟨u, e4, ru⟩ := rv.get e3
    refine ⟨v :: xs, u :: ws, ?_, ?_, .cons rd p3, .cons ru p4⟩
    · unfold permV at p1 ⊢
      rw [List.mapM_cons, e3, p1]
      rfl
    · unfold permV at p2 ⊢
      rw [List.mapM_cons, e4, p2]
      rfl
/-- how a call by keywords binds -/
def KwB (fd : FuncData) (ps ks : List Str) (perm : List Nat) : Prop := ∀ (s : Shared) (us ws : List Value), us.length = ks.length → permV us perm = some ws → BindsTo s fd ⟨[], ks.zip us⟩ (ps.zip ws)
section
variable {g : Ge} {X : Cx} {W : WX} {n : Nat} {a b e : Expr} {es : List Expr} {pos p : Pos} {evs : Tau → S → Res (List D)}
def kwNames : List Keyword → Option (List Str)
  | [] => some []
  | ⟨some nm, _, _⟩ :: r => (kwNames r).map (nm :: ·)
  | ⟨none, _, _⟩ :: _ => none
theorem kwNames_ok {env : Env} : ∀ {kws : List Keyword} {ks : List Str}, kwNames kws = some ks → (backToKw pos (keywordEach kws env)).all (·.1.isSome) = true ∧ (backToKw pos (keywordEach kws env)).filterMap (·.1) = ks ∧ (backToKw pos (keywordEach kws env)).any (·.1.isNone) = false ∧ ks.length = kws.length
  | [], ks, h => by
    cases h
    exact ⟨rfl, rfl, rfl, rfl⟩
  | ⟨none, _, _⟩ :: _, _, h => by cases h
  | ⟨some nm, v, kp⟩ :: r, ks, h => by
    simp only [kwNames, Option.map_eq_some_iff] at h
    obtain ⟨ks', h1, rfl⟩ := h
    obtain ⟨q1, q2, q3, q4⟩ := kwNames_ok (env := env) h1
    have e : backToKw pos (keywordEach (⟨some nm, v, kp⟩ :: r) env) = (some nm, do let v ← eval v env; standAt pos; pure v) :: backToKw pos (keywordEach r env) := rfl
    rw [e]
    refine ⟨by rw [List.all_cons, q1] <;> rfl, by rw [List.filterMap_cons, q2], by rw [List.any_cons, q3] <;> rfl, by rw [List.length_cons, List.length_cons, q4]⟩
theorem rd_callK (hi : In g X W n) (ok : g.Ok) (all : g.All n) {f : Nat} {x : Str} {kws : List Keyword} {ks : List Str} {perm : List Nat} (hf : (g.tab f).isSome = true) (hx : g.nm f = x) (hg : Gl X x) (hdb : (x == ("__debug__" : Str)) = false) (hks : kwNames kws = some ks) (hb : KwB (g.fd f) (g.ps f) ks perm) (ha : PK X kws (aRd g.T W evs)) :
    PE X (.Call (.Name x p) [] kws pos) (eRd g.T W fun τ s => (evs τ s).bind fun ds s1 => if ds.length = kws.length then (match permD ds perm with
      | some as => callN g.tab g.wf n f as s1
      | none => .stuck) else .stuck) := by
  obtain ⟨e, he⟩ := Option.isSome_iff_exists.mp hf
  obtain ⟨k1, k2, k3⟩ := ok.at_ f e he
  obtain ⟨q1, q2, q3, q4⟩ := kwNames_ok (pos := pos) (env := X.env) hks
  refine ⟨fun pins s σ H Q I h => ?_⟩
  refine wpAny_Call_Name_kw (ld_glob I hg (by rw [hi.mg, ← hx]; exact k1) ?_ hdb)
  refine PySem.W.callWith_KW0 (h₀ := X.base) I.ok.mod.kin (by rw [hi.K]; exact k2) q1 (thn (ha.run pos pins s σ H (fun vs H1 => ∃ F G m st ds, R g.T F G m st H1 ∧ Rps g.T G m ds vs ∧ ds.length = kws.length ∧ TRg g.T W (Rp g.T) σ F G m (match permD ds perm with
      | some as => callN g.tab g.wf n f as st
      | none => .stuck) Q) I (many_rd h fun F G m s ds xs H r rd h => by
        obtain ⟨hl, h⟩ := TRg.ite h
        exact ⟨F, G, m, s, ds, r, rd, hl, h⟩)) fun us s1 ⟨vs, H1, I1, r, F, G, m, st, ds, rr, rs, hl, h⟩ => ⟨I1.kIn, ?_⟩) (by
      show ((backTo pos (starEach [] X.env)).any (·.1) || (backToKw pos (keywordEach kws X.env)).any (·.1.isNone)) = false
      rw [q3]
      rfl)
  rw [q2]
  cases z : permD ds perm with
  | none => rw [z] at h; exact h.elim
  | some as =>
    rw [z] at h
    obtain ⟨xs, ws, p1, p2, p3, p4⟩ := perm_rps rs r z
    refine wpAny_call (codeAny_mono (fn_runs hi ok all (args := ⟨[], ks.zip us⟩) (fun e he hl' => hb s1 us ws (by rw [← r.length, ← rs.length, hl, q4]) p2) I1 p4 rr p3 h) fun r s' hq => ?_)
    cases r with
    | error e => exact hq
    | ok fl => cases fl <;> first | exact hq | exact hq.elim
end
end Mi
set_option Elab.async false
set_option linter.all false
set_option maxRecDepth 100000
set_option maxHeartbeats 400000
/-! Mi21: statements. -/
namespace Mi
open PySem PySem.Spec PyProof.Rows L2
section
variable (T : Tb) (W : WX)
def FlOk (F G : Hp) (m : Mm) (fl : Fl) (D : Ends) : Prop := match fl with
  | .nx τ s => ∀ G' m' H' σ', Ext G m G' m' → R T F G' m' s H' → RpS T G' m' τ σ' → D.nx σ' H'
  | .bk τ s => ∀ G' m' H' σ', Ext G m G' m' → R T F G' m' s H' → RpS T G' m' τ σ' → D.bk σ' H'
  | .ct τ s => ∀ G' m' H' σ', Ext G m G' m' → R T F G' m' s H' → RpS T G' m' τ σ' → D.ct σ' H'
  | .rt d s => ∀ G' m' H' v, Ext G m G' m' → R T F G' m' s H' → Rp T G' m' d v → D.rt v H'
  | .exc x τ s => ∀ G' m' H' dd σ', Ext G m G' m' → R T F G' m' s H' → RpS T G' m' τ σ' → XD T G' m' x dd → W (.ref (T.ca x.c)) dd σ' H'
  | .stuck => False
def sRd (ev : Tau → S → Fl) : TS := fun D σ H => ∃ F G m s τ, R T F G m s H ∧ RpS T G m τ σ ∧ FlOk T W F G m (ev τ s) D
end
theorem PS.mono {X : Cx} {st : Stmt} {t t' : TS} (h : PS X st t) (k : ∀ D σ H, t' D σ H → t D σ H) : PS X st t' := ⟨fun pins s σ H D I q => h.run pins s σ H D I (k D σ H q)⟩
theorem PSs.mono {X : Cx} {st : List Stmt} {t t' : TS} (h : PSs X st t) (k : ∀ D σ H, t' D σ H → t D σ H) : PSs X st t' := ⟨fun pins s σ H D I q => h.run pins s σ H D I (k D σ H q)⟩
section
variable {T : Tb} {W : WX} {F G G1 H : Hp} {m m1 : Mm} {fl : Fl} {D D' : Ends} {σ : L2.St} {s : S} {τ : Tau}
theorem FlOk.mono (x : Ext G m G1 m1) (h : FlOk T W F G m fl D) : FlOk T W F G1 m1 fl D := by
  cases fl with
  | nx τ s => exact fun G' m' H' σ' e => h G' m' H' σ' (x.trans e)
  | bk τ s => exact fun G' m' H' σ' e => h G' m' H' σ' (x.trans e)
  | ct τ s => exact fun G' m' H' σ' e => h G' m' H' σ' (x.trans e)
  | rt d s => exact fun G' m' H' v e => h G' m' H' v (x.trans e)
  | exc y τ s => exact fun G' m' H' dd σ' e => h G' m' H' dd σ' (x.trans e)
  | stuck => exact h
/-- the evaluation ahead of a statement's end -/
theorem FlOk.of {α β : Type} {Rel : Hp → Mm → α → β → Prop} {ev : Tau → S → Res α} {f : α → S → Fl} (r : R T F G m s H) (hs : RpS T G m τ σ) (h : FlOk T W F G m (Fl.of (ev τ s) τ f) D) {Q : β → Hp → Prop}
    (k : ∀ a s1 G1 m1 H1 b, Ext G m G1 m1 → R T F G1 m1 s1 H1 → RpS T G1 m1 τ σ → Rel G1 m1 a b → FlOk T W F G1 m1 (f a s1) D → Q b H1) : tRd T W Rel ev σ H Q := by
  refine ⟨F, G, m, s, τ, r, hs, ?_⟩
  cases e : ev τ s with
  | ok a s1 =>
    rw [e] at h
    exact fun G1 m1 H1 b x r1 rb => k a s1 G1 m1 H1 b x r1 (hs.mono x) rb (FlOk.mono x h)
  | exc y s1 =>
    rw [e] at h
    exact fun G1 m1 H1 dd x r1 xd => h G1 m1 H1 dd σ x r1 (hs.mono x) xd
  | stuck => rw [e] at h; exact h
theorem FlOk.next {g : Tau → S → Fl} (h : FlOk T W F G m (Fl.next fl g) D) : FlOk T W F G m fl { D with nx := fun σ H => ∃ F G m s τ, R T F G m s H ∧ RpS T G m τ σ ∧ FlOk T W F G m (g τ s) D } := by
  cases fl with
  | nx τ s => exact fun G' m' H' σ' x r hs => ⟨F, G', m', s, τ, r, hs, FlOk.mono x h⟩
  | bk τ s => exact h
  | ct τ s => exact h
  | rt d s => exact h
  | exc y τ s => exact h
  | stuck => exact h
end
section
variable {X : Cx} {fa ca : Nat → Addr} {W : WX} {a b e tg iter : Expr} {pos : Pos} {eva evb : Tau → S → Res D} {evi : Tau → S → Res (List D)} {evg : D → Tau → S → Res Tau} {l : List Nat} {st : Stmt} {sts sa sb : List Stmt} {ev evs : Tau → S → Fl}
theorem rss_nil : PSs X [] (sRd (tb X fa ca) W fun τ s => .nx τ s) :=
  PSs.mono pss_nil fun D σ H ⟨F, G, m, s, τ, r, hs, h⟩ => h G m H σ (Ext.refl G m) r hs
theorem rss_cons (h1 : PS X st (sRd (tb X fa ca) W ev)) (h2 : PSs X sts (sRd (tb X fa ca) W evs)) : PSs X (st :: sts) (sRd (tb X fa ca) W fun τ s => Fl.next (ev τ s) evs) :=
  PSs.mono (pss_cons h1 h2) fun D σ H ⟨F, G, m, s, τ, r, hs, h⟩ => ⟨F, G, m, s, τ, r, hs, FlOk.next h⟩
theorem rss_doc {x : Str} {j : Nat} {p p' : Pos} (h2 : PSs X sts (sRd (tb X fa ca) W evs)) : PSs X (.Expr (.Constant (.str x) j p) p' :: sts) (sRd (tb X fa ca) W evs) :=
  PSs.mono (pss_cons ps_doc h2) fun D σ H h => h
/-- a ghost: what the name holds is frozen -/
theorem rss_frz {i : Nat} (h2 : PSs X sts (sRd (tb X fa ca) W evs)) : PSs X sts (sRd (tb X fa ca) W fun τ s => Fl.next (match τ[i]? with
    | some (some d) => match evFrz d s with
      | .ok d1 s1 => .nx (τ.set i (some d1)) s1
      | _ => .stuck
    | _ => .stuck) evs) := by
  refine PSs.mono h2 fun D σ H ⟨F, G, m, s, τ, r, hs, h⟩ => ?_
  cases e : τ[i]? with
  | none => simp only [e] at h; exact h.elim
  | some o =>
    simp only [e] at h
    cases o with
    | none => exact h.elim
    | some d =>
      simp only at h
      obtain ⟨v, e1, rd⟩ := hs.at_ i d e
      have q := frz_ok r rd
      cases e2 : evFrz d s with
      | stuck => simp only [e2] at h; exact h.elim
      | exc y s1 => rw [e2] at q; exact q.elim
      | ok d1 s1 =>
        simp only [e2] at h
        rw [e2] at q
        obtain ⟨G1, x1, r1, rd1⟩ := q
        have hs' : RpS (tb X fa ca) G1 m (τ.set i (some d1)) (σ.set i (some v)) := (hs.mono x1).set i rd1
        have e3 : σ.set i (some v) = σ := by
          apply List.ext_getElem?
          intro j
          by_cases hj : i = j
          · subst hj
            rw [List.getElem?_set_self (List.getElem?_eq_some_iff.mp e1).1, e1]
          · rw [List.getElem?_set_ne hj]
        rw [e3] at hs'
        exact ⟨F, G1, m, s1, _, r1, hs', FlOk.mono x1 h⟩
/-- a store's reading, by a value's reading -/
theorem set_rd {i : Nat} {D : Ends} {σ : L2.St} {H : Hp} (h : sRd (tb X fa ca) W (fun τ s => Fl.of (eva τ s) τ fun d s1 => .nx (τ.set i (some d)) s1) D σ H) : tAsg (eRd (tb X fa ca) W eva) (gName i) D σ H := by
  obtain ⟨F, G, m, s, τ, r, hs, h⟩ := h
  exact FlOk.of r hs h fun d s1 G1 m1 H1 v x r1 hs1 rd h1 => h1 G1 m1 H1 _ (Ext.refl _ _) r1 (hs1.set i rd)
theorem rs_set {i : Nat} {x : Str} {p' : Pos} (hN : X.N.Nodup) (hx : X.N[i]? = some x) (hl : Loc X.env.scope x) (hf : X.fn x = true ∨ X.env.scope.names.lookup x = some .local) (he : PE X e (eRd (tb X fa ca) W eva)) (hsw : swapsWith e (some (.Name x p')) pos.line X.env = pure false) :
    PS X (.Assign [.Name x p'] e pos) (sRd (tb X fa ca) W fun τ s => Fl.of (eva τ s) τ fun d s1 => .nx (τ.set i (some d)) s1) :=
  PS.mono (ps_set hN hx hl he hsw hf) fun D σ H h => set_rd h
theorem rs_asg (he : PE X e (eRd (tb X fa ca) W eva)) (hg : PG X tg (gRd (tb X fa ca) l evg)) (hsw : swapsWithSole [tg] e pos.line X.env = pure false) (hss : swappedStores [tg] e X.env = pure none) (h1 : (assignEach [tg] X.env).map (·.2) = [assign tg X.env])
    (hne : ∀ d τ s, ∀ x s', evg d τ s ≠ .exc x s') : PS X (.Assign [tg] e pos) (sRd (tb X fa ca) W fun τ s => Fl.of (eva τ s) τ fun d s1 => Fl.of (evg d τ s1) τ fun τ1 s2 => .nx τ1 s2) := by
  refine PS.mono (ps_asg he hg hsw hss h1) fun D σ H ⟨F, G, m, s, τ, r, hs, h⟩ => ?_
  refine FlOk.of r hs h fun d s1 G1 m1 H1 v x r1 hs1 rd h2 => ⟨F, G1, m1, s1, τ, d, r1, hs1, rd, ?_⟩
  cases e2 : evg d τ s1 with
  | exc y s2 => exact absurd e2 (hne _ _ _ _ _)
  | stuck => rw [e2] at h2; exact h2.elim
  | ok τ1 s2 =>
    rw [e2] at h2
    exact fun G' m' H' σ' x' r' hs' _ => h2 G' m' H' σ' x' r' hs'
theorem rs_ex (he : PE X e (eRd (tb X fa ca) W eva)) (hsw : swapsWith e none pos.line X.env = pure false) : PS X (.Expr e pos) (sRd (tb X fa ca) W fun τ s => Fl.of (eva τ s) τ fun _ s1 => .nx τ s1) :=
  PS.mono (ps_expr he hsw) fun D σ H ⟨F, G, m, s, τ, r, hs, h⟩ => FlOk.of r hs h fun d s1 G1 m1 H1 v x r1 hs1 rd h1 => h1 G1 m1 H1 σ (Ext.refl _ _) r1 hs1
theorem rs_ret (he : PE X e (eRd (tb X fa ca) W eva)) : PS X (.Return (some e) pos) (sRd (tb X fa ca) W fun τ s => Fl.of (eva τ s) τ fun d s1 => .rt d s1) :=
  PS.mono (ps_ret he) fun D σ H ⟨F, G, m, s, τ, r, hs, h⟩ => FlOk.of r hs h fun d s1 G1 m1 H1 v x r1 hs1 rd h1 => h1 G1 m1 H1 v (Ext.refl _ _) r1 rd
theorem rs_if (hc : PT X a (tbRd (tb X fa ca) W eva)) (h1 : PSs X sa (sRd (tb X fa ca) W ev)) (h2 : PSs X sb (sRd (tb X fa ca) W evs)) : PS X (.If a sa sb pos) (sRd (tb X fa ca) W fun τ s => Fl.of (eva τ s) τ fun d s1 => match d with
    | .bl true => ev τ s1
    | .bl false => evs τ s1
    | _ => .stuck) := by
  refine PS.mono (ps_if hc h1 h2) fun D σ H ⟨F, G, m, s, τ, r, hs, h⟩ => ?_
  refine ⟨F, G, m, s, τ, r, hs, ?_⟩
  have h : FlOk (tb X fa ca) W F G m (Fl.of (eva τ s) τ fun d s1 => match d with
    | .bl true => ev τ s1
    | .bl false => evs τ s1
    | _ => .stuck) D := h
  show TRg (tb X fa ca) W (fun _ _ (a b : Bool) => a = b) σ F G m ((eva τ s).bind asB) _
  cases e : eva τ s with
  | stuck => rw [e] at h; exact h.elim
  | exc y s1 => rw [e] at h; exact fun G1 m1 H1 dd x r1 xd => h G1 m1 H1 dd σ x r1 (hs.mono x) xd
  | ok d s1 =>
    rw [e] at h
    cases d with
    | bl q =>
      show TRg (tb X fa ca) W (fun _ _ (a b : Bool) => a = b) σ F G m (.ok q s1) _
      rintro G' m' H' b' x r' rfl
      cases q with
      | true => rw [if_pos rfl]; exact ⟨F, G', m', s1, τ, r', hs.mono x, FlOk.mono x h⟩
      | false => rw [if_neg Bool.false_ne_true]; exact ⟨F, G', m', s1, τ, r', hs.mono x, FlOk.mono x h⟩
    | _ => exact (show False from h).elim
theorem rs_brk : PS X (.Break pos) (sRd (tb X fa ca) W fun τ s => .bk τ s) :=
  PS.mono ps_break fun D σ H ⟨F, G, m, s, τ, r, hs, h⟩ => h G m H σ (Ext.refl _ _) r hs
theorem rs_cnt : PS X (.Continue pos) (sRd (tb X fa ca) W fun τ s => .ct τ s) :=
  PS.mono ps_continue fun D σ H ⟨F, G, m, s, τ, r, hs, h⟩ => h G m H σ (Ext.refl _ _) r hs
theorem rs_pas : PS X (.Pass pos) (sRd (tb X fa ca) W fun τ s => .nx τ s) :=
  PS.mono ps_pass fun D σ H ⟨F, G, m, s, τ, r, hs, h⟩ => h G m H σ (Ext.refl _ _) r hs
theorem rs_never : PS X st (sRd (tb X fa ca) W fun _ _ => .stuck) :=
  PS.mono ps_never fun D σ H ⟨F, G, m, s, τ, r, hs, h⟩ => h.elim
def tGetN (K : PySem.W.Frag) : V → V → Hp → VK → Prop := fun o i H Q => ∃ p xs k z, o = V.ref p ∧ i = V.int k ∧ (0 ≤ k ∧ k < 2 ^ 63) ∧ SqL K H p xs ∧ xs[k.toNat]? = some z ∧ Q z H
theorem pget_n : PGet X (tGetN X.K) := by
  intro pins s σ H o i ov iv Q I ro ri h
  obtain ⟨p, xs, k, z, rfl, rfl, hk, hq, he, q⟩ := h
  cases ro
  obtain ⟨t, rfl⟩ := ri
  obtain ⟨its, r, pl, hz⟩ := I.list hq
  obtain ⟨w, ew, rw'⟩ := r.get he
  exact wpAny_getItem_list pl.isList hk.1 hk.2 (by simpa using ew) ⟨z, H, I, rw', q⟩
theorem augGet_ok {x y : Mi.D} {s : S} {n : Int} (h : augGet x y s = some n) : ∃ k ds, y = .int k ∧ (0 ≤ k ∧ k < 2 ^ 63) ∧ s.items x = some ds ∧ ds[k.toNat]? = some (.int n) := by
  unfold augGet at h
  cases y with
  | int k =>
    simp only at h
    by_cases hk : 0 ≤ k ∧ k < 2 ^ 63
    · rw [if_pos hk] at h
      cases q : s.items x with
      | none => rw [q] at h; cases h
      | some ds =>
        rw [q] at h
        simp only at h
        cases q2 : ds[k.toNat]? with
        | none => rw [q2] at h; cases h
        | some d =>
          rw [q2] at h
          cases d with
          | int m => cases h; exact ⟨k, ds, rfl, hk, rfl, q2⟩
          | _ => cases h
    · rw [if_neg hk] at h; cases h
  | _ => cases h
theorem rs_augS (o : Bo) (ho : o = .add ∨ o = .sub) (hu : X.A.units + 80 < cLine) {tpos : Pos} (hp : plainIx b = true) (ha : PE X a (eRd (tb X fa ca) W eva)) (hb : PE X b (eRd (tb X fa ca) W evb)) (he : PE X e (eRd (tb X fa ca) W evd)) :
    PS X (.AugAssign (.Subscript a b tpos) (opBo o) e pos) (sRd (tb X fa ca) W fun τ s => Fl.of (eva τ s) τ fun x s1 => Fl.of (evb τ s1) τ fun y s2 => match augGet x y s2 with
      | some n => Fl.of (evd τ s2) τ (augPut o x y n τ)
      | none => .stuck) := by
  have hip : ∃ f : Int → Int → Int, PIp X (opBo o) (ipI f) ∧ ∀ n m, augZ o n m = some (f n m) := by
    rcases ho with rfl | rfl
    · exact ⟨_, ip_add, fun _ _ => rfl⟩
    · exact ⟨_, ip_sub, fun _ _ => rfl⟩
  obtain ⟨f, hf, hz⟩ := hip
  refine PS.mono (ps_augS ha hb pget_n he hf (set_all (fa := fa) (ca := ca) hu) (by intros; cases b <;> first | rfl | (simp [plainIx] at hp))) fun Dd σ H ⟨F, G, m, s, τ, r, hs, h⟩ => ?_
  refine FlOk.of r hs h fun x s1 G1 m1 H1 v x1 r1 hs1 rx h1 => ?_
  refine FlOk.of r1 hs1 h1 fun y s2 G2 m2 H2 v2 x2 r2 hs2 ry h2 => ?_
  cases q : augGet x y s2 with
  | none => rw [q] at h2; exact h2.elim
  | some n =>
    rw [q] at h2
    obtain ⟨k, ds, rfl, hk, hit, hat⟩ := augGet_ok q
    obtain ⟨p, vs, rfl, hH, hr⟩ := r2.items hit (rx.mono x2)
    cases ry
    obtain ⟨z, ez, rz⟩ := hr.get hat
    cases rz
    refine ⟨p, vs, k, .int n, rfl, rfl, hk, SqL.of hH, ez, ?_⟩
    refine FlOk.of r2 hs2 h2 fun d s3 G3 m3 H3 v3 x3 r3 hs3 rd h3 => ?_
    cases rd with
    | int j =>
      have h3 : FlOk (tb X fa ca) W F G3 m3 (match augZ o n j with
        | some z => match setIx x (.int k) (.int z) s3 with
          | some s1 => .nx τ s1
          | none => .stuck
        | none => .stuck) Dd := h3
      rw [hz] at h3
      simp only at h3
      refine ⟨n, j, rfl, rfl, ?_⟩
      cases e3 : setIx x (.int k) (.int (f n j)) s3 with
      | none => rw [e3] at h3; exact h3.elim
      | some s4 =>
        rw [e3] at h3
        exact ⟨F, G3, m3, s3, x, .int k, .int (f n j), s4, r3, (rx.mono x2).mono x3, .int k, .int _, e3, fun G' m' H' x' r' => h3 G' m' H' σ x' r' (hs3.mono x')⟩
    | _ => exact (show False from h3).elim
theorem rs_aug {i : Nat} {x : Str} {p' : Pos} (o : Bo) (ho : o = .add ∨ o = .sub) (hN : X.N.Nodup) (hx : X.N[i]? = some x) (hl : Loc X.env.scope x) (hf : X.fn x = true ∨ X.env.scope.names.lookup x = some .local) (he : PE X e (eRd (tb X fa ca) W eva)) :
    PS X (.AugAssign (.Name x p') (opBo o) e pos) (sRd (tb X fa ca) W fun τ s => match τ[i]? with
    | some (some (.int n)) => Fl.of (eva τ s) τ (augF o n i τ)
    | _ => .stuck) := by
  have hip : ∃ ti : TIp, PIp X (opBo o) ti ∧ ∀ (n : Int) (d : Mi.D) (τ : Tau) (s1 : S) (F G1 H1 : Hp) (m1 : Mm) (σ : L2.St) (Dd : Ends) (v : V), R (tb X fa ca) F G1 m1 s1 H1 → RpS (tb X fa ca) G1 m1 τ σ → Rp (tb X fa ca) G1 m1 d v → FlOk (tb X fa ca) W F G1 m1 (augF o n i τ d s1) Dd → ti (.int n) v H1 fun z H2 => Dd.nx (σ.set i (some z)) H2 := by
    rcases ho with rfl | rfl
    · refine ⟨_, ip_add, fun n d τ s1 F G1 H1 m1 σ Dd v r hs rd h => ?_⟩
      cases rd with
      | int k => exact ⟨n, k, rfl, rfl, h G1 m1 H1 _ (Ext.refl _ _) r (hs.set i (.int _))⟩
      | _ => exact (show False from h).elim
    · refine ⟨_, ip_sub, fun n d τ s1 F G1 H1 m1 σ Dd v r hs rd h => ?_⟩
      cases rd with
      | int k => exact ⟨n, k, rfl, rfl, h G1 m1 H1 _ (Ext.refl _ _) r (hs.set i (.int _))⟩
      | _ => exact (show False from h).elim
  obtain ⟨ti, hti, core⟩ := hip
  refine PS.mono (ps_aug hN hx hl he hti hf) fun Dd σ H ⟨F, G, m, s, τ, r, hs, h⟩ => ?_
  cases e1 : τ[i]? with
  | none => simp only [e1] at h; exact h.elim
  | some q =>
    simp only [e1] at h
    cases q with
    | none => exact h.elim
    | some d =>
      cases d with
      | int n =>
        obtain ⟨v, e2, rv⟩ := hs.at_ i _ e1
        cases rv
        exact ⟨_, e2, FlOk.of r hs h fun d s1 G1 m1 H1 v x r1 hs1 rd h1 => core n d τ s1 F G1 H1 m1 σ Dd v r1 hs1 rd h1⟩
      | _ => exact h.elim
/-! ### loops -/
theorem rs_for (hp : PassesOwn (model X.prog X.w) X.A X.env X.xe) (hc : X.calm = true) (hi : PI X tg iter (iRd (tb X fa ca) W evi)) (hg : PG X tg (gRd (tb X fa ca) l evg)) (hb : PSs X sts (sRd (tb X fa ca) W ev)) (hfs : ∀ x, foldedSetIterable iter X.env x = pure x)
    (hne : ∀ d τ s, ∀ x s', evg d τ s ≠ .exc x s') : PS X (.For tg iter sts [] pos) (sRd (tb X fa ca) W fun τ s => Fl.of (evi τ s) τ fun ds s1 => loopF evg ev ds τ s1) := by
  refine PS.mono (ps_for hp hc hi hg hb hfs) fun D σ H ⟨F, G, m, s, τ, r, hs, h⟩ => ?_
  refine FlOk.of r hs h fun ds s1 G1 m1 H1 J x r1 hs1 jo h1 => ?_
  refine ⟨fun i k σ H => k = ds.length - i ∧ i ≤ ds.length ∧ ∃ G m s τ, Ext G1 m1 G m ∧ R (tb X fa ca) F G m s H ∧ RpS (tb X fa ca) G m τ σ ∧ FlOk (tb X fa ca) W F G m (loopF evg ev (ds.drop i) τ s) D, ⟨ds.length, by simp, Nat.zero_le _, G1, m1, s1, τ, Ext.refl _ _, r1, hs1, h1⟩, ?_⟩
  rintro i k σ H ⟨rfl, hi', G, m, s, τ, x, r, hs, h⟩
  obtain ⟨stop, go⟩ := jo i F G m s H x r
  by_cases hlt : i < ds.length
  · right
    obtain ⟨g1, g2⟩ := go _ (List.getElem?_eq_getElem hlt)
    rw [List.drop_eq_getElem_cons hlt] at h
    refine ⟨g1, fun σ H => ∃ G m s τ, Ext G1 m1 G m ∧ R (tb X fa ca) F G m s H ∧ RpS (tb X fa ca) G m τ σ ∧ FlOk (tb X fa ca) W F G m (loopF evg ev (ds.drop (i + 1)) τ s) D, fun σ' H' q => ⟨ds.length - (i + 1), by omega, rfl, hlt, q⟩, fun v H' hy => ?_⟩
    obtain ⟨G', x', r', rv⟩ := g2 v H' hy
    refine ⟨F, G', m, s, τ, ds[i], r', hs.mono x', rv, ?_⟩
    simp only [loopF] at h
    cases e1 : evg ds[i] τ s with
    | exc y s2 => exact absurd e1 (hne _ _ _ _ _)
    | stuck => rw [e1] at h; exact h.elim
    | ok τ1 s2 =>
      rw [e1] at h
      simp only at h
      intro G2 m2 H2 σ2 x2 r2 hs2 _
      refine ⟨F, G2, m2, s2, τ1, r2, hs2, ?_⟩
      have h := FlOk.mono (x'.trans x2) h
      have xx := x.trans (x'.trans x2)
      cases e2 : ev τ1 s2 with
      | nx τ2 s3 => rw [e2] at h; exact fun G3 m3 H3 σ3 x3 r3 hs3 => ⟨G3, m3, s3, τ2, xx.trans x3, r3, hs3, FlOk.mono x3 h⟩
      | ct τ2 s3 => rw [e2] at h; exact fun G3 m3 H3 σ3 x3 r3 hs3 => ⟨G3, m3, s3, τ2, xx.trans x3, r3, hs3, FlOk.mono x3 h⟩
      | bk τ2 s3 => rw [e2] at h; exact h
      | rt d s3 => rw [e2] at h; exact h
      | exc y τ2 s3 => rw [e2] at h; exact h
      | stuck => rw [e2] at h; exact h
  · left
    have hi2 : i = ds.length := by omega
    refine ⟨stop hi2, ?_⟩
    rw [hi2, List.drop_length] at h
    exact h G m H σ (Ext.refl _ _) r hs
theorem rs_whl {wf : Nat} (hp : PassesOwn (model X.prog X.w) X.A X.env X.xe) (hc : PT X a (tbRd (tb X fa ca) W eva)) (hb : PSs X sts (sRd (tb X fa ca) W ev)) : PS X (.While a sts [] pos) (sRd (tb X fa ca) W fun τ s => loopW eva ev wf τ s) := by
  refine PS.mono (ps_while hp hc hb) fun D σ H ⟨F, G, m, s, τ, r, hs, h⟩ => ?_
  refine ⟨fun k σ H => ∃ G m s τ, R (tb X fa ca) F G m s H ∧ RpS (tb X fa ca) G m τ σ ∧ FlOk (tb X fa ca) W F G m (loopW eva ev k τ s) D, ⟨wf, G, m, s, τ, r, hs, h⟩, ?_⟩
  rintro k σ H ⟨G, m, s, τ, r, hs, h⟩
  cases k with
  | zero => exact h.elim
  | succ k =>
    simp only [loopW] at h
    refine ⟨F, G, m, s, τ, r, hs, ?_⟩
    show TRg (tb X fa ca) W (fun _ _ (a b : Bool) => a = b) σ F G m ((eva τ s).bind asB) _
    cases e : eva τ s with
    | stuck => rw [e] at h; exact h.elim
    | exc y s1 => rw [e] at h; exact fun G1 m1 H1 dd x r1 xd => h G1 m1 H1 dd σ x r1 (hs.mono x) xd
    | ok d s1 =>
      rw [e] at h
      cases d with
      | bl q =>
        show TRg (tb X fa ca) W (fun _ _ (a b : Bool) => a = b) σ F G m (.ok q s1) _
        rintro G' m' H' b' x r' rfl
        cases q with
        | false =>
          rw [if_neg Bool.false_ne_true]
          exact h G' m' H' σ x r' (hs.mono x)
        | true =>
          rw [if_pos rfl]
          refine ⟨fun σ H => ∃ G m s τ, R (tb X fa ca) F G m s H ∧ RpS (tb X fa ca) G m τ σ ∧ FlOk (tb X fa ca) W F G m (loopW eva ev k τ s) D, fun σ' H' q => ⟨k, Nat.lt_succ_self k, q⟩, F, G', m', s1, τ, r', hs.mono x, ?_⟩
          simp only at h
          have h := FlOk.mono x h
          cases e2 : ev τ s1 with
          | nx τ2 s3 => rw [e2] at h; exact fun G3 m3 H3 σ3 x3 r3 hs3 => ⟨G3, m3, s3, τ2, r3, hs3, FlOk.mono x3 h⟩
          | ct τ2 s3 => rw [e2] at h; exact fun G3 m3 H3 σ3 x3 r3 hs3 => ⟨G3, m3, s3, τ2, r3, hs3, FlOk.mono x3 h⟩
          | bk τ2 s3 => rw [e2] at h; exact h
          | rt d s3 => rw [e2] at h; exact h
          | exc y τ2 s3 => rw [e2] at h; exact h
          | stuck => rw [e2] at h; exact h
      | _ => exact (show False from h).elim
theorem rs_par {i j : Nat} {x y : Str} {px py pt : Pos} {kt k2 : Nat} {pt2 : Pos} (hc : X.calm = true) (hN : X.N.Nodup) (hx : X.N[i]? = some x) (hy : X.N[j]? = some y) (hij : i ≠ j) (hlx : X.env.scope.names.lookup x = some .local) (hly : X.env.scope.names.lookup y = some .local)
    (ha : PE X a (eRd (tb X fa ca) W eva)) (hb : PE X b (eRd (tb X fa ca) W evb)) (hst : notStar a = true) (hst2 : notStar b = true) (hw : swappedStores [.Tuple [.Name x px, .Name y py] kt pt] (.Tuple [a, b] k2 pt2) X.env = pure (some [x, y])) :
    PS X (.Assign [.Tuple [.Name x px, .Name y py] kt pt] (.Tuple [a, b] k2 pt2) pos) (sRd (tb X fa ca) W fun τ s => Fl.of (eva τ s) τ fun x s1 => Fl.of (evb τ s1) τ fun y s2 => .nx ((τ.set i (some x)).set j (some y)) s2) := by
  refine PS.mono (ps_par hc hN hx hy hij hlx hly (pa_cons ha (pa_cons hb pa_nil (star_cons hst2)) (star_cons hst)) hw rfl) fun D σ H ⟨F, G, m, s, τ, r, hs, h⟩ => ?_
  refine FlOk.of r hs h fun d s1 G1 m1 H1 v x r1 hs1 rd h1 => ?_
  exact FlOk.of r1 hs1 h1 fun d2 s2 G2 m2 H2 v2 x2 r2 hs2 rd2 h2 => ⟨v, v2, rfl, h2 G2 m2 H2 _ (Ext.refl _ _) r2 ((hs2.set i (rd.mono x2)).set j rd2)⟩
theorem rs_par3 {c : Expr} {i j l : Nat} {x y z : Str} {px py pz pt : Pos} {kt k2 : Nat} {pt2 : Pos} {evc : Tau → S → Res D} (hc : X.calm = true) (hN : X.N.Nodup) (hx : X.N[i]? = some x) (hy : X.N[j]? = some y) (hz : X.N[l]? = some z) (hij : i ≠ j) (hil : i ≠ l) (hjl : j ≠ l) (hlx : X.env.scope.names.lookup x = some .local) (hly : X.env.scope.names.lookup y = some .local) (hlz : X.env.scope.names.lookup z = some .local)
    (ha : PE X a (eRd (tb X fa ca) W eva)) (hb : PE X b (eRd (tb X fa ca) W evb)) (hcc : PE X c (eRd (tb X fa ca) W evc)) (hst : notStar a = true) (hst2 : notStar b = true) (hst3 : notStar c = true) (hw : swappedStores [.Tuple [.Name x px, .Name y py, .Name z pz] kt pt] (.Tuple [a, b, c] k2 pt2) X.env = pure (some [x, y, z])) :
    PS X (.Assign [.Tuple [.Name x px, .Name y py, .Name z pz] kt pt] (.Tuple [a, b, c] k2 pt2) pos) (sRd (tb X fa ca) W fun τ s => Fl.of (eva τ s) τ fun x s1 => Fl.of (evb τ s1) τ fun y s2 => Fl.of (evc τ s2) τ fun z s3 => .nx (((τ.set i (some x)).set j (some y)).set l (some z)) s3) := by
  refine PS.mono (ps_par3 hc hN hx hy hz hij hil hjl hlx hly hlz (pa_cons ha (pa_cons hb (pa_cons hcc pa_nil (star_cons hst3)) (star_cons hst2)) (star_cons hst)) hw rfl) fun D σ H ⟨F, G, m, s, τ, r, hs, h⟩ => ?_
  refine FlOk.of r hs h fun d s1 G1 m1 H1 v x r1 hs1 rd h1 => ?_
  refine FlOk.of r1 hs1 h1 fun d2 s2 G2 m2 H2 v2 x2 r2 hs2 rd2 h2 => ?_
  exact FlOk.of r2 hs2 h2 fun d3 s3 G3 m3 H3 v3 x3 r3 hs3 rd3 h3 => ⟨v, v2, v3, rfl, h3 G3 m3 H3 _ (Ext.refl _ _) r3 (((hs3.set i ((rd.mono x2).mono x3)).set j (rd2.mono x3)).set l rd3)⟩
end
end Mi
set_option Elab.async false
set_option linter.all false
set_option maxRecDepth 100000
set_option maxHeartbeats 400000
/-! Mi22: the check that a def's text is what the small language says. -/
namespace Mi
open PySem PySem.Spec PyProof.Rows L2
/-- names of the program -/
structure Gk where
  nm : Nat → Str
  has : Nat → Bool
  free : Str → Bool
  con : Str → Option D
  kw : List (Nat × List Str × List Nat)
/-- names of a block -/
structure Kc where
  N : List Str
  sc : Scope
  fn : Str → Bool
def Kc.blk (k : Kc) (scope : Scope) : Kc := ⟨k.N, relS scope k.sc, fun x => scope.names.lookup x == some .cell⟩
def plainN (x : Str) : Bool := !(x == ("__debug__" : Str)) && !(x == ("__classdict__" : Str))
def Kc.vis (k : Kc) (x : Str) : Bool := match k.sc.names.lookup x with
  | some .local => true
  | some .cell => true
  | some .free => true
  | _ => false
def Kc.glb (k : Kc) (x : Str) : Bool := match k.sc.names.lookup x with
  | some .globalImplicit => true
  | _ => false
def Kc.slot (k : Kc) (i : Nat) (x : Str) : Bool := decide (k.N[i]? = some x) && k.vis x && plainN x
def Kc.loc (k : Kc) (x : Str) : Bool := match k.sc.names.lookup x with
  | some .local => true
  | _ => false
def Kc.st (k : Kc) (i : Nat) (x : Str) : Bool := decide (k.N[i]? = some x) && (k.loc x || (match k.sc.names.lookup x with | some .cell => k.fn x | _ => false))
def nameB : Bi → Str
  | .len => "len"
  | .all => "all"
  | .any => "any"
  | .min2 => "min"
  | .max2 => "max"
  | .sum => "sum"
  | .abs => "abs"
  | .int => "int"
  | .tuple => "tuple"
  | .list => "list"
  | .sorted => "sorted"
  | .repr => "repr"
  | .str => "str"
  | .divmod => "divmod"
def okC (G : Gk) (k : Kc) : D → Expr → Bool
  | .non, .Constant .none _ _ => true
  | .bl b, .Constant (.bool c) _ _ => b == c
  | .int i, .Constant (.int j) _ _ => decide (i = j)
  | .str x, .Constant (.str y) _ _ => decide (x = y)
  | .fn f, .Name x _ => G.has f && decide (G.nm f = x) && k.glb x && plainN x
  | .int i, .Name x _ => (match G.con x with | some (.int j) => decide (i = j) | _ => false) && k.glb x && plainN x
  | .str i, .Name x _ => (match G.con x with | some (.str j) => decide (i = j) | _ => false) && k.glb x && plainN x
  | _, _ => false
def isOp (o : Bo) : Operator → Bool
  | .Add => (match o with | .add => true | _ => false)
  | .Sub => (match o with | .sub => true | _ => false)
  | .Mult => (match o with | .mul => true | _ => false)
  | .FloorDiv => (match o with | .fdiv => true | _ => false)
  | .Mod => (match o with | .mod => true | _ => false)
  | .Pow => (match o with | .pow => true | _ => false)
  | _ => false
def isCo (o : Co) : CmpOp → Bool
  | .Eq => (match o with | .eq => true | _ => false)
  | .NotEq => (match o with | .ne => true | _ => false)
  | .Lt => (match o with | .lt => true | _ => false)
  | .LtE => (match o with | .le => true | _ => false)
  | .Gt => (match o with | .gt => true | _ => false)
  | .GtE => (match o with | .ge => true | _ => false)
  | .In => (match o with | .isin => true | _ => false)
  | .NotIn => (match o with | .notin => true | _ => false)
  | .Is => (match o with | .is => true | _ => false)
  | .IsNot => (match o with | .isnt => true | _ => false)
theorem isOp_ok {o : Bo} {op : Operator} (h : isOp o op = true) : op = opBo o := by
  cases op <;> cases o <;> first | rfl | cases h
theorem isCo_ok {o : Co} {op : CmpOp} (h : isCo o op = true) : op = opCo o := by
  cases op <;> cases o <;> first | rfl | cases h
/-- a test of a form that its value tells -/
def plainT : Expr → Bool
  | .UnaryOp .Not _ _ => false
  | .BoolOp _ _ _ => false
  | .IfExp _ _ _ _ => false
  | .Compare _ _ _ _ => false
  | _ => true
theorem plainT_ok {e : Expr} {env : Env} (h : plainT e = true) : ∀ whole, isTrue e env whole = (do let v ← whole; standAt e.pos; holding [v] (truthy v)) := by
  intro whole
  cases e with
  | UnaryOp op x p => cases op <;> first | rfl | cases h
  | BoolOp _ _ _ => cases h
  | IfExp _ _ _ _ => cases h
  | Compare _ _ _ _ => cases h
  | _ => rfl
def okTst : ME → Expr → Bool
  | .no _, .UnaryOp .Not _ _ => true
  | .and _ _, .BoolOp _ _ _ => true
  | .or _ _, .BoolOp _ _ _ => true
  | .cmp _ _ _, .Compare _ _ _ _ => true
  | .chain _ _ _ _ _, .Compare _ _ _ _ => true
  | _, x => plainT x
def isAnd : ME → Bool
  | .and _ _ => true
  | _ => false
def isOr : ME → Bool
  | .or _ _ => true
  | _ => false
def one1 : Expr → Bool
  | .Constant (.int i) _ _ => decide (i = 1)
  | _ => false
def ownP (N : List Str) (own : List Nat) : List (Str × Nat) := own.map fun i => ((N[i]?).getD "", i)
theorem ownP_ix (N : List Str) (own : List Nat) : (ownP N own).map (·.2) = own := by
  unfold ownP
  rw [List.map_map]
  exact List.map_id _
mutual
def gIx : MG → List Nat
  | .nm i => [i]
  | .tp gs => gsIx gs
  | .sub _ _ => []
def gsIx : MGs → List Nat
  | .nil => []
  | .cons g r => gIx g ++ gsIx r
end
/-- leaves the state as it is -/
def pureE : ME → Bool
  | .slot _ => true
  | .cst _ => true
  | .cmp _ a b => pureE a && pureE b
  | .no a => pureE a
  | .and a b => pureE a && pureE b
  | .or a b => pureE a && pureE b
  | _ => false
def pureO : MO → Bool
  | .no => true
  | .so e => pureE e
mutual
def pureG : MG → Bool
  | .nm _ => true
  | .tp gs => pureGs gs
  | .sub _ _ => false
def pureGs : MGs → Bool
  | .nil => true
  | .cons g r => pureG g && pureGs r
end
def isLv : MI → Bool
  | .lv _ => true
  | .lve _ => true
  | _ => false
def isTupE : Expr → Bool
  | .Tuple _ _ _ => true
  | _ => false
mutual
def okE (G : Gk) (k : Kc) : ME → Expr → Bool
  | .slot i, x => match x with
    | .Name n _ => k.slot i n
    | _ => false
  | .cst d, x => okC G k d x
  | .frz e, x => okE G k e x
  | .bin o a b, x => match x with
    | .BinOp l op r _ => isOp o op && okE G k a l && okE G k b r
    | _ => false
  | .binc o a b, x => match x with
    | .BinOp l op r _ => isOp o op && okE G k a l && okE G k b r
    | _ => false
  | .neg a, x => match x with
    | .UnaryOp .USub y _ => okE G k a y
    | _ => false
  | .cmp o a b, x => match x with
    | .Compare l [op] [r] _ => isCo o op && okE G k a l && okE G k b r && !behindInMarks op r
    | _ => false
  | .chain o p a b d, x => match x with
    | .Compare l [op, op'] [r, t] _ => isCo o op && isCo p op' && okE G k a l && okE G k b r && okE G k d t && !lastMarks [op, op'] [r, t]
    | _ => false
  | .no a, x => match x with
    | .UnaryOp .Not y _ => okE G k a y && okTst a y
    | _ => false
  | .and a b, x => match x with
    | .BoolOp .And (l :: r :: rest) q => okE G k a l && okTst a l && (match rest with
      | [] => okE G k b r && okTst b r
      | _ => isAnd b && okE G k b (.BoolOp .And (r :: rest) q))
    | _ => false
  | .or a b, x => match x with
    | .BoolOp .Or (l :: r :: rest) q => okE G k a l && okTst a l && (match rest with
      | [] => okE G k b r && okTst b r
      | _ => isOr b && okE G k b (.BoolOp .Or (r :: rest) q))
    | _ => false
  | .ife t a b, x => match x with
    | .IfExp c l r _ => okE G k t c && okTst t c && okE G k a l && okE G k b r
    | _ => false
  | .tup es, x => match x with
    | .Tuple xs _ _ => okEs G k es xs
    | _ => false
  | .lst es, x => match x with
    | .List xs _ => okEs G k es xs
    | _ => false
  | .cell es, x => match x with
    | .List xs _ => okEs G k es xs
    | _ => false
  | .dic0, x => match x with
    | .Dict [] [] _ => true
    | _ => false
  | .ix a b, x => match x with
    | .Subscript l r _ => okE G k a l && okE G k b r && plainIx r
    | _ => false
  | .sl a lo hi, x => match x with
    | .Subscript l (.Slice p q none _) _ => okE G k a l && okO G k lo p && okO G k hi q
    | _ => false
  | .rev a, x => match x with
    | .Subscript l (.Slice none none (some (.UnaryOp .USub o _)) _) _ => okE G k a l && one1 o
    | _ => false
  | .isi a ts, x => match x with
    | .Call (.Name f _) [l, t] [] _ => decide (f = "isinstance") && k.glb f && G.free f && notStar l && okE G k a l && (match t with
      | .Name n _ => (match ts with
        | [u] => decide (n = tyName u) && decide (u ≠ .non) && G.free n && k.glb n
        | _ => false)
      | .Tuple xs _ _ => tyNames G.free k.sc ts xs && decide (ts.length < 10)
      | _ => false)
    | _ => false
  | .call f es, x => match x with
    | .Call (.Name n _) (y :: ys) [] _ => G.has f && decide (G.nm f = n) && k.glb n && plainN n && notStars (y :: ys) && okEs G k es (y :: ys)
    | _ => false
  | .callK f es perm, x => match x with
    | .Call (.Name n _) [] kws _ => G.has f && decide (G.nm f = n) && k.glb n && plainN n && okKs G k es kws && decide (lenMEs es = kws.length) && (match kwNames kws with
      | some ks => decide ((f, ks, perm) ∈ G.kw)
      | none => false)
    | _ => false
  | .lcall i es, x => match x with
    | .Call (.Name n _) (y :: ys) [] _ => k.slot i n && notStars (y :: ys) && okEs G k es (y :: ys)
    | _ => false
  | .bi b es, x => match x with
    | .Call (.Name n _) (y :: ys) [] _ => decide (n = nameB b) && k.glb n && G.free n && notStars (y :: ys) && okEs G k es (y :: ys)
    | _ => false
  | .dget a b, x => match x with
    | .Call (.Attribute o n ap) [y] [] cp => decide (n = ("get" : Str)) && okE G k a o && okE G k b y && notStar y && (ap.endLine == cp.line) && notCall o
    | _ => false
  | .mt m a es, x => match x with
    | .Call (.Attribute o n ap) [y] [] cp => decide (n = nameM m) && decide (m ≠ .get) && okE G k a o && okEs G k es [y] && notStar y && (ap.endLine == cp.line) && notCall o
    | _ => false
  | .comp mu g src t e own, x => match x with
    | .ListComp elt [⟨tg, iter, ifs, 0⟩] scope _ => (if isLv src then okL G k src tg iter && pureG g && pureO t && pureE e else okI G k src tg iter) && blkC k.N k.sc scope (ownP k.N own) && okG G (k.blk scope) g tg && okT G (k.blk scope) t ifs && okE G (k.blk scope) e elt && (gIx g).all (fun i => decide (i ∈ own)) && notSet iter
    | _ => false
  | .dcomp mu g src t kd vd own, x => match x with
    | .DictComp kx vx [⟨tg, iter, ifs, 0⟩] scope _ => okI G k src tg iter && blkC k.N k.sc scope (ownP k.N own) && okG G (k.blk scope) g tg && okT G (k.blk scope) t ifs && okE G (k.blk scope) kd kx && okE G (k.blk scope) vd vx && (gIx g).all (fun i => decide (i ∈ own)) && notSet iter
    | _ => false
def okEs (G : Gk) (k : Kc) : MEs → List Expr → Bool
  | .nil, xs => match xs with
    | [] => true
    | _ => false
  | .cons e r, xs => match xs with
    | x :: ys => okE G k e x && notStar x && okEs G k r ys
    | _ => false
def okKs (G : Gk) (k : Kc) : MEs → List Keyword → Bool
  | .nil, xs => match xs with
    | [] => true
    | _ => false
  | .cons e r, xs => match xs with
    | ⟨_, x, _⟩ :: ys => okE G k e x && okKs G k r ys
    | _ => false
def okO (G : Gk) (k : Kc) : MO → Option Expr → Bool
  | .no, x => match x with
    | none => true
    | _ => false
  | .so e, x => match x with
    | some y => okE G k e y
    | _ => false
def okT (G : Gk) (k : Kc) : MO → List Expr → Bool
  | .no, x => match x with
    | [] => true
    | _ => false
  | .so e, x => match x with
    | [y] => okE G k e y && okTst e y
    | _ => false
def okG (G : Gk) (k : Kc) : MG → Expr → Bool
  | .nm i, x => match x with
    | .Name n _ => k.st i n
    | _ => false
  | .tp gs, x => match x with
    | .Tuple xs _ _ => notStars xs && okGs G k gs xs
    | _ => false
  | .sub a b, x => match x with
    | .Subscript l r _ => okE G k a l && okE G k b r && plainIx r
    | _ => false
def okGs (G : Gk) (k : Kc) : MGs → List Expr → Bool
  | .nil, xs => match xs with
    | [] => true
    | _ => false
  | .cons g r, xs => match xs with
    | x :: ys => okG G k g x && notStar x && okGs G k r ys
    | _ => false
def okL (G : Gk) (k : Kc) : MI → Expr → Expr → Bool
  | .lv e, _, x => okE G k e x
  | .lve e, tg, x => match x with
    | .Call (.Name f _) [l] [] _ => isTupE tg && decide (f = "enumerate") && k.glb f && G.free f && notStar l && okE G k e l
    | _ => false
  | .it _, _, _ => false
  | .rng _, _, _ => false
  | .rng2 _ _, _, _ => false
  | .zip2 _ _, _, _ => false
  | .zip3 _ _ _, _, _ => false
  | .enu _, _, _ => false
def okI (G : Gk) (k : Kc) : MI → Expr → Expr → Bool
  | .lv _, _, _ => false
  | .lve _, _, _ => false
  | .it e, _, x => okE G k e x
  | .rng e, _, x => match x with
    | .Call (.Name f _) [l] [] _ => decide (f = "range") && k.glb f && G.free f && notStar l && okE G k e l
    | _ => false
  | .rng2 a b, _, x => match x with
    | .Call (.Name f _) [l, r] [] _ => decide (f = "range") && k.glb f && G.free f && notStar l && notStar r && okE G k a l && okE G k b r
    | _ => false
  | .zip2 a b, tg, x => match x with
    | .Call (.Name f _) [l, r] [] _ => isTupE tg && decide (f = "zip") && k.glb f && G.free f && notStar l && notStar r && okE G k a l && okE G k b r
    | _ => false
  | .zip3 a b d, tg, x => match x with
    | .Call (.Name f _) [l, r, t] [] _ => isTupE tg && decide (f = "zip") && k.glb f && G.free f && notStar l && notStar r && notStar t && okE G k a l && okE G k b r && okE G k d t
    | _ => false
  | .enu e, tg, x => match x with
    | .Call (.Name f _) [l] [] _ => isTupE tg && decide (f = "enumerate") && k.glb f && G.free f && notStar l && okE G k e l
    | _ => false
end
/-! ### statements -/
def notComp : Expr → Bool
  | .ListComp _ _ _ _ => false
  | .SetComp _ _ _ _ => false
  | .DictComp _ _ _ _ _ => false
  | _ => true
/-- the comprehension stores into the name by itself -/
def Kc.sw (k : Kc) (x : Str) (px : Pos) (s : Scope) (p : Pos) : Bool := k.loc x && (px.line == p.line) && !(s.names.any fun (n, kk) => n == x && (kk == .local || kk == .cell))
def isCompM : ME → Bool
  | .comp _ _ src _ _ _ => !isLv src
  | _ => false
def isDCompM : ME → Bool
  | .dcomp _ _ _ _ _ _ _ => true
  | _ => false
def okSet (k : Kc) (e : ME) (x : Str) (px : Pos) : Expr → Bool
  | .ListComp _ _ s p => !k.sw x px s p || isCompM e
  | .DictComp _ _ _ s p => !k.sw x px s p || isDCompM e
  | .SetComp _ _ _ _ => false
  | _ => true
/-- no swap of the stores -/
def okSs (k : Kc) : Expr → Expr → Bool
  | .Tuple ts _ _, .Tuple vs _ _ => (!(ts.length == 2 || ts.length == 3) || vs.length != ts.length) || (ts.filterMap fun | .Name n p => (if (k.sc.names.lookup n == some .local && p.line == (ts.head?.map (·.pos.line)).getD 0) = true then some n else none) | _ => none).length != ts.length || vs.all (foldedForSure 8)
  | .Name _ _, _ => false
  | .List _ _, _ => false
  | _, _ => true
mutual
def okS (G : Gk) (k : Kc) : MS → Stmt → Bool
  | .set i e, x => match x with
    | .Assign [.Name n p] v _ => k.st i n && okE G k e v && okSet k e n p v
    | _ => false
  | .asg g e, x => match x with
    | .Assign [t] v _ => okE G k e v && okG G k g t && okSs k t v && notStar t
    | _ => false
  | .par2 i j a b, x => match x with
    | .Assign [.Tuple [.Name n p, .Name n' p'] _ _] (.Tuple [l, r] _ _) _ => decide (k.N[i]? = some n) && decide (k.N[j]? = some n') && decide (i ≠ j) && decide (n ≠ n') && k.loc n && k.loc n' && (p'.line == p.line) && notStar l && notStar r && okE G k a l && okE G k b r && !(foldedForSure 8 l && foldedForSure 8 r) && !(constantsAlone 8 l && constantsAlone 8 r)
    | _ => false
  | .par3 i j l a b c, x => match x with
    | .Assign [.Tuple [.Name n p, .Name n' p', .Name n'' p''] _ _] (.Tuple [u, v, w] _ _) _ => decide (k.N[i]? = some n) && decide (k.N[j]? = some n') && decide (k.N[l]? = some n'') && decide (i ≠ j) && decide (i ≠ l) && decide (j ≠ l) && decide (n ≠ n') && decide (n ≠ n'') && decide (n' ≠ n'') && k.loc n && k.loc n' && k.loc n'' && (p'.line == p.line) && (p''.line == p.line) && notStar u && notStar v && notStar w && okE G k a u && okE G k b v && okE G k c w && !(foldedForSure 8 u && foldedForSure 8 v && foldedForSure 8 w) && !(constantsAlone 8 u && constantsAlone 8 v && constantsAlone 8 w)
    | _ => false
  | .aug i o e, x => match x with
    | .AugAssign (.Name n _) op v _ => isOp o op && (match o with | .add => true | .sub => true | _ => false) && k.st i n && okE G k e v
    | _ => false
  | .augS a i o e, x => match x with
    | .AugAssign (.Subscript l r _) op v _ => isOp o op && (match o with | .add => true | .sub => true | _ => false) && okE G k a l && okE G k i r && plainIx r && okE G k e v
    | _ => false
  | .ex e, x => match x with
    | .Expr v _ => okE G k e v && notComp v
    | _ => false
  | .ret e, x => match x with
    | .Return (some v) _ => okE G k e v
    | _ => false
  | .ifs t a b, x => match x with
    | .If c l r _ => okE G k t c && okTst t c && okB G k a l && okB G k b r
    | _ => false
  | .fors g src b, x => match x with
    | .For tg iter body [] _ => okI G k src tg iter && okG G k g tg && okB G k b body && notSet iter
    | _ => false
  | .whl t b, x => match x with
    | .While c body [] _ => okE G k t c && okTst t c && okB G k b body
    | _ => false
  | .brk, x => match x with
    | .Break _ => true
    | _ => false
  | .cnt, x => match x with
    | .Continue _ => true
    | _ => false
  | .pas, x => match x with
    | .Pass _ => true
    | _ => false
  | .never, _ => true
  | .gfrz _, _ => false
def okB (G : Gk) (k : Kc) : MSs → List Stmt → Bool
  | .nil, xs => match xs with
    | [] => true
    | _ => false
  | .cons (.gfrz _) r, xs => okB G k r xs
  | .cons s r, xs => match xs with
    | x :: ys => okS G k s x && okB G k r ys
    | _ => false
end
/-- a def's body, its words ahead left out -/
def okBody (G : Gk) (k : Kc) (b : MSs) : List Stmt → Bool
  | .Expr (.Constant (.str _) _ _) _ :: xs => okB G k b xs
  | xs => okB G k b xs
end Mi
set_option Elab.async false
set_option linter.all false
set_option maxRecDepth 100000
set_option maxHeartbeats 1000000
/-! Mi23: what passes the check is computed by the text. -/
namespace Mi
open PySem PySem.Spec PyProof.Rows L2
structure GkOk (G : Gk) (g : Ge) : Prop where
  nm : ∀ f, G.has f = true → G.nm f = g.nm f ∧ (g.tab f).isSome = true
  free : ∀ x, G.free x = true → g.mg x = none
  con : ∀ x d, G.con x = some d → ∃ v u, g.mg x = some u ∧ RelV v u ∧ (∀ i, d = .int i → v = .int i) ∧ (∀ s, d = .str s → v = .str s)
  kw : ∀ f ks perm, (f, ks, perm) ∈ G.kw → KwB (g.fd f) (g.ps f) ks perm
structure KOk (k : Kc) (X : Cx) : Prop where
  N : X.N = k.N
  sc : X.env.scope = k.sc
  fn : X.fn = k.fn
def ccOf (g : Ge) (n : Nat) : Cc := ⟨callN g.tab g.wf n, g.wf, fun f => (g.tab f).isSome⟩
section
variable {g : Ge} {G : Gk} {n : Nat} {k : Kc} {X : Cx} {W : WX}
theorem plainN_ok {x : Str} (h : plainN x = true) : (x == ("__debug__" : Str)) = false ∧ (x == ("__classdict__" : Str)) = false := by
  have q := Bool.and_eq_true_iff.mp h
  exact ⟨by simpa using q.1, by simpa using q.2⟩
theorem glb_ok (hk : KOk k X) {x : Str} (h : k.glb x = true) : Gl X x := by
  unfold Kc.glb at h
  show X.env.scope.names.lookup x = some .globalImplicit
  rw [hk.sc]
  split at h
  · assumption
  · cases h
theorem vis_ok (hk : KOk k X) {x : Str} (h : k.vis x = true) : Vis X.env.scope x := by
  unfold Kc.vis at h
  unfold Vis
  rw [hk.sc]
  split at h
  · exact .inl ‹_›
  · exact .inr (.inl ‹_›)
  · exact .inr (.inr ‹_›)
  · cases h
theorem slot_ok (hk : KOk k X) {i : Nat} {x : Str} (h : k.slot i x = true) : X.N[i]? = some x ∧ Vis X.env.scope x ∧ (x == ("__debug__" : Str)) = false ∧ (x == ("__classdict__" : Str)) = false := by
  unfold Kc.slot at h
  simp only [Bool.and_eq_true, decide_eq_true_eq] at h
  obtain ⟨⟨h1, h2⟩, h3⟩ := h
  exact ⟨by rw [hk.N]; exact h1, vis_ok hk h2, (plainN_ok h3).1, (plainN_ok h3).2⟩
theorem loc_ok (hk : KOk k X) {x : Str} (h : k.loc x = true) : X.env.scope.names.lookup x = some .local := by
  unfold Kc.loc at h
  rw [hk.sc]
  split at h
  · assumption
  · cases h
theorem st_ok (hk : KOk k X) {i : Nat} {x : Str} (h : k.st i x = true) : X.N[i]? = some x ∧ Loc X.env.scope x ∧ (X.fn x = true ∨ X.env.scope.names.lookup x = some .local) := by
  unfold Kc.st at h
  simp only [Bool.and_eq_true, Bool.or_eq_true, decide_eq_true_eq] at h
  obtain ⟨h1, h2⟩ := h
  refine ⟨by rw [hk.N]; exact h1, ?_⟩
  rcases h2 with h2 | h2
  · exact ⟨.inl (loc_ok hk h2), .inr (loc_ok hk h2)⟩
  · split at h2
    · rename_i e
      exact ⟨.inr (by rw [hk.sc]; exact e), .inl (by rw [hk.fn]; exact h2)⟩
    · cases h2
/-- a block of a comprehension is of the program, too -/
theorem In.blk (hi : In g X W n) {scope : Scope} {Y : Cx} (hY : Blk X scope Y) : In g Y W0 n := by
  obtain ⟨s, H, C, cl, fp, rfl⟩ := hY
  refine ⟨hi.P, hi.w, hi.K, hi.mg, hi.base, hi.room, hi.guards, hi.calm, hi.nd, fun σ pins H s e s' I c => ?_⟩
  obtain ⟨_, _, _, _, _, _, _, _, _, _, _, _, z⟩ := c
  exact z.elim
theorem KOk.blk (hk : KOk k X) {scope : Scope} {Y : Cx} (hY : Blk X scope Y) : KOk (k.blk scope) Y := by
  obtain ⟨s, H, C, cl, fp, rfl⟩ := hY
  refine ⟨hk.N, ?_, rfl⟩
  show relS scope X.env.scope = relS scope k.sc
  rw [hk.sc]
theorem Blk.tb {scope : Scope} {Y : Cx} (hY : Blk X scope Y) (fa ca : Nat → Addr) : Mi.tb Y fa ca = Mi.tb X fa ca := by
  obtain ⟨s, H, C, cl, fp, rfl⟩ := hY
  rfl
theorem evCmp_same {o : Co} {x y d : D} {s s' : S} (h : evCmp o x y s = .ok d s') : s' = s := by
  unfold evCmp at h
  repeat' split at h
  all_goals first | (cases h; done) | (cases h; rfl)
theorem pureE_ok {c : Cc} : ∀ {e : ME} {τ : Tau} {s s' : S} {d : D}, pureE e = true → evE c e τ s = .ok d s' → s' = s
  | .slot i, τ, s, s', d, _, h => by
    rw [evE] at h
    split at h
    · cases h; rfl
    · cases h
  | .cst _, τ, s, s', d, _, h => by rw [evE] at h; cases h; rfl
  | .cmp o a b, τ, s, s', d, p, h => by
    simp only [pureE, Bool.and_eq_true] at p
    rw [evE] at h
    obtain ⟨x, s1, h1, h⟩ := Res.bind_ok h
    obtain ⟨y, s2, h2, h⟩ := Res.bind_ok h
    rw [evCmp_same h, pureE_ok p.2 h2, pureE_ok p.1 h1]
  | .no a, τ, s, s', d, p, h => by
    simp only [pureE] at p
    rw [evE] at h
    obtain ⟨x, s1, h1, h⟩ := Res.bind_ok h
    have e := pureE_ok p h1
    cases x <;> first | (cases h; done) | (cases h; exact e)
  | .and a b, τ, s, s', d, p, h => by
    simp only [pureE, Bool.and_eq_true] at p
    rw [evE] at h
    obtain ⟨x, s1, h1, h⟩ := Res.bind_ok h
    have e := pureE_ok p.1 h1
    cases x with
    | bl q =>
      cases q with
      | false => cases h; exact e
      | true =>
        obtain ⟨y, s2, h2, h⟩ := Res.bind_ok h
        have e2 := pureE_ok p.2 h2
        cases y <;> first | (cases h; done) | (cases h; rw [e2, e])
    | _ => cases h
  | .or a b, τ, s, s', d, p, h => by
    simp only [pureE, Bool.and_eq_true] at p
    rw [evE] at h
    obtain ⟨x, s1, h1, h⟩ := Res.bind_ok h
    have e := pureE_ok p.1 h1
    cases x with
    | bl q =>
      cases q with
      | true => cases h; exact e
      | false =>
        obtain ⟨y, s2, h2, h⟩ := Res.bind_ok h
        have e2 := pureE_ok p.2 h2
        cases y <;> first | (cases h; done) | (cases h; rw [e2, e])
    | _ => cases h
theorem pureO_ok {c : Cc} {t : MO} {τ : Tau} {s s' : S} {b : Bool} (p : pureO t = true) (h : evT c t τ s = .ok b s') : s' = s := by
  cases t with
  | no => rw [evT] at h; cases h; rfl
  | so e =>
    rw [evT] at h
    obtain ⟨x, s1, h1, h⟩ := Res.bind_ok h
    have e := pureE_ok p h1
    cases x <;> first | (cases h; done) | (cases h; exact e)
mutual
theorem pureG_ok {c : Cc} : ∀ {g : MG} {d : D} {τ τ' : Tau} {s s' : S}, pureG g = true → evG c g d τ s = .ok τ' s' → s' = s
  | .nm i, d, τ, τ', s, s', _, h => by rw [evG] at h; cases h; rfl
  | .tp gs, d, τ, τ', s, s', p, h => by
    cases d with
    | tup ds =>
      rw [evG] at h
      exact pureGs_ok p h
    | _ => simp [evG] at h
  | .sub a b, d, τ, τ', s, s', p, h => by cases p
theorem pureGs_ok {c : Cc} : ∀ {g : MGs} {ds : List D} {τ τ' : Tau} {s s' : S}, pureGs g = true → evGs c g ds τ s = .ok τ' s' → s' = s
  | .nil, ds, τ, τ', s, s', _, h => by
    cases ds with
    | nil => simp only [evGs] at h; cases h; rfl
    | cons _ _ => simp only [evGs] at h; cases h
  | .cons g r, ds, τ, τ', s, s', p, h => by
    simp only [pureGs, Bool.and_eq_true] at p
    cases ds with
    | nil => simp only [evGs] at h; cases h
    | cons d ds =>
      simp only [evGs] at h
      cases q : evG c g d τ s with
      | ok τ1 s1 =>
        rw [q] at h
        rw [pureGs_ok p.2 h, pureG_ok p.1 q]
      | exc _ _ => rw [q] at h; cases h
      | stuck => rw [q] at h; cases h
end
theorem pure_turn {c : Cc} {g : MG} {t : MO} {e : ME} (p1 : pureG g = true) (p2 : pureO t = true) (p3 : pureE e = true) (τ : Tau) (d : D) (s : S) (o : Option D) (s' : S) (h : ((evG c g d τ s).bind fun τ1 s3 => (evT c t τ1 s3).bind fun b s4 => if b then (evE c e τ1 s4).bind fun y s5 => .ok (some y) s5 else .ok none s4) = .ok o s') : s' = s := by
  obtain ⟨τ1, s1, h1, h⟩ := Res.bind_ok h
  obtain ⟨b, s2, h2, h⟩ := Res.bind_ok h
  have e1 := pureG_ok p1 h1
  have e2 := pureO_ok p2 h2
  cases b with
  | false => simp only [Bool.false_eq_true, if_false, Res.ok.injEq] at h; rw [← h.2, e2, e1]
  | true =>
    simp only [if_true] at h
    obtain ⟨y, s3, h3, h⟩ := Res.bind_ok h
    have e3 := pureE_ok p3 h3
    simp only [Res.ok.injEq] at h
    rw [← h.2, e3, e2, e1]
/-- what is shown of an expression -/
abbrev SoE (g : Ge) (G : Gk) (n : Nat) (e : ME) : Prop := ∀ (k : Kc) (X : Cx) (W : WX) (x : Expr), In g X W n → KOk k X → okE G k e x = true →
  PE X x (eRd (tb X g.fa g.ca) W (evE (ccOf g n) e)) ∧ (okTst e x = true → PT X x (tbRd (tb X g.fa g.ca) W (evE (ccOf g n) e))) ∧
  ((isAnd e || isOr e) = true → ∀ op xs q, x = .BoolOp op xs q → PW X x (tbRd (tb X g.fa g.ca) W (evE (ccOf g n) e)))
abbrev SoEs (g : Ge) (G : Gk) (n : Nat) (es : MEs) : Prop := ∀ (k : Kc) (X : Cx) (W : WX), In g X W n → KOk k X → (∀ xs, okEs G k es xs = true → PA X xs (aRd (tb X g.fa g.ca) W (evEs (ccOf g n) es))) ∧ ∀ xs, okKs G k es xs = true → PK X xs (aRd (tb X g.fa g.ca) W (evEs (ccOf g n) es))
abbrev SoO (g : Ge) (G : Gk) (n : Nat) (o : MO) : Prop := ∀ (k : Kc) (X : Cx) (W : WX), In g X W n → KOk k X → (∀ x, okO G k o x = true → PO X x (oRd (tb X g.fa g.ca) W (evO (ccOf g n) o))) ∧ (W = W0 → ∀ xs, okT G k o xs = true → PTs X xs (bRd (tb X g.fa g.ca) W0 (evT (ccOf g n) o)))
abbrev SoG (g : Ge) (G : Gk) (n : Nat) (t : MG) : Prop := ∀ (k : Kc) (X : Cx) (W : WX) (x : Expr), In g X W n → KOk k X → okG G k t x = true → PG X x (gRd (tb X g.fa g.ca) (gIx t) (evG (ccOf g n) t))
abbrev SoGs (g : Ge) (G : Gk) (n : Nat) (t : MGs) : Prop := ∀ (k : Kc) (X : Cx) (W : WX) (xs : List Expr), In g X W n → KOk k X → okGs G k t xs = true → PGs X xs (gsRd (tb X g.fa g.ca) (gsIx t) (evGs (ccOf g n) t)) ∧ ∀ ds τ s, evGs (ccOf g n) t ds τ s ≠ .stuck → ds.length = xs.length
abbrev SoI (g : Ge) (G : Gk) (n : Nat) (o : MI) : Prop := ∀ (k : Kc) (X : Cx) (W : WX) (tg x : Expr), In g X W n → KOk k X → okI G k o tg x = true → PI X tg x (iRd (tb X g.fa g.ca) W (evI (ccOf g n) o))
abbrev SoL (g : Ge) (G : Gk) (n : Nat) (o : MI) : Prop := ∀ (k : Kc) (X : Cx) (W : WX) (tg x : Expr), In g X W n → KOk k X → okL G k o tg x = true → PI X tg x (iRdL (tb X g.fa g.ca) W (evI (ccOf g n) o))
theorem In.w0 (hi : In g X W n) : In g X W0 n :=
  ⟨hi.P, hi.w, hi.K, hi.mg, hi.base, hi.room, hi.guards, hi.calm, hi.nd, fun σ pins H s e s' I c => by
    obtain ⟨_, _, _, _, _, _, _, _, _, _, _, _, z⟩ := c
    exact z.elim⟩
theorem notSet_ok {e : Expr} {env : Env} (h : notSet e = true) : ∀ x, foldedSetIterable e env x = pure x := by
  intro x
  cases e <;> first | rfl | (simp [notSet] at h)
/-- of a plain form -/
theorem soe_of {e : ME} {x : Expr} {hi : In g X W n} (p : PE X x (eRd (tb X g.fa g.ca) W (evE (ccOf g n) e))) (h1 : ∀ x, okTst e x = true → plainT x = true) (h2 : (isAnd e || isOr e) = false) :
    PE X x (eRd (tb X g.fa g.ca) W (evE (ccOf g n) e)) ∧ (okTst e x = true → PT X x (tbRd (tb X g.fa g.ca) W (evE (ccOf g n) e))) ∧
  ((isAnd e || isOr e) = true → ∀ op xs q, x = .BoolOp op xs q → PW X x (tbRd (tb X g.fa g.ca) W (evE (ccOf g n) e))) :=
  ⟨p, fun ht => rt_val p (plainT_ok (h1 x ht)), fun hb => by rw [h2] at hb; cases hb⟩
theorem const_ok (ok : g.Ok) (gk : GkOk G g) (hi : In g X W n) (hk : KOk k X) {d : D} {x : Expr} (h : okC G k d x = true) : PE X x (eRd (tb X g.fa g.ca) W fun _ s => .ok d s) := by
  cases d with
  | non =>
    cases x with
    | Constant c _ _ => cases c <;> first | exact rd_const pe_non (fun _ _ => .non) | cases h
    | _ => cases h
  | bl b =>
    cases x with
    | Constant c _ _ =>
      cases c with
      | bool c =>
        have e : b = c := by simpa [okC] using h
        subst e
        exact rd_const pe_bl (fun _ _ => .bl _)
      | _ => cases h
    | _ => cases h
  | int i =>
    cases x with
    | Constant c _ _ =>
      cases c with
      | int c =>
        have e : i = c := by simpa [okC] using h
        subst e
        exact rd_const pe_int (fun _ _ => .int _)
      | _ => cases h
    | Name y _ =>
      simp only [okC, Bool.and_eq_true] at h
      obtain ⟨⟨h1, h2⟩, h3⟩ := h
      split at h1
      · rename_i j e
        obtain ⟨v, u, e1, e2, e3, _⟩ := gk.con _ _ e
        have ei : i = j := by simpa using h1
        subst ei
        have ev := e3 i rfl
        subst ev
        exact rd_const (pe_glob (glb_ok hk h2) (by rw [hi.mg]; exact e1) e2 (plainN_ok h3).1) (fun _ _ => .int _)
      · cases h1
    | _ => cases h
  | str z =>
    cases x with
    | Constant c _ _ =>
      cases c with
      | str c =>
        have e : z = c := by simpa [okC] using h
        subst e
        exact rd_const pe_str (fun _ _ => .str _)
      | _ => cases h
    | Name y _ =>
      simp only [okC, Bool.and_eq_true] at h
      obtain ⟨⟨h1, h2⟩, h3⟩ := h
      split at h1
      · rename_i j e
        obtain ⟨v, u, e1, e2, _, e3⟩ := gk.con _ _ e
        have ei : z = j := by simpa using h1
        subst ei
        have ev := e3 z rfl
        subst ev
        exact rd_const (pe_glob (glb_ok hk h2) (by rw [hi.mg]; exact e1) e2 (plainN_ok h3).1) (fun _ _ => .str _)
      · cases h1
    | _ => cases h
  | fn f =>
    cases x with
    | Name y _ =>
      simp only [okC, Bool.and_eq_true, decide_eq_true_eq] at h
      obtain ⟨⟨⟨h1, h2⟩, h3⟩, h4⟩ := h
      obtain ⟨e1, e2⟩ := gk.nm f h1
      obtain ⟨e, he⟩ := Option.isSome_iff_exists.mp e2
      refine rd_const (v := .ref (g.fa f)) (pe_glob (u := .ref (g.fa f)) (glb_ok hk h3) ?_ rfl (plainN_ok h4).1) (fun _ _ => .fn f)
      rw [hi.mg, ← h2, e1]
      exact (ok.at_ f e he).1
    | _ => cases h
  | _ => cases x <;> cases h
theorem bi_ok (gk : GkOk G g) (hi : In g X W n) (hk : KOk k X) {b : Bi} {y : Expr} {ys : List Expr} {evs : Tau → S → Res (List D)} {p pos : Pos} (h1 : k.glb (nameB b) = true) (h2 : G.free (nameB b) = true) (h3 : notStars (y :: ys) = true) (ha : PA X (y :: ys) (aRd (tb X g.fa g.ca) W evs)) :
    PE X (.Call (.Name (nameB b) p) (y :: ys) [] pos) (eRd (tb X g.fa g.ca) W fun τ s => (evs τ s).bind fun ds s1 => evBi b ds s1) := by
  have hm : X.mg (nameB b) = none := by rw [hi.mg]; exact gk.free _ h2
  have hg := glb_ok hk h1
  have hu := hi.un
  cases b with
  | len => exact rd_bi (fun _ => bi_len) hg hm rfl (by decide) (by decide) ha h3
  | all => exact rd_bi (fun _ => bi_all hi.calm) hg hm rfl (by decide) (by decide) ha h3
  | any => exact rd_bi (fun _ => bi_any hi.calm) hg hm rfl (by decide) (by decide) ha h3
  | sum => exact rd_bi (fun _ => bi_sum hi.calm) hg hm rfl (by decide) (by decide) ha h3
  | min2 => exact rd_bi (fun _ => bi_min2 hi.calm hu) hg hm rfl (by decide) (by decide) ha h3
  | max2 => exact rd_bi (fun _ => bi_max2 hi.calm) hg hm rfl (by decide) (by decide) ha h3
  | abs => exact rd_bi (fun _ => bi_abs) hg hm rfl (by decide) (by decide) ha h3
  | sorted => exact rd_bi (fun _ => bi_sorted hi.calm hu) hg hm rfl (by decide) (by decide) ha h3
  | repr => exact rd_bi (fun _ => bi_repr hu hi.guards) hg hm rfl (by decide) (by decide) ha h3
  | divmod => exact rd_bi (fun _ => bi_divmod) hg hm rfl (by decide) (by decide) ha h3
  | int => exact rd_biT (fun _ => bi_int) hg hm rfl (by decide) (by decide) ha h3
  | str => exact rd_biT (fun _ => bi_str) hg hm rfl (by decide) (by decide) ha h3
  | tuple => exact rd_biT (fun _ => bi_tuple) hg hm rfl (by decide) (by decide) ha h3
  | list => exact rd_biT (fun _ => bi_list) hg hm rfl (by decide) (by decide) ha h3
theorem tst_ok {a : ME} {y : Expr} (h : PE X y (eRd (tb X g.fa g.ca) W (evE (ccOf g n) a)) ∧ (okTst a y = true → PT X y (tbRd (tb X g.fa g.ca) W (evE (ccOf g n) a))) ∧
  ((isAnd a || isOr a) = true → ∀ op xs q, y = .BoolOp op xs q → PW X y (tbRd (tb X g.fa g.ca) W (evE (ccOf g n) a)))) (ht : okTst a y = true) : PT X y (tbRd (tb X g.fa g.ca) W (evE (ccOf g n) a)) := h.2.1 ht
mutual
theorem soE (ok : g.Ok) (all : g.All n) (gk : GkOk G g) : ∀ e : ME, SoE g G n e
  | .slot i => by
    intro k X W x hi hk h
    refine soe_of (hi := hi) ?_ (fun _ z => z) rfl
    cases x with
    | Name y p =>
      obtain ⟨h1, h2, h3, h4⟩ := slot_ok hk (show k.slot i y = true from h)
      exact rd_slot h1 h2 h3 h4
    | _ => cases h
  | .cst d => by
    intro k X W x hi hk h
    exact soe_of (hi := hi) (const_ok ok gk hi hk h) (fun _ z => z) rfl
  | .frz e => by
    intro k X W x hi hk h
    exact soe_of (hi := hi) (rd_frz (soE ok all gk e k X W x hi hk h).1) (fun _ z => z) rfl
  | .bin o a b => by
    intro k X W x hi hk h
    refine soe_of (hi := hi) ?_ (fun _ z => z) rfl
    cases x with
    | BinOp l op r p =>
      have h : (isOp o op && okE G k a l && okE G k b r) = true := h
      simp only [Bool.and_eq_true] at h
      obtain ⟨⟨h1, h2⟩, h3⟩ := h
      rw [isOp_ok h1]
      exact rd_bin o (soE ok all gk a k X W l hi hk h2).1 (soE ok all gk b k X W r hi hk h3).1
    | _ => cases h
  | .binc o a b => by
    intro k X W x hi hk h
    refine soe_of (hi := hi) ?_ (fun _ z => z) rfl
    cases x with
    | BinOp l op r p =>
      have h : (isOp o op && okE G k a l && okE G k b r) = true := h
      simp only [Bool.and_eq_true] at h
      obtain ⟨⟨h1, h2⟩, h3⟩ := h
      rw [isOp_ok h1]
      exact rd_binc o (soE ok all gk a k X W l hi hk h2).1 (soE ok all gk b k X W r hi hk h3).1
    | _ => cases h
  | .neg a => by
    intro k X W x hi hk h
    refine soe_of (hi := hi) ?_ (fun _ z => z) rfl
    cases x with
    | UnaryOp op y p =>
      cases op with
      | USub => exact rd_neg (soE ok all gk a k X W y hi hk h).1
      | _ => cases h
    | _ => cases h
  | .cmp o a b => by
    intro k X W x hi hk h
    cases x with
    | Compare l ops rs p =>
      match ops, rs, h with
      | [op], [r], h =>
        have h : (isCo o op && okE G k a l && okE G k b r && !behindInMarks op r) = true := h
        simp only [Bool.and_eq_true, Bool.not_eq_true'] at h
        obtain ⟨⟨⟨h1, h2⟩, h3⟩, h4⟩ := h
        have ho := isCo_ok h1
        subst ho
        have pa := (soE ok all gk a k X W l hi hk h2).1
        have pb := (soE ok all gk b k X W r hi hk h3).1
        exact ⟨rd_cmp hi.un o pa pb h4, fun _ => rt_cmp hi.un o pa pb h4, fun z => by cases z⟩
      | [], _, h => cases h
      | [_], [], h => cases h
      | [_], _ :: _ :: _, h => cases h
      | _ :: _ :: _, _, h => cases h
    | _ => cases h
  | .chain o p a b d => by
    intro k X W x hi hk h
    cases x with
    | Compare l ops rs q =>
      match ops, rs, h with
      | [op, op'], [r, t], h =>
        have h : (isCo o op && isCo p op' && okE G k a l && okE G k b r && okE G k d t && !lastMarks [op, op'] [r, t]) = true := h
        simp only [Bool.and_eq_true, Bool.not_eq_true'] at h
        obtain ⟨⟨⟨⟨⟨h1, h2⟩, h3⟩, h4⟩, h5⟩, h6⟩ := h
        have ho := isCo_ok h1
        subst ho
        have ho := isCo_ok h2
        subst ho
        have pa := (soE ok all gk a k X W l hi hk h3).1
        have pb := (soE ok all gk b k X W r hi hk h4).1
        have pd := (soE ok all gk d k X W t hi hk h5).1
        exact ⟨rd_chain hi.un o p pa pb pd h6, fun _ => rt_chain hi.un o p pa pb pd h6, fun z => by cases z⟩
      | [], _, h => cases h
      | [_], _, h => cases h
      | [_, _], [], h => cases h
      | [_, _], [_], h => cases h
      | [_, _], _ :: _ :: _ :: _, h => cases h
      | _ :: _ :: _ :: _, _, h => cases h
    | _ => cases h
  | .no a => by
    intro k X W x hi hk h
    cases x with
    | UnaryOp op y p =>
      cases op with
      | Not =>
        have h : (okE G k a y && okTst a y) = true := h
        simp only [Bool.and_eq_true] at h
        have pa := soE ok all gk a k X W y hi hk h.1
        exact ⟨rd_no pa.1, fun _ => rt_no (tst_ok pa h.2), fun z => by cases z⟩
      | _ => cases h
    | _ => cases h
  | .and a b => by
    intro k X W x hi hk h
    cases x with
    | BoolOp op xs q =>
      match op, xs, h with
      | .And, l :: r :: rest, h =>
        have hq : okE G k a l = true ∧ okTst a l = true ∧ PE X (.BoolOp .And (r :: rest) q) (eRd (tb X g.fa g.ca) W (evE (ccOf g n) b)) ∧ PW X (.BoolOp .And (r :: rest) q) (tbRd (tb X g.fa g.ca) W (evE (ccOf g n) b)) := by
          cases rest with
          | nil =>
            have h : (okE G k a l && okTst a l && (okE G k b r && okTst b r)) = true := h
            simp only [Bool.and_eq_true] at h
            obtain ⟨⟨h1, h2⟩, h3⟩ := h
            have pb := soE ok all gk b k X W r hi hk h3.1
            exact ⟨h1, h2, pe_one pb.1, rt_one (tst_ok pb h3.2) (.inl rfl)⟩
          | cons r2 rest =>
            have h : (okE G k a l && okTst a l && (isAnd b && okE G k b (.BoolOp .And (r :: r2 :: rest) q))) = true := h
            simp only [Bool.and_eq_true] at h
            obtain ⟨⟨h1, h2⟩, h3⟩ := h
            have pb := soE ok all gk b k X W _ hi hk h3.2
            exact ⟨h1, h2, pb.1, pb.2.2 (by rw [h3.1] <;> rfl) _ _ _ rfl⟩
        obtain ⟨h1, h2, hb⟩ := hq
        have pa := soE ok all gk a k X W l hi hk h1
        have pw := rt_and (pa.2.1 h2) hb.2
        exact ⟨rd_and pa.1 hb.1, fun _ => pw.pt, fun _ op xs q e => by cases e; exact pw⟩
      | .Or, _, h => cases h
      | .And, [], h => cases h
      | .And, [_], h => cases h
    | _ => cases h
  | .or a b => by
    intro k X W x hi hk h
    cases x with
    | BoolOp op xs q =>
      match op, xs, h with
      | .Or, l :: r :: rest, h =>
        have hq : okE G k a l = true ∧ okTst a l = true ∧ PE X (.BoolOp .Or (r :: rest) q) (eRd (tb X g.fa g.ca) W (evE (ccOf g n) b)) ∧ PW X (.BoolOp .Or (r :: rest) q) (tbRd (tb X g.fa g.ca) W (evE (ccOf g n) b)) := by
          cases rest with
          | nil =>
            have h : (okE G k a l && okTst a l && (okE G k b r && okTst b r)) = true := h
            simp only [Bool.and_eq_true] at h
            obtain ⟨⟨h1, h2⟩, h3⟩ := h
            have pb := soE ok all gk b k X W r hi hk h3.1
            exact ⟨h1, h2, pe_one pb.1, rt_one (tst_ok pb h3.2) (.inr rfl)⟩
          | cons r2 rest =>
            have h : (okE G k a l && okTst a l && (isOr b && okE G k b (.BoolOp .Or (r :: r2 :: rest) q))) = true := h
            simp only [Bool.and_eq_true] at h
            obtain ⟨⟨h1, h2⟩, h3⟩ := h
            have pb := soE ok all gk b k X W _ hi hk h3.2
            exact ⟨h1, h2, pb.1, pb.2.2 (by rw [h3.1, Bool.or_true]) _ _ _ rfl⟩
        obtain ⟨h1, h2, hb⟩ := hq
        have pa := soE ok all gk a k X W l hi hk h1
        have pw := rt_or (pa.2.1 h2) hb.2
        exact ⟨rd_or pa.1 hb.1, fun _ => pw.pt, fun _ op xs q e => by cases e; exact pw⟩
      | .And, _, h => cases h
      | .Or, [], h => cases h
      | .Or, [_], h => cases h
    | _ => cases h
  | .ife t a b => by
    intro k X W x hi hk h
    refine soe_of (hi := hi) ?_ (fun _ z => z) rfl
    cases x with
    | IfExp c l r p =>
      have h : (okE G k t c && okTst t c && okE G k a l && okE G k b r) = true := h
      simp only [Bool.and_eq_true] at h
      obtain ⟨⟨⟨h1, h2⟩, h3⟩, h4⟩ := h
      exact rd_ife ((soE ok all gk t k X W c hi hk h1).2.1 h2) (soE ok all gk a k X W l hi hk h3).1 (soE ok all gk b k X W r hi hk h4).1
    | _ => cases h
  | .tup es => by
    intro k X W x hi hk h
    refine soe_of (hi := hi) ?_ (fun _ z => z) rfl
    cases x with
    | Tuple xs _ p => exact rd_tup ((soEs ok all gk es k X W hi hk).1 xs h)
    | _ => cases h
  | .lst es => by
    intro k X W x hi hk h
    refine soe_of (hi := hi) ?_ (fun _ z => z) rfl
    cases x with
    | List xs p => exact rd_lst ((soEs ok all gk es k X W hi hk).1 xs h)
    | _ => cases h
  | .cell es => by
    intro k X W x hi hk h
    refine soe_of (hi := hi) ?_ (fun _ z => z) rfl
    cases x with
    | List xs p => exact rd_cell ((soEs ok all gk es k X W hi hk).1 xs h)
    | _ => cases h
  | .dic0 => by
    intro k X W x hi hk h
    refine soe_of (hi := hi) ?_ (fun _ z => z) rfl
    cases x with
    | Dict ks vs p =>
      match ks, vs, h with
      | [], [], h => exact pe_dic0
      | [], _ :: _, h => cases h
      | _ :: _, _, h => cases h
    | _ => cases h
  | .ix a b => by
    intro k X W x hi hk h
    refine soe_of (hi := hi) ?_ (fun _ z => z) rfl
    cases x with
    | Subscript l r p =>
      have h : (okE G k a l && okE G k b r && plainIx r) = true := h
      simp only [Bool.and_eq_true] at h
      obtain ⟨⟨h1, h2⟩, h3⟩ := h
      exact rd_ix hi.un (soE ok all gk a k X W l hi hk h1).1 (soE ok all gk b k X W r hi hk h2).1 h3
    | _ => cases h
  | .sl a lo hi' => by
    intro k X W x hi hk h
    refine soe_of (hi := hi) ?_ (fun _ z => z) rfl
    cases x with
    | Subscript l r p =>
      cases r with
      | Slice q1 q2 q3 q4 =>
        cases q3 with
        | some _ => cases h
        | none =>
          have h : (okE G k a l && okO G k lo q1 && okO G k hi' q2) = true := h
          simp only [Bool.and_eq_true] at h
          obtain ⟨⟨h1, h2⟩, h3⟩ := h
          exact rd_sl (soE ok all gk a k X W l hi hk h1).1 ((soO ok all gk lo k X W hi hk).1 _ h2) ((soO ok all gk hi' k X W hi hk).1 _ h3)
      | _ => cases h
    | _ => cases h
  | .rev a => by
    intro k X W x hi hk h
    refine soe_of (hi := hi) ?_ (fun _ z => z) rfl
    cases x with
    | Subscript l r p =>
      cases r with
      | Slice q1 q2 q3 q4 =>
        match q1, q2, q3, h with
        | none, none, some (.UnaryOp .USub o q5), h =>
          have h : (okE G k a l && one1 o) = true := h
          simp only [Bool.and_eq_true] at h
          cases o with
          | Constant cc k1 q6 =>
            cases cc with
            | int i =>
              have e : i = 1 := by simpa [one1] using h.2
              subst e
              exact rd_rev (soE ok all gk a k X W l hi hk h.1).1
            | _ => cases h.2
          | _ => cases h.2
        | some _, _, _, h => cases h
        | none, some _, _, h => cases h
        | none, none, none, h => cases h
        | none, none, some q, h =>
          cases q with
          | UnaryOp op o q5 =>
            cases op with
            | USub =>
              have h : (okE G k a l && one1 o) = true := h
              simp only [Bool.and_eq_true] at h
              cases o with
              | Constant cc k1 q6 =>
                cases cc with
                | int i =>
                  have e : i = 1 := by simpa [one1] using h.2
                  subst e
                  exact rd_rev (soE ok all gk a k X W l hi hk h.1).1
                | _ => cases h.2
              | _ => cases h.2
            | _ => cases h
          | _ => cases h
      | _ => cases h
    | _ => cases h
  | .isi a ts => by
    intro k X W x hi hk h
    refine soe_of (hi := hi) ?_ (fun _ z => z) rfl
    cases x with
    | Call f as ks p =>
      match f, as, ks, h with
      | .Name y q, [l, t], [], h =>
        have hq : y = "isinstance" ∧ k.glb y = true ∧ G.free y = true ∧ notStar l = true ∧ okE G k a l = true ∧ ((∃ m q2 u, t = .Name m q2 ∧ ts = [u] ∧ m = tyName u ∧ u ≠ .non ∧ G.free m = true ∧ k.glb m = true) ∨ (∃ xs q2 q3, t = .Tuple xs q2 q3 ∧ tyNames G.free k.sc ts xs = true ∧ ts.length < 10)) := by
          cases t with
          | Name m q2 =>
            match ts, h with
            | [], h => simp [okE] at h
            | _ :: _ :: _, h => simp [okE] at h
            | [u], h =>
              have h : (decide (y = "isinstance") && k.glb y && G.free y && notStar l && okE G k a l && (decide (m = tyName u) && decide (u ≠ .non) && G.free m && k.glb m)) = true := h
              simp only [Bool.and_eq_true, decide_eq_true_eq] at h
              obtain ⟨⟨⟨⟨⟨h1, h2⟩, h3⟩, h4⟩, h5⟩, ⟨⟨h6, h7⟩, h8⟩, h9⟩ := h
              exact ⟨h1, h2, h3, h4, h5, .inl ⟨m, q2, u, rfl, rfl, h6, h7, h8, h9⟩⟩
          | Tuple xs q2 q3 =>
            have h : (decide (y = "isinstance") && k.glb y && G.free y && notStar l && okE G k a l && (tyNames G.free k.sc ts xs && decide (ts.length < 10))) = true := h
            simp only [Bool.and_eq_true, decide_eq_true_eq] at h
            obtain ⟨⟨⟨⟨⟨h1, h2⟩, h3⟩, h4⟩, h5⟩, h6, h7⟩ := h
            exact ⟨h1, h2, h3, h4, h5, .inr ⟨xs, q2, q3, rfl, h6, h7⟩⟩
          | _ => simp [okE] at h
        obtain ⟨rfl, h2, h3, h4, h5, h6⟩ := hq
        have hm : X.mg "isinstance" = none := by rw [hi.mg]; exact gk.free _ h3
        have pa := (soE ok all gk a k X W l hi hk h5).1
        rcases h6 with ⟨m, q2, u, rfl, rfl, rfl, h7, h8, h9⟩ | ⟨xs, q2, q3, rfl, h7, h8⟩
        · obtain ⟨z1, z2, z3⟩ := tyName_ok h7
          exact rd_isi1 pa h4 (glb_ok hk h2) hm (glb_ok hk h9) (by rw [hi.mg]; exact gk.free _ h8) z1 z2 z3
        · exact rd_isiT pa h4 (glb_ok hk h2) hm (fun x hx => by rw [hi.mg]; exact gk.free _ hx) (by rw [hk.sc]; exact h7) h8
      | .Name _ _, [_, _], _ :: _, h => cases h
      | .Name _ _, [], _, h => cases h
      | .Name _ _, [_], _, h => cases h
      | .Name _ _, _ :: _ :: _ :: _, _, h => cases h
      | .BoolOp _ _ _, _, _, h => cases h
      | .NamedExpr _ _ _, _, _, h => cases h
      | .BinOp _ _ _ _, _, _, h => cases h
      | .UnaryOp _ _ _, _, _, h => cases h
      | .Lambda _ _ _ _, _, _, h => cases h
      | .IfExp _ _ _ _, _, _, h => cases h
      | .Dict _ _ _, _, _, h => cases h
      | .Set _ _ _, _, _, h => cases h
      | .ListComp _ _ _ _, _, _, h => cases h
      | .SetComp _ _ _ _, _, _, h => cases h
      | .DictComp _ _ _ _ _, _, _, h => cases h
      | .GeneratorExp _ _ _ _, _, _, h => cases h
      | .Await _ _, _, _, h => cases h
      | .Yield _ _, _, _, h => cases h
      | .YieldFrom _ _, _, _, h => cases h
      | .Compare _ _ _ _, _, _, h => cases h
      | .Call _ _ _ _, _, _, h => cases h
      | .FormattedValue _ _ _ _, _, _, h => cases h
      | .JoinedStr _ _, _, _, h => cases h
      | .Constant _ _ _, _, _, h => cases h
      | .Attribute _ _ _, _, _, h => cases h
      | .Subscript _ _ _, _, _, h => cases h
      | .Starred _ _, _, _, h => cases h
      | .List _ _, _, _, h => cases h
      | .Tuple _ _ _, _, _, h => cases h
      | .Slice _ _ _ _, _, _, h => cases h
    | _ => cases h
  | .call f es => by
    intro k X W x hi hk h
    refine soe_of (hi := hi) ?_ (fun _ z => z) rfl
    cases x with
    | Call f' as ks p =>
      cases f' with
      | Name y q =>
        match as, ks, h with
        | [], _, h => cases h
        | _ :: _, _ :: _, h => cases h
        | l :: ls, [], h =>
          have h : (G.has f && decide (G.nm f = y) && k.glb y && plainN y && notStars (l :: ls) && okEs G k es (l :: ls)) = true := h
          simp only [Bool.and_eq_true, decide_eq_true_eq] at h
          obtain ⟨⟨⟨⟨⟨h1, h2⟩, h3⟩, h4⟩, h5⟩, h6⟩ := h
          obtain ⟨e1, e2⟩ := gk.nm f h1
          have pa := (soEs ok all gk es k X W hi hk).1 _ h6
          rw [← hi.T] at pa ⊢
          exact rd_call hi ok all e2 (by rw [← e1]; exact h2) (glb_ok hk h3) (plainN_ok h4).1 pa h5
      | _ => cases h
    | _ => cases h
  | .callK f es perm => by
    intro k X W x hi hk h
    refine soe_of (hi := hi) ?_ (fun _ z => z) rfl
    cases x with
    | Call f' as ks p =>
      cases f' with
      | Name y q =>
        match as, h with
        | _ :: _, h => cases h
        | [], h =>
          cases hks : kwNames ks with
          | none => simp [okE, hks] at h
          | some nms =>
            have h : (G.has f && decide (G.nm f = y) && k.glb y && plainN y && okKs G k es ks && decide (lenMEs es = ks.length) && (match kwNames ks with
              | some ks => decide ((f, ks, perm) ∈ G.kw)
              | none => false)) = true := h
            rw [hks] at h
            simp only [Bool.and_eq_true, decide_eq_true_eq] at h
            obtain ⟨⟨⟨⟨⟨⟨h1, h2⟩, h3⟩, h4⟩, h5⟩, h6⟩, h7⟩ := h
            obtain ⟨e1, e2⟩ := gk.nm f h1
            have pa := (soEs ok all gk es k X W hi hk).2 _ h5
            rw [← hi.T] at pa ⊢
            have q := rd_callK (pos := p) (p := q) hi ok all e2 (by rw [← e1]; exact h2) (glb_ok hk h3) (plainN_ok h4).1 hks (gk.kw f nms perm h7) pa
            rw [← h6] at q
            exact q
      | _ => cases h
    | _ => cases h
  | .lcall i es => by
    intro k X W x hi hk h
    refine soe_of (hi := hi) ?_ (fun _ z => z) rfl
    cases x with
    | Call f' as ks p =>
      cases f' with
      | Name y q =>
        match as, ks, h with
        | [], _, h => cases h
        | _ :: _, _ :: _, h => cases h
        | l :: ls, [], h =>
          have h : (k.slot i y && notStars (l :: ls) && okEs G k es (l :: ls)) = true := h
          simp only [Bool.and_eq_true] at h
          obtain ⟨⟨h1, h2⟩, h3⟩ := h
          obtain ⟨z1, z2, z3, z4⟩ := slot_ok hk h1
          have pa := (soEs ok all gk es k X W hi hk).1 _ h3
          rw [← hi.T] at pa ⊢
          exact rd_lcall hi ok all z1 z2 z3 z4 pa h2
      | _ => cases h
    | _ => cases h
  | .bi b es => by
    intro k X W x hi hk h
    refine soe_of (hi := hi) ?_ (fun _ z => z) rfl
    cases x with
    | Call f' as ks p =>
      cases f' with
      | Name y q =>
        match as, ks, h with
        | [], _, h => cases h
        | _ :: _, _ :: _, h => cases h
        | l :: ls, [], h =>
          have h : (decide (y = nameB b) && k.glb y && G.free y && notStars (l :: ls) && okEs G k es (l :: ls)) = true := h
          simp only [Bool.and_eq_true, decide_eq_true_eq] at h
          obtain ⟨⟨⟨⟨rfl, h2⟩, h3⟩, h4⟩, h5⟩ := h
          exact bi_ok gk hi hk h2 h3 h4 ((soEs ok all gk es k X W hi hk).1 _ h5)
      | _ => cases h
    | _ => cases h
  | .dget a b => by
    intro k X W x hi hk h
    refine soe_of (hi := hi) ?_ (fun _ z => z) rfl
    cases x with
    | Call f' as ks p =>
      cases f' with
      | Attribute o nmm ap =>
        match as, ks, h with
        | [], _, h => cases h
        | [_], _ :: _, h => cases h
        | _ :: _ :: _, _, h => cases h
        | [l], [], h =>
          have h : (decide (nmm = ("get" : Str)) && okE G k a o && okE G k b l && notStar l && (ap.endLine == p.line) && notCall o) = true := h
          simp only [Bool.and_eq_true, decide_eq_true_eq] at h
          obtain ⟨⟨⟨⟨⟨rfl, h3⟩, h4⟩, h5⟩, h6⟩, h7⟩ := h
          exact rd_dget h7 hi.un (soE ok all gk a k X W _ hi hk h3).1 h6 (soE ok all gk b k X W l hi hk h4).1 h5
      | _ => cases h
    | _ => cases h
  | .mt m a es => by
    intro k X W x hi hk h
    refine soe_of (hi := hi) ?_ (fun _ z => z) rfl
    cases x with
    | Call f' as ks p =>
      cases f' with
      | Attribute o nmm ap =>
        match as, ks, h with
        | [], _, h => cases h
        | [_], _ :: _, h => cases h
        | _ :: _ :: _, _, h => cases h
        | [l], [], h =>
          have h : (decide (nmm = nameM m) && decide (m ≠ .get) && okE G k a o && okEs G k es [l] && notStar l && (ap.endLine == p.line) && notCall o) = true := h
          simp only [Bool.and_eq_true, decide_eq_true_eq] at h
          obtain ⟨⟨⟨⟨⟨⟨rfl, h2⟩, h3⟩, h4⟩, h5⟩, h6⟩, h7⟩ := h
          exact rd_mt h7 hi.un m h2 (soE ok all gk a k X W _ hi hk h3).1 h6 ((soEs ok all gk es k X W hi hk).1 _ h4) h5
      | _ => cases h
    | _ => cases h
  | .comp mu t src ts e own => by
    intro k X W x hi hk h
    refine soe_of (hi := hi) ?_ (fun _ z => z) rfl
    cases x with
    | ListComp elt gens scope p =>
      match gens, h with
      | [], h => cases h
      | _ :: _ :: _, h => simp [okE] at h
      | [⟨tg, iter, ifs, as⟩], h =>
        by_cases ha : as = 0
        · subst ha
          have h : ((if isLv src then okL G k src tg iter && pureG t && pureO ts && pureE e else okI G k src tg iter) && blkC k.N k.sc scope (ownP k.N own) && okG G (k.blk scope) t tg && okT G (k.blk scope) ts ifs && okE G (k.blk scope) e elt && (gIx t).all (fun i => decide (i ∈ own)) && notSet iter) = true := h
          simp only [Bool.and_eq_true] at h
          obtain ⟨⟨⟨⟨⟨⟨h1, h2⟩, h3⟩, h4⟩, h5⟩, h6⟩, h7⟩ := h
          by_cases hlv : isLv src = true
          · rw [if_pos hlv] at h1
            simp only [Bool.and_eq_true] at h1
            obtain ⟨⟨⟨k1, k2⟩, k3⟩, k4⟩ := h1
            have q := rd_compP (pos := p) (fa := g.fa) (ca := g.ca) (W := W) (mu := mu) (l := gIx t) (own := ownP k.N own) hi.calm hi.nd (soL ok all gk src k X W tg iter hi hk k1) (by rw [hk.N, hk.sc]; exact h2)
              (fun Y hY => by rw [← hY.tb]; exact soG ok all gk t (k.blk scope) Y W0 tg (hi.blk hY) (hk.blk hY) h3)
              (fun Y hY => by rw [← hY.tb]; exact (soO ok all gk ts (k.blk scope) Y W0 (hi.blk hY) (hk.blk hY)).2 rfl ifs h4)
              (fun Y hY => by rw [← hY.tb]; exact (soE ok all gk e (k.blk scope) Y W0 elt (hi.blk hY) (hk.blk hY) h5).1)
              (fun i hix => by rw [ownP_ix]; exact of_decide_eq_true (List.all_eq_true.mp h6 i hix)) (notSet_ok h7) (pure_turn k2 k3 k4)
            rw [ownP_ix] at q
            exact q
          rw [if_neg hlv] at h1
          have q := rd_comp (pos := p) (fa := g.fa) (ca := g.ca) (W := W) (mu := mu) (l := gIx t) (own := ownP k.N own) hi.calm hi.nd (soI ok all gk src k X W tg iter hi hk h1) (by rw [hk.N, hk.sc]; exact h2)
            (fun Y hY => by rw [← hY.tb]; exact soG ok all gk t (k.blk scope) Y W0 tg (hi.blk hY) (hk.blk hY) h3)
            (fun Y hY => by rw [← hY.tb]; exact (soO ok all gk ts (k.blk scope) Y W0 (hi.blk hY) (hk.blk hY)).2 rfl ifs h4)
            (fun Y hY => by rw [← hY.tb]; exact (soE ok all gk e (k.blk scope) Y W0 elt (hi.blk hY) (hk.blk hY) h5).1)
            (fun i hix => by rw [ownP_ix]; exact of_decide_eq_true (List.all_eq_true.mp h6 i hix)) (notSet_ok h7)
          rw [ownP_ix] at q
          exact q
        · exact absurd h (by simp [okE, ha])
    | _ => cases h
  | .dcomp mu t src ts kd vd own => by
    intro k X W x hi hk h
    refine soe_of (hi := hi) ?_ (fun _ z => z) rfl
    cases x with
    | DictComp kx vx gens scope p =>
      match gens, h with
      | [], h => cases h
      | _ :: _ :: _, h => simp [okE] at h
      | [⟨tg, iter, ifs, as⟩], h =>
        by_cases ha : as = 0
        · subst ha
          have h : (okI G k src tg iter && blkC k.N k.sc scope (ownP k.N own) && okG G (k.blk scope) t tg && okT G (k.blk scope) ts ifs && okE G (k.blk scope) kd kx && okE G (k.blk scope) vd vx && (gIx t).all (fun i => decide (i ∈ own)) && notSet iter) = true := h
          simp only [Bool.and_eq_true] at h
          obtain ⟨⟨⟨⟨⟨⟨⟨h1, h2⟩, h3⟩, ht⟩, h4⟩, h5⟩, h6⟩, h7⟩ := h
          have q := rd_dcomp (mu := mu) (pos := p) (fa := g.fa) (ca := g.ca) (W := W) (l := gIx t) (own := ownP k.N own) hi.calm hi.nd hi.un (soI ok all gk src k X W tg iter hi hk h1) (by rw [hk.N, hk.sc]; exact h2)
            (fun Y hY => by rw [← hY.tb]; exact soG ok all gk t (k.blk scope) Y W0 tg (hi.blk hY) (hk.blk hY) h3)
            (fun Y hY => by rw [← hY.tb]; exact (soO ok all gk ts (k.blk scope) Y W0 (hi.blk hY) (hk.blk hY)).2 rfl ifs ht)
            (fun Y hY => by rw [← hY.tb]; exact (soE ok all gk kd (k.blk scope) Y W0 kx (hi.blk hY) (hk.blk hY) h4).1)
            (fun Y hY => by rw [← hY.tb]; exact (soE ok all gk vd (k.blk scope) Y W0 vx (hi.blk hY) (hk.blk hY) h5).1)
            (fun i hix => by rw [ownP_ix]; exact of_decide_eq_true (List.all_eq_true.mp h6 i hix)) (notSet_ok h7)
          rw [ownP_ix] at q
          exact q
        · exact absurd h (by simp [okE, ha])
    | _ => cases h
theorem soEs (ok : g.Ok) (all : g.All n) (gk : GkOk G g) : ∀ es : MEs, SoEs g G n es
  | .nil => by
    intro k X W hi hk
    refine ⟨fun xs h => ?_, fun xs h => ?_⟩
    · cases xs with
      | nil => exact ra_nil
      | cons _ _ => cases h
    · cases xs with
      | nil => exact rk_nil
      | cons _ _ => cases h
  | .cons e r => by
    intro k X W hi hk
    refine ⟨fun xs h => ?_, fun xs h => ?_⟩
    · cases xs with
      | nil => cases h
      | cons x ys =>
        have h : (okE G k e x && notStar x && okEs G k r ys) = true := h
        simp only [Bool.and_eq_true] at h
        obtain ⟨⟨h1, h2⟩, h3⟩ := h
        exact ra_cons (soE ok all gk e k X W x hi hk h1).1 ((soEs ok all gk r k X W hi hk).1 ys h3) h2
    · cases xs with
      | nil => cases h
      | cons x ys =>
        obtain ⟨nm, v, kp⟩ := x
        have h : (okE G k e v && okKs G k r ys) = true := h
        simp only [Bool.and_eq_true] at h
        exact rk_cons (soE ok all gk e k X W v hi hk h.1).1 ((soEs ok all gk r k X W hi hk).2 ys h.2)
theorem soO (ok : g.Ok) (all : g.All n) (gk : GkOk G g) : ∀ o : MO, SoO g G n o
  | .no => by
    intro k X W hi hk
    refine ⟨fun x h => ?_, fun _ xs h => ?_⟩
    · cases x with
      | none => exact ro_no
      | some _ => cases h
    · cases xs with
      | nil => exact rts_nil
      | cons _ _ => cases h
  | .so e => by
    intro k X W hi hk
    refine ⟨fun x h => ?_, fun hw xs h => ?_⟩
    · cases x with
      | none => cases h
      | some y => exact ro_so (soE ok all gk e k X W y hi hk h).1
    · match xs, h with
      | [], h => cases h
      | _ :: _ :: _, h => cases h
      | [y], h =>
        have h : (okE G k e y && okTst e y) = true := h
        simp only [Bool.and_eq_true] at h
        subst hw
        exact pts_one ((soE ok all gk e k X W0 y hi hk h.1).2.1 h.2)
theorem soG (ok : g.Ok) (all : g.All n) (gk : GkOk G g) : ∀ t : MG, SoG g G n t
  | .nm i => by
    intro k X W x hi hk h
    cases x with
    | Name y p =>
      obtain ⟨h1, h2, h3⟩ := st_ok hk (show k.st i y = true from h)
      exact rg_nm hi.nd h1 h2 h3
    | _ => cases h
  | .tp gs => by
    intro k X W x hi hk h
    cases x with
    | Tuple xs _ p =>
      have h : (notStars xs && okGs G k gs xs) = true := h
      simp only [Bool.and_eq_true] at h
      obtain ⟨p1, p2⟩ := soGs ok all gk gs k X W xs hi hk h.2
      exact rg_tp hi.calm h.1 p2 p1
    | _ => cases h
  | .sub a b => by
    intro k X W x hi hk h
    cases x with
    | Subscript l r p =>
      have h : (okE G k a l && okE G k b r && plainIx r) = true := h
      simp only [Bool.and_eq_true] at h
      obtain ⟨⟨h1, h2⟩, h3⟩ := h
      exact rg_sub hi.un h3 (soE ok all gk a k X W0 l hi.w0 hk h1).1 (soE ok all gk b k X W0 r hi.w0 hk h2).1
    | _ => cases h
theorem soGs (ok : g.Ok) (all : g.All n) (gk : GkOk G g) : ∀ t : MGs, SoGs g G n t
  | .nil => by
    intro k X W xs hi hk h
    cases xs with
    | cons _ _ => cases h
    | nil =>
      refine ⟨PGs.mono rgs_nil fun v σ H Q ⟨F, G, m, s, τ, ds, r, hs, rd, h⟩ => ⟨F, G, m, s, τ, ds, r, hs, rd, ?_⟩, fun ds τ s hne => ?_⟩
      · cases ds <;> exact h
      · cases ds with
        | nil => rfl
        | cons _ _ => exact absurd rfl hne
  | .cons t r => by
    intro k X W xs hi hk h
    cases xs with
    | nil => cases h
    | cons x ys =>
      have h : (okG G k t x && notStar x && okGs G k r ys) = true := h
      simp only [Bool.and_eq_true] at h
      obtain ⟨⟨h1, h2⟩, h3⟩ := h
      obtain ⟨p1, p2⟩ := soGs ok all gk r k X W ys hi hk h3
      refine ⟨PGs.mono (rgs_cons h2 (soG ok all gk t k X W x hi hk h1) p1) fun v σ H Q ⟨F, G, m, s, τ, ds, r, hs, rd, h⟩ => ⟨F, G, m, s, τ, ds, r, hs, rd, ?_⟩, fun ds τ s hne => ?_⟩
      · cases ds <;> exact h
      · cases ds with
        | nil => exact absurd rfl hne
        | cons d ds =>
          simp only [evGs] at hne
          cases e : evG (ccOf g n) t d τ s with
          | ok τ1 s1 =>
            rw [e] at hne
            rw [List.length_cons, List.length_cons, p2 ds τ1 s1 hne]
          | _ => rw [e] at hne; exact absurd rfl hne
theorem soL (ok : g.Ok) (all : g.All n) (gk : GkOk G g) : ∀ o : MI, SoL g G n o
  | .lv e => by
    intro k X W tg x hi hk h
    exact ri_lv (soE ok all gk e k X W x hi hk h).1
  | .lve e => by
    intro k X W tg x hi hk h
    cases x with
    | Call f' as ks p =>
      cases f' with
      | Name y q =>
        match as, ks, h with
        | [], _, h => cases h
        | [_], _ :: _, h => cases h
        | _ :: _ :: _, _, h => cases h
        | [l], [], h =>
          have h : (isTupE tg && decide (y = "enumerate") && k.glb y && G.free y && notStar l && okE G k e l) = true := h
          simp only [Bool.and_eq_true, decide_eq_true_eq] at h
          obtain ⟨⟨⟨⟨⟨h1, rfl⟩, h2⟩, h3⟩, h4⟩, h5⟩ := h
          cases tg with
          | Tuple _ _ _ => exact ri_lve (glb_ok hk h2) (by rw [hi.mg]; exact gk.free _ h3) (soE ok all gk e k X W l hi hk h5).1 h4
          | _ => cases h1
      | _ => cases h
    | _ => cases h
  | .it _ => fun k X W tg x hi hk h => by cases h
  | .rng _ => fun k X W tg x hi hk h => by cases h
  | .rng2 _ _ => fun k X W tg x hi hk h => by cases h
  | .zip2 _ _ => fun k X W tg x hi hk h => by cases h
  | .zip3 _ _ _ => fun k X W tg x hi hk h => by cases h
  | .enu _ => fun k X W tg x hi hk h => by cases h
theorem soI (ok : g.Ok) (all : g.All n) (gk : GkOk G g) : ∀ o : MI, SoI g G n o
  | .lv _ => fun k X W tg x hi hk h => by cases h
  | .lve _ => fun k X W tg x hi hk h => by cases h
  | .it e => by
    intro k X W tg x hi hk h
    exact ri_it (soE ok all gk e k X W x hi hk h).1
  | .rng e => by
    intro k X W tg x hi hk h
    cases x with
    | Call f' as ks p =>
      cases f' with
      | Name y q =>
        match as, ks, h with
        | [], _, h => cases h
        | [_], _ :: _, h => cases h
        | _ :: _ :: _, _, h => cases h
        | [l], [], h =>
          have h : (decide (y = "range") && k.glb y && G.free y && notStar l && okE G k e l) = true := h
          simp only [Bool.and_eq_true, decide_eq_true_eq] at h
          obtain ⟨⟨⟨⟨rfl, h2⟩, h3⟩, h4⟩, h5⟩ := h
          exact ri_rng (glb_ok hk h2) (by rw [hi.mg]; exact gk.free _ h3) (soE ok all gk e k X W l hi hk h5).1 h4
      | _ => cases h
    | _ => cases h
  | .rng2 a b => by
    intro k X W tg x hi hk h
    cases x with
    | Call f' as ks p =>
      cases f' with
      | Name y q =>
        match as, ks, h with
        | [], _, h => cases h
        | [_], _, h => cases h
        | [_, _], _ :: _, h => cases h
        | _ :: _ :: _ :: _, _, h => cases h
        | [l, r], [], h =>
          have h : (decide (y = "range") && k.glb y && G.free y && notStar l && notStar r && okE G k a l && okE G k b r) = true := h
          simp only [Bool.and_eq_true, decide_eq_true_eq] at h
          obtain ⟨⟨⟨⟨⟨⟨rfl, h2⟩, h3⟩, h4⟩, h5⟩, h6⟩, h7⟩ := h
          exact ri_rng2 (glb_ok hk h2) (by rw [hi.mg]; exact gk.free _ h3) (soE ok all gk a k X W l hi hk h6).1 (soE ok all gk b k X W r hi hk h7).1 h4 h5
      | _ => cases h
    | _ => cases h
  | .zip2 a b => by
    intro k X W tg x hi hk h
    cases x with
    | Call f' as ks p =>
      cases f' with
      | Name y q =>
        match as, ks, h with
        | [], _, h => cases h
        | [_], _, h => cases h
        | [_, _], _ :: _, h => cases h
        | _ :: _ :: _ :: _, _, h => cases h
        | [l, r], [], h =>
          have h : (isTupE tg && decide (y = "zip") && k.glb y && G.free y && notStar l && notStar r && okE G k a l && okE G k b r) = true := h
          simp only [Bool.and_eq_true, decide_eq_true_eq] at h
          obtain ⟨⟨⟨⟨⟨⟨⟨h1, rfl⟩, h2⟩, h3⟩, h4⟩, h5⟩, h6⟩, h7⟩ := h
          cases tg with
          | Tuple _ _ _ => exact ri_zip2 (glb_ok hk h2) (by rw [hi.mg]; exact gk.free _ h3) (soE ok all gk a k X W l hi hk h6).1 (soE ok all gk b k X W r hi hk h7).1 h4 h5
          | _ => cases h1
      | _ => cases h
    | _ => cases h
  | .zip3 a b d => by
    intro k X W tg x hi hk h
    cases x with
    | Call f' as ks p =>
      cases f' with
      | Name y q =>
        match as, ks, h with
        | [], _, h => cases h
        | [_], _, h => cases h
        | [_, _], _, h => cases h
        | [_, _, _], _ :: _, h => cases h
        | _ :: _ :: _ :: _ :: _, _, h => cases h
        | [l, r, t], [], h =>
          have h : (isTupE tg && decide (y = "zip") && k.glb y && G.free y && notStar l && notStar r && notStar t && okE G k a l && okE G k b r && okE G k d t) = true := h
          simp only [Bool.and_eq_true, decide_eq_true_eq] at h
          obtain ⟨⟨⟨⟨⟨⟨⟨⟨⟨h1, rfl⟩, h2⟩, h3⟩, h4⟩, h5⟩, h8⟩, h6⟩, h7⟩, h9⟩ := h
          cases tg with
          | Tuple _ _ _ => exact ri_zip3 (glb_ok hk h2) (by rw [hi.mg]; exact gk.free _ h3) (soE ok all gk a k X W l hi hk h6).1 (soE ok all gk b k X W r hi hk h7).1 (soE ok all gk d k X W t hi hk h9).1 h4 h5 h8
          | _ => cases h1
      | _ => cases h
    | _ => cases h
  | .enu e => by
    intro k X W tg x hi hk h
    cases x with
    | Call f' as ks p =>
      cases f' with
      | Name y q =>
        match as, ks, h with
        | [], _, h => cases h
        | [_], _ :: _, h => cases h
        | _ :: _ :: _, _, h => cases h
        | [l], [], h =>
          have h : (isTupE tg && decide (y = "enumerate") && k.glb y && G.free y && notStar l && okE G k e l) = true := h
          simp only [Bool.and_eq_true, decide_eq_true_eq] at h
          obtain ⟨⟨⟨⟨⟨h1, rfl⟩, h2⟩, h3⟩, h4⟩, h5⟩ := h
          cases tg with
          | Tuple _ _ _ => exact ri_enu (glb_ok hk h2) (by rw [hi.mg]; exact gk.free _ h3) (soE ok all gk e k X W l hi hk h5).1 h4
          | _ => cases h1
      | _ => cases h
    | _ => cases h
end
end
end Mi
set_option Elab.async false
set_option linter.all false
set_option maxRecDepth 100000
set_option maxHeartbeats 1000000
/-! Mi24: statements and defs that pass the check. -/
namespace Mi
open PySem PySem.Spec PyProof.Rows L2
section
variable {g : Ge} {G : Gk} {n : Nat} {k : Kc} {X : Cx} {W : WX}
theorem blockKind_fn {env : Env} (h : env.scope.kind = .function) : env.blockKind = .function := by
  unfold Env.blockKind
  rw [h]
  rfl
theorem loc_eq (hk : KOk k X) (x : Str) : (X.env.kindOf x == some NameKind.local) = k.loc x := by
  unfold Kc.loc
  show (X.env.scope.names.lookup x == some NameKind.local) = _
  rw [hk.sc]
  cases k.sc.names.lookup x with
  | none => rfl
  | some kk => cases kk <;> rfl
theorem sw_lc (hk : KOk k X) (hf : X.env.scope.kind = .function) {elt : Expr} {gs : List Comprehension} {s : Scope} {q p : Pos} {x : Str} {l : Nat} : swapsWith (.ListComp elt gs s q) (some (.Name x p)) l X.env = pure (k.sw x p s q) := by
  have e : swapsWith (.ListComp elt gs s q) (some (.Name x p)) l X.env = pure ((X.env.blockKind == .function) && (X.env.kindOf x == some .local) && (p.line == q.line) && !(s.names.any fun (n, kk) => n == x && (kk == .local || kk == .cell))) := rfl
  rw [e, blockKind_fn hf, loc_eq hk]
  rfl
theorem sw_dc (hk : KOk k X) (hf : X.env.scope.kind = .function) {kx vx : Expr} {gs : List Comprehension} {s : Scope} {q p : Pos} {x : Str} {l : Nat} : swapsWith (.DictComp kx vx gs s q) (some (.Name x p)) l X.env = pure (k.sw x p s q) := by
  have e : swapsWith (.DictComp kx vx gs s q) (some (.Name x p)) l X.env = pure ((X.env.blockKind == .function) && (X.env.kindOf x == some .local) && (p.line == q.line) && !(s.names.any fun (n, kk) => n == x && (kk == .local || kk == .cell))) := rfl
  rw [e, blockKind_fn hf, loc_eq hk]
  rfl
theorem sw_no {e : Expr} {t : Option Expr} {l : Nat} {env : Env} (h : notComp e = true) : swapsWith e t l env = pure false := by
  cases e <;> first | rfl | (simp [notComp] at h)
theorem set_ok (ok : g.Ok) (all : g.All n) (gk : GkOk G g) (hi : In g X W n) (hk : KOk k X) (hf : X.env.scope.kind = .function) {i : Nat} {e : ME} {x : Str} {p pos : Pos} {v : Expr} (h1 : k.st i x = true) (h2 : okE G k e v = true) (h3 : okSet k e x p v = true) :
    PS X (.Assign [.Name x p] v pos) (sRd (tb X g.fa g.ca) W (evS (ccOf g n) (.set i e))) := by
  obtain ⟨q1, q2, q3⟩ := st_ok hk h1
  have pe := (soE ok all gk e k X W v hi hk h2).1
  have plain : swapsWith v (some (.Name x p)) pos.line X.env = pure false → PS X (.Assign [.Name x p] v pos) (sRd (tb X g.fa g.ca) W (evS (ccOf g n) (.set i e))) := fun hs => rs_set hi.nd q1 q2 q3 pe hs
  cases v with
  | ListComp elt gens scope q =>
    cases hsw : k.sw x p scope q with
    | false => exact plain (by rw [sw_lc hk hf, hsw])
    | true =>
      replace h3 : (!k.sw x p scope q || isCompM e) = true := h3
      rw [hsw] at h3
      cases e with
      | comp mu t src ts ee own =>
        match gens, h2 with
        | [], h2 => cases h2
        | _ :: _ :: _, h2 => simp [okE] at h2
        | [⟨tg, iter, ifs, as⟩], h2 =>
          by_cases ha : as = 0
          · subst ha
            have hlv : isLv src = false := by simpa [isCompM] using h3
            have h2 : ((if isLv src then okL G k src tg iter && pureG t && pureO ts && pureE ee else okI G k src tg iter) && blkC k.N k.sc scope (ownP k.N own) && okG G (k.blk scope) t tg && okT G (k.blk scope) ts ifs && okE G (k.blk scope) ee elt && (gIx t).all (fun i => decide (i ∈ own)) && notSet iter) = true := h2
            simp only [Bool.and_eq_true] at h2
            obtain ⟨⟨⟨⟨⟨⟨g1, g2⟩, g3⟩, g4⟩, g5⟩, g6⟩, g7⟩ := h2
            rw [if_neg (by rw [hlv]; exact Bool.false_ne_true)] at g1
            have hl : X.env.scope.names.lookup x = some .local := by
              have z : (k.loc x && (p.line == q.line) && !(scope.names.any fun (n, kk) => n == x && (kk == .local || kk == .cell))) = true := hsw
              simp only [Bool.and_eq_true] at z
              exact loc_ok hk z.1.1
            have z := rs_setLc (spos := pos) (pos := q) (fa := g.fa) (ca := g.ca) (W := W) (mu := mu) (l := gIx t) (own := ownP k.N own) hi.calm hi.nd q1 hl ((sw_lc hk hf).trans (congrArg pure hsw)) (soI ok all gk src k X W tg iter hi hk g1) (by rw [hk.N, hk.sc]; exact g2)
              (fun Y hY => by rw [← hY.tb]; exact soG ok all gk t (k.blk scope) Y W0 tg (hi.blk hY) (hk.blk hY) g3)
              (fun Y hY => by rw [← hY.tb]; exact (soO ok all gk ts (k.blk scope) Y W0 (hi.blk hY) (hk.blk hY)).2 rfl ifs g4)
              (fun Y hY => by rw [← hY.tb]; exact (soE ok all gk ee (k.blk scope) Y W0 elt (hi.blk hY) (hk.blk hY) g5).1)
              (fun i hix => by rw [ownP_ix]; exact of_decide_eq_true (List.all_eq_true.mp g6 i hix)) (notSet_ok g7)
            rw [ownP_ix] at z
            exact PS.mono z fun D σ H h => set_rd h
          · exact absurd h2 (by simp [okE, ha])
      | _ => cases h3
  | DictComp kx vx gens scope q =>
    cases hsw : k.sw x p scope q with
    | false => exact plain (by rw [sw_dc hk hf, hsw])
    | true =>
      have h3 : (!k.sw x p scope q || isDCompM e) = true := h3
      rw [hsw] at h3
      cases e with
      | dcomp mu t src ts kd vd own =>
        match gens, h2 with
        | [], h2 => cases h2
        | _ :: _ :: _, h2 => simp [okE] at h2
        | [⟨tg, iter, ifs, as⟩], h2 =>
          by_cases ha : as = 0
          · subst ha
            have h2 : (okI G k src tg iter && blkC k.N k.sc scope (ownP k.N own) && okG G (k.blk scope) t tg && okT G (k.blk scope) ts ifs && okE G (k.blk scope) kd kx && okE G (k.blk scope) vd vx && (gIx t).all (fun i => decide (i ∈ own)) && notSet iter) = true := h2
            simp only [Bool.and_eq_true] at h2
            obtain ⟨⟨⟨⟨⟨⟨⟨g1, g2⟩, g3⟩, gt⟩, g4⟩, g5⟩, g6⟩, g7⟩ := h2
            have hl : X.env.scope.names.lookup x = some .local := by
              have z : (k.loc x && (p.line == q.line) && !(scope.names.any fun (n, kk) => n == x && (kk == .local || kk == .cell))) = true := hsw
              simp only [Bool.and_eq_true] at z
              exact loc_ok hk z.1.1
            have z := rs_setDc (mu := mu) (spos := pos) (pos := q) (fa := g.fa) (ca := g.ca) (W := W) (l := gIx t) (own := ownP k.N own) hi.calm hi.nd hi.un q1 hl ((sw_dc hk hf).trans (congrArg pure hsw)) (soI ok all gk src k X W tg iter hi hk g1) (by rw [hk.N, hk.sc]; exact g2)
              (fun Y hY => by rw [← hY.tb]; exact soG ok all gk t (k.blk scope) Y W0 tg (hi.blk hY) (hk.blk hY) g3)
              (fun Y hY => by rw [← hY.tb]; exact (soO ok all gk ts (k.blk scope) Y W0 (hi.blk hY) (hk.blk hY)).2 rfl ifs gt)
              (fun Y hY => by rw [← hY.tb]; exact (soE ok all gk kd (k.blk scope) Y W0 kx (hi.blk hY) (hk.blk hY) g4).1)
              (fun Y hY => by rw [← hY.tb]; exact (soE ok all gk vd (k.blk scope) Y W0 vx (hi.blk hY) (hk.blk hY) g5).1)
              (fun i hix => by rw [ownP_ix]; exact of_decide_eq_true (List.all_eq_true.mp g6 i hix)) (notSet_ok g7)
            rw [ownP_ix] at z
            exact PS.mono z fun D σ H h => set_rd h
          · exact absurd h2 (by simp [okE, ha])
      | _ => cases h3
  | SetComp _ _ _ _ => cases h3
  | _ => exact plain (sw_no rfl)
mutual
theorem evG_ne (c : Cc) : ∀ (t : MG) (d : D) (τ : Tau) (s : S) (x : Exc) (s' : S), evG c t d τ s ≠ .exc x s'
  | .nm i, d, τ, s, x, s' => by simp [evG]
  | .tp gs, d, τ, s, x, s' => by
    cases d with
    | tup ds => simp only [evG]; exact evGs_ne c gs ds τ s x s'
    | _ => simp [evG]
  | .sub a b, d, τ, s, x, s' => by
    simp only [evG]
    cases evE c a τ s with
    | ok u s1 =>
      simp only
      cases evE c b τ s1 with
      | ok v s2 =>
        simp only
        cases setIx u v d s2 <;> simp
      | _ => simp
    | _ => simp
theorem evGs_ne (c : Cc) : ∀ (t : MGs) (ds : List D) (τ : Tau) (s : S) (x : Exc) (s' : S), evGs c t ds τ s ≠ .exc x s'
  | .nil, ds, τ, s, x, s' => by cases ds <;> simp [evGs]
  | .cons t r, [], τ, s, x, s' => by simp [evGs]
  | .cons t r, d :: ds, τ, s, x, s' => by
    simp only [evGs]
    cases e : evG c t d τ s with
    | ok τ1 s1 => simp only; exact evGs_ne c r ds τ1 s1 x s'
    | exc y s1 => simp
    | stuck => simp
end
theorem ss_tup (hk : KOk k X) {ts vs : List Expr} {kt kv : Nat} {pt pv : Pos} (h : okSs k (.Tuple ts kt pt) (.Tuple vs kv pv) = true) : swappedStores [.Tuple ts kt pt] (.Tuple vs kv pv) X.env = pure none := by
  have hkd : ∀ x, (X.env.kindOf x == some NameKind.local) = (k.sc.names.lookup x == some .local) := fun x => by
    show (X.env.scope.names.lookup x == _) = _
    rw [hk.sc]
  unfold swappedStores
  simp only [okSs, Bool.or_eq_true] at h
  simp only [hkd]
  split
  · rfl
  · rename_i c1
    split
    · rfl
    · split
      · rfl
      · rename_i c2
        split
        · rfl
        · rename_i c3
          exfalso
          simp only [Bool.or_eq_true, not_or] at c1 c2
          rcases h with (h | h) | h
          · exact h.elim c1.1.1 c1.1.2
          · exact c2.1 h
          · exact c3 h
theorem ss_par (hk : KOk k X) (hf : X.env.scope.kind = .function) {x y : Str} {px py pt pv : Pos} {kt kv : Nat} {a b : Expr} (hne : x ≠ y) (hx : k.loc x = true) (hy : k.loc y = true) (hp : (py.line == px.line) = true) (ha : notStar a = true) (hb : notStar b = true) (h1 : (foldedForSure 8 a && foldedForSure 8 b) = false) (h2 : (constantsAlone 8 a && constantsAlone 8 b) = false) :
    swappedStores [.Tuple [.Name x px, .Name y py] kt pt] (.Tuple [a, b] kv pv) X.env = pure (some [x, y]) := by
  have kx : (X.env.kindOf x == some NameKind.local) = true := by rw [loc_eq hk]; exact hx
  have ky : (X.env.kindOf y == some NameKind.local) = true := by rw [loc_eq hk]; exact hy
  have e1 : ([x, y] : List Str).eraseDups = [x, y] := by
    have q : (y == x) = false := beq_eq_false_iff_ne.mpr (Ne.symm hne)
    simp [List.eraseDups, List.eraseDupsBy, List.eraseDupsBy.loop, q]
  unfold swappedStores
  simp only [blockKind_fn hf]
  split
  · rename_i c1
    simp at c1
  · split
    · rename_i _ c2
      exfalso
      simp only [List.any_cons, List.any_nil, Bool.or_false, Bool.or_eq_true] at c2
      rcases c2 with c2 | c2
      · cases a <;> first | exact Bool.false_ne_true c2 | exact Bool.false_ne_true ha
      · cases b <;> first | exact Bool.false_ne_true c2 | exact Bool.false_ne_true hb
    · simp only [List.filterMap_cons, List.filterMap_nil, List.head?_cons, Option.map_some, Option.getD_some, kx, ky, Bool.true_and, Expr.pos, beq_self_eq_true, hp, if_true, e1, List.all_cons, List.all_nil, Bool.and_true, h1, h2, List.length_cons, List.length_nil, bne_self_eq_false, Bool.or_self, Bool.false_eq_true, if_false]
theorem ss_par3 (hk : KOk k X) (hf : X.env.scope.kind = .function) {x y z : Str} {px py pz pt pv : Pos} {kt kv : Nat} {a b c : Expr} (hxy : x ≠ y) (hxz : x ≠ z) (hyz : y ≠ z) (hx : k.loc x = true) (hy : k.loc y = true) (hz : k.loc z = true) (hp : (py.line == px.line) = true) (hp2 : (pz.line == px.line) = true) (ha : notStar a = true) (hb : notStar b = true) (hc : notStar c = true) (h1 : (foldedForSure 8 a && foldedForSure 8 b && foldedForSure 8 c) = false) (h2 : (constantsAlone 8 a && constantsAlone 8 b && constantsAlone 8 c) = false) :
    swappedStores [.Tuple [.Name x px, .Name y py, .Name z pz] kt pt] (.Tuple [a, b, c] kv pv) X.env = pure (some [x, y, z]) := by
  have kx : (X.env.kindOf x == some NameKind.local) = true := by rw [loc_eq hk]; exact hx
  have ky : (X.env.kindOf y == some NameKind.local) = true := by rw [loc_eq hk]; exact hy
  have kz : (X.env.kindOf z == some NameKind.local) = true := by rw [loc_eq hk]; exact hz
  have e1 : ([x, y, z] : List Str).eraseDups = [x, y, z] := by
    have q : (y == x) = false := beq_eq_false_iff_ne.mpr (Ne.symm hxy)
    have q2 : (z == x) = false := beq_eq_false_iff_ne.mpr (Ne.symm hxz)
    have q3 : (z == y) = false := beq_eq_false_iff_ne.mpr (Ne.symm hyz)
    simp [List.eraseDups, List.eraseDupsBy, List.eraseDupsBy.loop, q, q2, q3]
  have g1 : (foldedForSure 8 a && (foldedForSure 8 b && foldedForSure 8 c)) = false := by rw [← Bool.and_assoc]; exact h1
  have g2 : (constantsAlone 8 a && (constantsAlone 8 b && constantsAlone 8 c)) = false := by rw [← Bool.and_assoc]; exact h2
  unfold swappedStores
  simp only [blockKind_fn hf]
  split
  · rename_i c1
    simp at c1
  · split
    · rename_i _ c2
      exfalso
      simp only [List.any_cons, List.any_nil, Bool.or_false, Bool.or_eq_true] at c2
      rcases c2 with c2 | c2 | c2
      · cases a <;> first | exact Bool.false_ne_true c2 | exact Bool.false_ne_true ha
      · cases b <;> first | exact Bool.false_ne_true c2 | exact Bool.false_ne_true hb
      · cases c <;> first | exact Bool.false_ne_true c2 | exact Bool.false_ne_true hc
    · simp only [List.filterMap_cons, List.filterMap_nil, List.head?_cons, Option.map_some, Option.getD_some, kx, ky, kz, Bool.true_and, Expr.pos, beq_self_eq_true, hp, hp2, if_true, e1, List.all_cons, List.all_nil, Bool.and_true, g1, g2, List.length_cons, List.length_nil, bne_self_eq_false, Bool.or_self, Bool.false_eq_true, if_false]
theorem ss_none (hk : KOk k X) (hf : X.env.scope.kind = .function) {t v : Expr} (h : okSs k t v = true) : swappedStores [t] v X.env = pure none ∧ ∀ l, swapsWithSole [t] v l X.env = pure false := by
  have sole : (∀ x p, t ≠ .Name x p) → ∀ l, swapsWithSole [t] v l X.env = pure false := by
    intro hn l
    show swapsWith v (some t) l X.env = pure false
    cases t with
    | Name x p => exact absurd rfl (hn x p)
    | _ => cases v <;> rfl
  cases t with
  | Name _ _ => cases h
  | List _ _ => cases h
  | Tuple ts kt pt =>
    refine ⟨?_, sole (fun _ _ z => by cases z)⟩
    cases v with
    | Tuple vs kv pv => exact ss_tup hk h
    | _ => rfl
  | _ => exact ⟨by cases v <;> rfl, sole (fun _ _ z => by cases z)⟩
abbrev SoS (g : Ge) (G : Gk) (n : Nat) (s : MS) : Prop := ∀ (k : Kc) (X : Cx) (W : WX) (x : Stmt), In g X W n → KOk k X → PassesOwn (model X.prog X.w) X.A X.env X.xe → X.env.scope.kind = .function → okS G k s x = true → PS X x (sRd (tb X g.fa g.ca) W (evS (ccOf g n) s))
abbrev SoB (g : Ge) (G : Gk) (n : Nat) (b : MSs) : Prop := ∀ (k : Kc) (X : Cx) (W : WX) (xs : List Stmt), In g X W n → KOk k X → PassesOwn (model X.prog X.w) X.A X.env X.xe → X.env.scope.kind = .function → okB G k b xs = true → PSs X xs (sRd (tb X g.fa g.ca) W (evSs (ccOf g n) b))
def isFrz : MS → Bool
  | .gfrz _ => true
  | _ => false
theorem okB_cons {s : MS} {r : MSs} {xs : List Stmt} (h : okB G k (.cons s r) xs = true) : (∃ i, s = .gfrz i ∧ okB G k r xs = true) ∨ ∃ x ys, xs = x :: ys ∧ okS G k s x = true ∧ okB G k r ys = true := by
  cases s with
  | gfrz i => exact .inl ⟨i, rfl, h⟩
  | never =>
    right
    cases xs with
    | nil => cases h
    | cons x ys => exact ⟨x, ys, rfl, rfl, h⟩
  | _ =>
    right
    cases xs with
    | nil => cases h
    | cons x ys =>
      have h := Bool.and_eq_true_iff.mp h
      exact ⟨x, ys, rfl, h.1, h.2⟩
mutual
theorem soS (ok : g.Ok) (all : g.All n) (gk : GkOk G g) : ∀ s : MS, SoS g G n s
  | .set i e => by
    intro k X W x hi hk hp hf h
    cases x with
    | Assign ts v p =>
      match ts, h with
      | [], h => cases h
      | _ :: _ :: _, h => simp [okS] at h
      | [t], h =>
        cases t with
        | Name y q =>
          have h : (k.st i y && okE G k e v && okSet k e y q v) = true := h
          simp only [Bool.and_eq_true] at h
          exact set_ok ok all gk hi hk hf h.1.1 h.1.2 h.2
        | _ => cases h
    | _ => cases h
  | .asg t e => by
    intro k X W x hi hk hp hf h
    cases x with
    | Assign ts v p =>
      match ts, h with
      | [], h => cases h
      | _ :: _ :: _, h => cases h
      | [y], h =>
        have h : (okE G k e v && okG G k t y && okSs k y v && notStar y) = true := h
        simp only [Bool.and_eq_true] at h
        obtain ⟨⟨⟨h1, h2⟩, h3⟩, h4⟩ := h
        obtain ⟨z1, z2⟩ := ss_none hk hf h3
        exact rs_asg (soE ok all gk e k X W v hi hk h1).1 (soG ok all gk t k X W y hi hk h2) (z2 _) z1 (by rw [assign_cons h4] <;> rfl) (evG_ne _ t)
    | _ => cases h
  | .par2 i j a b => by
    intro k X W x hi hk hp hf h
    cases x with
    | Assign ts v p =>
      match ts, v, h with
      | [.Tuple [.Name y q, .Name y' q'] kt pt], .Tuple [l, r] kv pv, h =>
        have h : (decide (k.N[i]? = some y) && decide (k.N[j]? = some y') && decide (i ≠ j) && decide (y ≠ y') && k.loc y && k.loc y' && (q'.line == q.line) && notStar l && notStar r && okE G k a l && okE G k b r && !(foldedForSure 8 l && foldedForSure 8 r) && !(constantsAlone 8 l && constantsAlone 8 r)) = true := h
        simp only [Bool.and_eq_true, decide_eq_true_eq, Bool.not_eq_true'] at h
        obtain ⟨⟨⟨⟨⟨⟨⟨⟨⟨⟨⟨⟨h1, h2⟩, h3⟩, h4⟩, h5⟩, h6⟩, h7⟩, h8⟩, h9⟩, h10⟩, h11⟩, h12⟩, h13⟩ := h
        exact rs_par hi.calm hi.nd (by rw [hk.N]; exact h1) (by rw [hk.N]; exact h2) h3 (loc_ok hk h5) (loc_ok hk h6) (soE ok all gk a k X W l hi hk h10).1 (soE ok all gk b k X W r hi hk h11).1 h8 h9 (ss_par hk hf h4 h5 h6 h7 h8 h9 h12 h13)
    | _ => cases h
  | .par3 i j l a b c => by
    intro k X W x hi hk hp hf h
    cases x with
    | Assign ts v p =>
      match ts, v, h with
      | [.Tuple [.Name y q, .Name y' q', .Name y'' q''] kt pt], .Tuple [u, v, w] kv pv, h =>
        have h : (decide (k.N[i]? = some y) && decide (k.N[j]? = some y') && decide (k.N[l]? = some y'') && decide (i ≠ j) && decide (i ≠ l) && decide (j ≠ l) && decide (y ≠ y') && decide (y ≠ y'') && decide (y' ≠ y'') && k.loc y && k.loc y' && k.loc y'' && (q'.line == q.line) && (q''.line == q.line) && notStar u && notStar v && notStar w && okE G k a u && okE G k b v && okE G k c w && !(foldedForSure 8 u && foldedForSure 8 v && foldedForSure 8 w) && !(constantsAlone 8 u && constantsAlone 8 v && constantsAlone 8 w)) = true := h
        simp only [Bool.and_eq_true, decide_eq_true_eq, Bool.not_eq_true'] at h
        obtain ⟨⟨⟨⟨⟨⟨⟨⟨⟨⟨⟨⟨⟨⟨⟨⟨⟨⟨⟨⟨⟨h1, h2⟩, h3⟩, h4⟩, h5⟩, h6⟩, h7⟩, h8⟩, h9⟩, h10⟩, h11⟩, h12⟩, h13⟩, h14⟩, h15⟩, h16⟩, h17⟩, h18⟩, h19⟩, h20⟩, h21⟩, h22⟩ := h
        exact rs_par3 hi.calm hi.nd (by rw [hk.N]; exact h1) (by rw [hk.N]; exact h2) (by rw [hk.N]; exact h3) h4 h5 h6 (loc_ok hk h10) (loc_ok hk h11) (loc_ok hk h12) (soE ok all gk a k X W u hi hk h18).1 (soE ok all gk b k X W v hi hk h19).1 (soE ok all gk c k X W w hi hk h20).1 h15 h16 h17 (ss_par3 hk hf h7 h8 h9 h10 h11 h12 h13 h14 h15 h16 h17 h21 h22)
    | _ => cases h
  | .augS a i o e => by
    intro k X W x hi hk hp hf h
    cases x with
    | AugAssign t op v p =>
      cases t with
      | Subscript l r q =>
        have hq : isOp o op = true ∧ (o = .add ∨ o = .sub) ∧ okE G k a l = true ∧ okE G k i r = true ∧ plainIx r = true ∧ okE G k e v = true := by
          cases o with
          | add =>
            have h : (isOp .add op && true && okE G k a l && okE G k i r && plainIx r && okE G k e v) = true := h
            simp only [Bool.and_eq_true] at h
            exact ⟨h.1.1.1.1.1, .inl rfl, h.1.1.1.2, h.1.1.2, h.1.2, h.2⟩
          | sub =>
            have h : (isOp .sub op && true && okE G k a l && okE G k i r && plainIx r && okE G k e v) = true := h
            simp only [Bool.and_eq_true] at h
            exact ⟨h.1.1.1.1.1, .inr rfl, h.1.1.1.2, h.1.1.2, h.1.2, h.2⟩
          | _ => simp [okS] at h
        obtain ⟨h1, h2, h3, h4, h5, h6⟩ := hq
        rw [isOp_ok h1]
        exact rs_augS o h2 hi.un h5 (soE ok all gk a k X W l hi hk h3).1 (soE ok all gk i k X W r hi hk h4).1 (soE ok all gk e k X W v hi hk h6).1
      | _ => cases h
    | _ => cases h
  | .aug i o e => by
    intro k X W x hi hk hp hf h
    cases x with
    | AugAssign t op v p =>
      cases t with
      | Name y q =>
        have hq : isOp o op = true ∧ (o = .add ∨ o = .sub) ∧ k.st i y = true ∧ okE G k e v = true := by
          cases o with
          | add =>
            have h : (isOp .add op && true && k.st i y && okE G k e v) = true := h
            simp only [Bool.and_eq_true] at h
            exact ⟨h.1.1.1, .inl rfl, h.1.2, h.2⟩
          | sub =>
            have h : (isOp .sub op && true && k.st i y && okE G k e v) = true := h
            simp only [Bool.and_eq_true] at h
            exact ⟨h.1.1.1, .inr rfl, h.1.2, h.2⟩
          | _ => simp [okS] at h
        obtain ⟨h1, h2, h3, h4⟩ := hq
        obtain ⟨q1, q2, q3⟩ := st_ok hk h3
        rw [isOp_ok h1]
        exact rs_aug o h2 hi.nd q1 q2 q3 (soE ok all gk e k X W v hi hk h4).1
      | _ => cases h
    | _ => cases h
  | .ex e => by
    intro k X W x hi hk hp hf h
    cases x with
    | Expr v p =>
      have h : (okE G k e v && notComp v) = true := h
      simp only [Bool.and_eq_true] at h
      exact rs_ex (soE ok all gk e k X W v hi hk h.1).1 (sw_no h.2)
    | _ => cases h
  | .ret e => by
    intro k X W x hi hk hp hf h
    cases x with
    | Return v p =>
      cases v with
      | none => cases h
      | some v => exact rs_ret (soE ok all gk e k X W v hi hk h).1
    | _ => cases h
  | .ifs t a b => by
    intro k X W x hi hk hp hf h
    cases x with
    | If c l r p =>
      have h : (okE G k t c && okTst t c && okB G k a l && okB G k b r) = true := h
      simp only [Bool.and_eq_true] at h
      obtain ⟨⟨⟨h1, h2⟩, h3⟩, h4⟩ := h
      exact rs_if ((soE ok all gk t k X W c hi hk h1).2.1 h2) (soB ok all gk a k X W l hi hk hp hf h3) (soB ok all gk b k X W r hi hk hp hf h4)
    | _ => cases h
  | .fors t src b => by
    intro k X W x hi hk hp hf h
    cases x with
    | For tg iter body els p =>
      cases els with
      | cons _ _ => cases h
      | nil =>
        have h : (okI G k src tg iter && okG G k t tg && okB G k b body && notSet iter) = true := h
        simp only [Bool.and_eq_true] at h
        obtain ⟨⟨⟨h1, h2⟩, h3⟩, h4⟩ := h
        exact rs_for hp hi.calm (soI ok all gk src k X W tg iter hi hk h1) (soG ok all gk t k X W tg hi hk h2) (soB ok all gk b k X W body hi hk hp hf h3) (notSet_ok h4) (evG_ne _ t)
    | _ => cases h
  | .whl t b => by
    intro k X W x hi hk hp hf h
    cases x with
    | While c body els p =>
      cases els with
      | cons _ _ => cases h
      | nil =>
        have h : (okE G k t c && okTst t c && okB G k b body) = true := h
        simp only [Bool.and_eq_true] at h
        exact rs_whl hp ((soE ok all gk t k X W c hi hk h.1.1).2.1 h.1.2) (soB ok all gk b k X W body hi hk hp hf h.2)
    | _ => cases h
  | .brk => by
    intro k X W x hi hk hp hf h
    cases x with
    | Break p => exact rs_brk
    | _ => cases h
  | .cnt => by
    intro k X W x hi hk hp hf h
    cases x with
    | Continue p => exact rs_cnt
    | _ => cases h
  | .pas => by
    intro k X W x hi hk hp hf h
    cases x with
    | Pass p => exact rs_pas
    | _ => cases h
  | .never => by
    intro k X W x hi hk hp hf h
    exact rs_never
  | .gfrz _ => by
    intro k X W x hi hk hp hf h
    cases h
theorem soB (ok : g.Ok) (all : g.All n) (gk : GkOk G g) : ∀ b : MSs, SoB g G n b
  | .nil => by
    intro k X W xs hi hk hp hf h
    cases xs with
    | nil => exact rss_nil
    | cons _ _ => cases h
  | .cons s r => by
    intro k X W xs hi hk hp hf h
    rcases okB_cons h with ⟨i, e, h1⟩ | ⟨x, ys, e, h1, h2⟩
    · subst e
      exact rss_frz (soB ok all gk r k X W xs hi hk hp hf h1)
    · subst e
      exact rss_cons (soS ok all gk s k X W x hi hk hp hf h1) (soB ok all gk r k X W ys hi hk hp hf h2)
end
theorem soBody (ok : g.Ok) (all : g.All n) (gk : GkOk G g) (b : MSs) (xs : List Stmt) (hi : In g X W n) (hk : KOk k X) (hp : PassesOwn (model X.prog X.w) X.A X.env X.xe) (hf : X.env.scope.kind = .function) (h : okBody G k b xs = true) : PSs X xs (sRd (tb X g.fa g.ca) W (evSs (ccOf g n) b)) := by
  have plain : okB G k b xs = true → PSs X xs (sRd (tb X g.fa g.ca) W (evSs (ccOf g n) b)) := fun h => soB ok all gk b k X W xs hi hk hp hf h
  unfold okBody at h
  split at h
  · exact rss_doc (soB ok all gk b k X W _ hi hk hp hf h)
  · exact plain h
end
end Mi
set_option Elab.async false
set_option linter.all false
set_option maxRecDepth 100000
set_option maxHeartbeats 1000000
/-! Mi25: the defs keep their promises; the law's end. -/
namespace Mi
open PySem PySem.Spec PyProof.Rows L2
theorem rps_start {T : Tb} {G : Hp} {m : Mm} {ds : List D} {vs : List V} (r : Rps T G m ds vs) {ns : Nat} {N : List Str} (hn : N.length = ns) : RpS T G m (startT ns ds) (L2.start N vs) where
  len := by unfold startT L2.start; rw [hn]; simp [r.length]
  at_ := fun i d e => by
    unfold startT at e
    unfold L2.start
    have hl := r.length
    by_cases hi : i < ds.length
    · rw [List.getElem?_append_left (by simpa using hi), List.getElem?_map] at e
      obtain ⟨d', e1, e2⟩ := Option.map_eq_some_iff.mp e
      cases e2
      obtain ⟨v, e3, rv⟩ := r.get e1
      exact ⟨v, by rw [List.getElem?_append_left (by simp; omega), List.getElem?_map, e3] <;> rfl, rv⟩
    · rw [List.getElem?_append_right (by simpa using hi), List.getElem?_replicate] at e
      split at e <;> cases e
section
variable {g : Ge} {G : Gk} {n : Nat}
structure DefOk (g : Ge) (G : Gk) (f : Nat) (e : Fd) : Prop where
  ex : ∃ (params : Arguments) (body : List Stmt) (scope : Scope) (N : List Str) (qn : Str), FunD g.K qn qn params body scope [] [] (g.fa f) (g.fd f) ∧ FnScope N (g.ps f) scope ∧ N.length = e.ns ∧ (g.ps f).length = e.ps ∧ okBody G ⟨N, scope, fun _ => true⟩ e.body body = true
theorem flok_end {T : Tb} {W : WX} {F Gh H : Hp} {m : Mm} {st : S} {fl : Fl} {E : XK} {Q : VK} (r : R T F Gh m st H) (h : TRg T (fun c d _ H => E c d H) (Rp T) [] F Gh m (endOf st.nx fl) Q) : FlOk T (fun c d _ H => E c d H) F Gh m fl { nx := fun _ H' => Q .non H', rt := Q } := by
  have ext : ∀ {G' : Hp} {m' m2 : Mm}, Ext Gh m G' m' → (∀ k a, k < st.nx → m' k = some a → m2 k = some a) → Ext Gh m G' m2 := fun {G' m' m2} x hk => ⟨x.g, fun k a e => by
    have hlt : k < st.nx := by
      by_cases z : k < st.nx
      · exact z
      · rw [r.fresh k (by omega)] at e
        cases e
    exact hk k a hlt (x.m k a e)⟩
  cases fl with
  | rt d s =>
    intro G' m' H' v x r' rv
    obtain ⟨m2, h1, h2, h3⟩ := R.clean st.nx r' rv
    exact h G' m2 H' v (ext x h1) h2 h3
  | nx τ s =>
    intro G' m' H' σ' x r' hs
    obtain ⟨m2, h1, h2, h3⟩ := R.clean st.nx r' (.non : Rp T G' m' .non .non)
    exact h G' m2 H' _ (ext x h1) h2 h3
  | exc y τ s =>
    intro G' m' H' dd σ' x r' hs xd
    exact h G' m' H' dd x r' xd
  | bk _ _ => exact (show False from h).elim
  | ct _ _ => exact (show False from h).elim
  | stuck => exact (show False from h).elim
theorem def_ok (ok : g.Ok) (gk : GkOk G g) (all : g.All n) {f : Nat} {e : Fd} (he : g.tab f = some e) (d : DefOk g G f e) : (g.ps f).length = e.ps ∧ FnG g.P g.w g.K g.mg g.base (n + 1) (g.fa f) (g.fd f) (g.ps f) (spM g (n + 1) f) := by
  obtain ⟨params, body, scope, N, qn, Fd, S, hN, hps, hb⟩ := d.ex
  have hlen : ∀ vs H Q E, spM g (n + 1) f vs H Q E → vs.length = (g.ps f).length := by
    intro vs H Q E ⟨F, Gh, m, st, ds, r, rs, h⟩
    obtain ⟨e', he', hl⟩ := callN_len h.nstuck
    rw [he] at he'
    cases he'
    rw [← rs.length, hl, hps]
  refine ⟨hps, hlen, fun A fs s H args us vs Q E hr hgd e0 hbi r hsp => ?_⟩
  obtain ⟨oc, od, dV, kV, doc, pm, an, cdv, ct, osl, hfd, lk, hcd, _, _⟩ := Fd.ex
  rw [hfd] at hbi lk
  refine LamX.run_ofS lk hcd S hr e0 hbi r (hlen _ _ _ _ hsp) fun hr' => ?_
  have hi : In g (cxOf (L2.CX g.P g.w) g.P g.w g.K g.mg g.base N qn scope (g.fa f) cdv A fs s H E) (fun c d _ H => E c d H) n :=
    ⟨rfl, rfl, rfl, rfl, rfl, hr', hgd, rfl, S.nd, fun σ => passAt (takes_of rfl rfl rfl rfl) σ⟩
  refine ⟨_, soBody ok all gk e.body body hi ⟨rfl, rfl, rfl⟩ (passes_of rfl) S.kind hb, ?_⟩
  obtain ⟨F, Gh, m, st, ds, rr, rs, h⟩ := hsp
  have hl : ds.length = e.ps := by rw [rs.length, hlen vs H Q E ⟨F, Gh, m, st, ds, rr, rs, h⟩, hps]
  simp only [callN, he, hl, if_true] at h
  exact ⟨F, Gh, m, st, startT e.ns ds, rr, rps_start rs hN, flok_end (W := fun _ _ _ _ => True) rr h⟩
theorem all_ok (ok : g.Ok) (gk : GkOk G g) (d : ∀ f e, g.tab f = some e → DefOk g G f e) : ∀ n, g.All n
  | 0 => fun f e he => by
    obtain ⟨_, _, _, _, _, _, _, _, hps, _⟩ := (d f e he).ex
    refine ⟨hps, fun vs H Q E h => ?_, fun A fs s H args us vs Q E _ _ _ _ _ h => ?_⟩
    · obtain ⟨F, Gh, m, st, ds, r, rs, h⟩ := h
      exact h.elim
    · obtain ⟨F, Gh, m, st, ds, r, rs, h⟩ := h
      exact h.elim
  | n + 1 => fun f e he => def_ok ok gk (all_ok ok gk d n) he (d f e he)
end
end Mi
set_option Elab.async false
set_option linter.all false
set_option maxRecDepth 100000
set_option maxHeartbeats 1000000
/-! Mi26: a law by its evaluation. -/
namespace Mi
open PySem PySem.Spec PyProof.Rows L2
section
variable {P : Program} {w : World} {K : PySem.W.Frag} {mg mb : Str → Option Value} {k : Nat} {fl sc : Addr} {fd : FuncData} {x : Str} {sp : Sp} {t : Shared} {its : List Value} {ns : List Int}
/-- what is known of the heap at the law's entry -/
structure Entry (P : Program) (w : World) (K : PySem.W.Frag) (sc : Addr) (its : List Value) (ns : List Int) (t : Shared) (H : Hp) : Prop where
  only : ∀ b, H b = none ∨ (b = sc ∧ H b = some (.frz { cls := .type "list", data := .seq its.toArray } (.lst (ns.map V.int))))
  seq : SqL K H sc (ns.map V.int)
  ok : HOk P w H t.heap
  apart : H sc ≠ none → K.lookup sc = none
theorem entry_ex (kin : K.In t.heap) (hsc : t.heap.get? sc = some { cls := .type "list", data := .seq its.toArray }) (ari : IntsAre its ns) (few : ns.length ≤ sizeLine) : ∃ H, Entry P w K sc its ns t H := by
  have rel := vals_ints ari
  have many := ari.length
  cases z : K.lookup sc with
  | some o =>
    have e := kin sc o z
    rw [hsc] at e
    cases e
    exact ⟨fun _ => none, ⟨fun _ => .inl rfl, .inr ⟨_, its.toArray, _, z, rfl, rfl, rfl, by rw [List.size_toArray, many]; exact few, by simpa using rel⟩, fun b u q => (by cases (show (none : Option HO) = some u from q)), fun q => absurd rfl q⟩⟩
  | none =>
    have at_ : (fun b => if b = sc then some (HO.frz { cls := .type "list", data := .seq its.toArray } (.lst (ns.map V.int))) else none) sc = some (.frz { cls := .type "list", data := .seq its.toArray } (.lst (ns.map V.int))) := if_pos rfl
    refine ⟨fun b => if b = sc then some (.frz { cls := .type "list", data := .seq its.toArray } (.lst (ns.map V.int))) else none, ⟨fun b => ?_, .inl (.inr ⟨_, at_⟩), fun b u q => ?_, fun _ => z⟩⟩
    · by_cases h : b = sc
      · subst h
        exact .inr ⟨rfl, at_⟩
      · exact .inl (if_neg h)
    · by_cases h : b = sc
      · subst h
        have q := at_.symm.trans q
        cases q
        exact ⟨hsc, by rw [List.length_map]; exact few, its, _, rel, hsc⟩
      · rw [if_neg h] at q
        cases q
theorem law_runs (kin : K.In t.heap) (glob : t.heap.Ns mainGlobals mg) (blt : t.heap.Ns builtinsNs mb) (boots : ∀ y : Str, y ≠ "__name__" → mb y = bootBuiltins y) (free : t.heap.NoLimit) (bare : t.gens = #[])
    (hsc : t.heap.get? sc = some { cls := .type "list", data := .seq its.toArray }) (ari : IntsAre its ns) (few : ns.length ≤ sizeLine) (room : Room k callerA)
    (F : ∀ base : Heap, K.In base → base.Ns mainGlobals mg → FnG P w K mg base k fl fd [x] sp) (bind : ∀ (s : Shared) (u : Value), BindsTo s fd ⟨[u], []⟩ [(x, u)])
    (says : ∀ H : Hp, SqL K H sc (ns.map V.int) → sp [.ref sc] H (fun v _ => v = .bl true) fun _ _ _ => False) :
    codeAny (model P w) callerA (.call (.ref fl) ⟨[.ref sc], []⟩) (fun r s' => r = .ok (.ret (.bool true)) ∧ OldK t.heap s'.heap ∧ s'.os = t.os ∧ AllBare s'.gens) t := by
  obtain ⟨H, E⟩ := entry_ex (P := P) (w := w) kin hsc ari few
  -- only the script is tracked
  have notDict : ∀ {b : Addr} {o : Obj} {es : Array DictEntry} {ep : Nat}, t.heap.get? b = some o → o.data = .dict es ep → H b = none := fun {b o es ep} e d => by
    rcases E.only b with q | ⟨q, _⟩
    · exact q
    · rw [q, hsc] at e
      cases e
      cases (show Data.seq its.toArray _ = Data.dict es ep from d)
  have dicts : ∀ {b : Addr} {m : Str → Option Value}, t.heap.Ns b m → (hidT t.heap H).Ns b m := fun {b m} ⟨o, es, ep, e, d, r⟩ => ⟨o, es, ep, hidT_get e (notDict e d), d, r⟩
  have kinB : K.In (hidT t.heap H) := fun b o e => hidT_get (kin b o e) (by
    rcases E.only b with q | ⟨q, z⟩
    · exact q
    · have := E.apart (by rw [← q, z]; simp)
      rw [q, this] at e
      cases e)
  have entry : Env0 P w K mg (hidT t.heap H) callerA [] t H := by
    refine ⟨rfl, ⟨kinB, dicts glob, ⟨mb, dicts blt, boots⟩, ?_⟩, fun b o e => of_hidT e, Nat.le_of_eq (hidT_size _ _), True.intro, fun b hb => ?_, E.ok, .of_eq bare⟩
    · obtain ⟨mc, z1, z2⟩ := free
      exact ⟨mc, dicts z1, z2⟩
    · exact absurd (show b ∈ ([] : List Addr) from hb) (by simp)
  have run := (F _ kinB (dicts glob)).run callerA [] t H ⟨[.ref sc], []⟩ [.ref sc] [.ref sc] _ _ room rfl entry (bind t (.ref sc)) (.cons rfl .nil) (says H E.seq)
  refine codeAny_mono run fun r s' h => ?_
  cases r with
  | error e =>
    obtain ⟨_, _, _, _, _, _, _, _, _, _, _, _, z⟩ := (show L2.CX P w [] H t (fun _ _ _ => False) e s' from h)
    exact z.elim
  | ok f =>
    cases f with
    | ret u =>
      obtain ⟨v, H', os, bare', un, ok', rv, q⟩ := h
      have q : v = .bl true := q
      subst q
      cases (show u = Value.bool true from rv)
      refine ⟨rfl, OldK.of_keep fun b o e => ?_, os, bare'⟩
      rcases E.only b with z | ⟨_, z⟩
      · exact un.keep b o e z (by simp [frs]) (by simp)
      · obtain ⟨e1, _⟩ := E.ok b _ z
        obtain ⟨e2, _⟩ := ok' b _ (un.frzs b _ _ z)
        rw [e] at e1
        cases e1
        exact e2
    | _ => exact False.elim h
end
/-- the state at the law's entry -/
theorem R.start {T : Tb} {H : Hp} : R T (fun _ => none) H (fun _ => none) ⟨0, []⟩ H where
  gH := Sub.refl H
  fH := fun a o e => by cases e
  fG := fun a o e => by cases e
  cell := fun n c e => by cases (show (none : Option Cl) = some c from e)
  inj := fun n k a _ h => by cases (show (none : Option Cl).isSome = true from h)
  lt := fun n h => by cases (show (none : Option Cl).isSome = true from h)
  fresh := fun _ _ => rfl
/-- a law that evaluates to true at each script -/
theorem walk_law {l : PySem.W.OpenLaw} {q : Program} {loose : List Str} {XP : (Str → Option Value) → Heap → Prop} {YP : World → Heap → Prop} {d : DefRec} {n k wf fl : Nat} {tab : Nat → Option Fd} {x : Str}
    (hn : l.most = some n) (few : n ≤ sizeLine) (hdf : d.params.defaults = []) (room : Room k callerA)
    (F : ∀ (w : World) (mg : Str → Option Value) (a : Addr) (h : Heap), YP w h → h.Ns mainGlobals mg → mg d.name = some (.ref a) →
      ∃ g : Ge, g.tab = tab ∧ g.wf = wf ∧ g.K.In h ∧ (∀ (s : Shared) (u : Value), BindsTo s (g.fd fl) ⟨[u], []⟩ [(x, u)]) ∧ ∀ base : Heap, g.K.In base → base.Ns mainGlobals mg → FnG l.prog w g.K mg base k a (g.fd fl) [x] (spM g k fl))
    (law : ∀ ns : List Int, ns.length ≤ n → ∃ s, callN tab wf k fl [.inp ns] ⟨0, []⟩ = .ok (.bl true) s) : PySem.W.WalkO q loose XP YP l.row.toRowW d [] (fun f vs => PySem.call f vs) := by
  refine Att.attach_call hn hdf fun w s₀ s₁ mg mb fa o pm cd doc a vs ns G Y ho hd hcd hmg hobj hints hlen hg => ?_
  obtain ⟨g, rfl, rfl, KX, hb, hF⟩ := F w mg fa _ Y G.T.g hmg
  refine law_runs (sp := spM g k fl) KX G.T.g G.T.b G.T.builtins G.T.nolimit hg hobj hints (Nat.le_trans hlen few) room hF hb fun H hS => ?_
  obtain ⟨s, e⟩ := law ns hlen
  refine ⟨fun _ => none, H, fun _ => none, ⟨0, []⟩, [.inp ns], R.start, .cons (.inp hS) .nil, ?_⟩
  rw [e]
  intro G' m' H' v _ _ rv
  cases rv
  rfl
end Mi
set_option Elab.async false
set_option linter.all false
set_option maxRecDepth 100000
set_option maxHeartbeats 400000
/-! Mi27: the head's facts, for a list of defs. -/
namespace Mi
open PySem PySem.Spec PyProof.Rows L2
/-- one def of the law: number, the name by which it is reached, its own name, place in the module, parameters, names, body -/
structure Dd where
  id : Nat
  gl : Str
  nm : Str
  ix : Nat
  ps : List Str
  N : List Str
  body : MSs
def tabL (L : List Dd) (f : Nat) : Option Fd := (L.find? (·.id == f)).map fun d => ⟨d.ps.length, d.N.length, d.body⟩
def nmL (L : List Dd) (f : Nat) : Str := match L.find? (·.id == f) with
  | some d => d.gl
  | none => Str.empty
def psL (L : List Dd) (f : Nat) : List Str := match L.find? (·.id == f) with
  | some d => d.ps
  | none => []
abbrev Kws : Type := List (Nat × List Str × List Nat)
structure Lw where
  top : Nat → Stmt
  L : List Dd
  free : List Str
  con : List (Str × D)
  kw : Kws
def Lw.dd (l : Lw) (d : Dd) : He.DefD := ⟨(d.gl, none), d.nm, d.nm, defArgs (l.top d.ix), defBody (l.top d.ix), defScope (l.top d.ix), [], []⟩
def conFa : Str × D → He.Fa
  | (x, .int i) => .int x i
  | (x, .str s) => .str x s
  | (x, _) => .glo x
def isCon : Str × D → Bool
  | (_, .int _) => true
  | (_, .str _) => true
  | _ => false
def Lw.fn (l : Lw) : List He.DefD := l.L.map l.dd
def Lw.fa (l : Lw) : List He.Fa := l.L.map (fun d => .glo d.gl) ++ (l.free.map (fun x => .free x) ++ l.con.map conFa)
def Lw.G (l : Lw) : Gk := ⟨nmL l.L, fun f => (tabL l.L f).isSome, fun x => l.free.contains x, fun x => l.con.lookup x, l.kw⟩
/-- what is looked at in a def's text -/
structure Lw.DOk (l : Lw) (d : Dd) : Prop where
  bind : ∀ (kV doc pm : Value) (an : Option Addr) (cdv ct : Value) (us : List Value), us.length = d.ps.length → bindArgs (PySem.W.fnOf d.nm d.nm (defArgs (l.top d.ix)) (defBody (l.top d.ix)) (defScope (l.top d.ix)) .none kV doc pm an cdv ct) ⟨us, []⟩ = pure (d.ps.zip us)
  sc : FnScope d.N d.ps (defScope (l.top d.ix))
  body : okBody l.G ⟨d.N, defScope (l.top d.ix), fun _ => true⟩ d.body (defBody (l.top d.ix)) = true
structure Lw.KwOk (l : Lw) (f : Nat) (ks : List Str) (perm : List Nat) : Prop where
  ex : ∃ d, l.L.find? (·.id == f) = some d ∧ ∀ (kV doc pm : Value) (an : Option Addr) (cdv ct : Value) (us ws : List Value), us.length = ks.length → permV us perm = some ws → bindArgs (PySem.W.fnOf d.nm d.nm (defArgs (l.top d.ix)) (defBody (l.top d.ix)) (defScope (l.top d.ix)) .none kV doc pm an cdv ct) ⟨[], ks.zip us⟩ = pure (d.ps.zip ws)
structure Lw.Ok (l : Lw) : Prop where
  defs : ∀ d ∈ l.L, l.DOk d
  kw : ∀ f ks perm, (f, ks, perm) ∈ l.kw → l.KwOk f ks perm
  con : ∀ q ∈ l.con, isCon q = true
def Lw.ge (l : Lw) (P : Program) (w : World) (K : PySem.W.Frag) (mg : Str → Option Value) (base : Heap) (wf : Nat) (fd : Nat → FuncData) : Ge := ⟨P, w, K, mg, base, tabL l.L, wf, fun f => He.ga K (nmL l.L f), fun _ => 0, nmL l.L, fd, psL l.L⟩
theorem tabL_some {L : List Dd} {f : Nat} {e : Fd} (h : tabL L f = some e) : ∃ d, L.find? (·.id == f) = some d ∧ d ∈ L ∧ e = ⟨d.ps.length, d.N.length, d.body⟩ ∧ nmL L f = d.gl ∧ psL L f = d.ps := by
  unfold tabL at h
  cases q : L.find? (·.id == f) with
  | none => rw [q] at h; cases h
  | some d =>
    rw [q] at h
    refine ⟨d, rfl, List.mem_of_find?_eq_some q, (Option.some.inj h).symm, ?_, ?_⟩
    · unfold nmL; rw [q]
    · unfold psL; rw [q]
theorem lookup_mem {x : Str} {d : D} : ∀ {l : List (Str × D)}, l.lookup x = some d → (x, d) ∈ l
  | [], h => by cases h
  | (y, e) :: r, h => by
    have h2 : (match x == y with | true => some e | false => r.lookup x) = some d := h
    cases q : (x == y) with
    | true =>
      rw [q] at h2
      rw [beq_iff_eq.mp q, Option.some.inj h2]
      exact List.mem_cons_self
    | false =>
      rw [q] at h2
      exact List.mem_cons_of_mem _ (lookup_mem h2)
section
variable {l : Lw} {P : Program} {w : World} {K : PySem.W.Frag} {mg : Str → Option Value} {base h : Heap} {wf : Nat}
theorem Lw.facts (ok : l.Ok) (X : K.In h) (G : h.Ns mainGlobals mg) (c : He.SaysD l.fa l.fn K) :
    ∃ fd : Nat → FuncData, ∀ base : Heap, (l.ge P w K mg base wf fd).Ok ∧ GkOk l.G (l.ge P w K mg base wf fd) ∧ (∀ f e, tabL l.L f = some e → DefOk (l.ge P w K mg base wf fd) l.G f e) ∧ (∀ (f : Nat) (x : Str) (d : Dd), l.L.find? (·.id == f) = some d → d.ps = [x] → ∀ (s : Shared) (u : Value), BindsTo s (fd f) ⟨[u], []⟩ [(x, u)]) := by
  have q : ∀ f : Nat, ∃ fd : FuncData, ∀ d, l.L.find? (·.id == f) = some d → FunD K d.nm d.nm (defArgs (l.top d.ix)) (defBody (l.top d.ix)) (defScope (l.top d.ix)) [] [] (He.ga K d.gl) fd := by
    intro f
    cases e : l.L.find? (·.id == f) with
    | none => exact ⟨default, fun d z => by cases z⟩
    | some d =>
      have hm : d ∈ l.L := List.mem_of_find?_eq_some e
      obtain ⟨fd, F⟩ := c.defs (d := l.dd d) (List.mem_map.mpr ⟨d, hm, rfl⟩)
      exact ⟨fd, fun d' z => by cases z; exact F⟩
  obtain ⟨fd, F⟩ := Classical.axiomOfChoice q
  refine ⟨fd, fun base => ⟨⟨fun f e he => ?_⟩, ⟨fun f hf => ?_, fun x hx => ?_, fun x d hx => ?_, fun f ks perm hk => ?_⟩, fun f e he => ?_, fun f x d hd hp s u => ?_⟩⟩
  · obtain ⟨d, h1, h2, rfl, h3, h4⟩ := tabL_some he
    have F1 := F f d h1
    refine ⟨?_, ?_, ?_⟩
    · show mg (nmL l.L f) = some (.ref (He.ga K (nmL l.L f)))
      rw [h3]
      exact He.glo_ok X G (c.facts (f := .glo d.gl) (List.mem_append_left _ (List.mem_map.mpr ⟨d, h2, rfl⟩)))
    · show PySem.W.keepIn K (.ref (He.ga K (nmL l.L f))) = true
      rw [h3]
      exact F1.kp
    · show Binds K (fd f) (psL l.L f) []
      rw [h4]
      exact F1.bindsN (ok.defs d h2).bind
  · exact ⟨rfl, hf⟩
  · have hm : x ∈ l.free := List.contains_iff_mem.mp hx
    exact He.free_ok X G (c.facts (f := .free x) (List.mem_append_right _ (List.mem_append_left _ (List.mem_map.mpr ⟨x, hm, rfl⟩))))
  · have hm := lookup_mem (show l.con.lookup x = some d from hx)
    have h1 := ok.con _ hm
    have h2 := c.facts (f := conFa (x, d)) (List.mem_append_right _ (List.mem_append_right _ (List.mem_map.mpr ⟨_, hm, rfl⟩)))
    cases d with
    | int i =>
      obtain ⟨t, e⟩ := He.int_ok X G h2
      exact ⟨.int i, _, e, ⟨t, rfl⟩, (fun j z => by cases z; rfl), fun s z => by cases z⟩
    | str s =>
      obtain ⟨t, e⟩ := He.str_ok X G h2
      exact ⟨.str s, _, e, ⟨t, rfl⟩, (fun j z => by cases z), fun s z => by cases z; rfl⟩
    | _ => cases h1
  · obtain ⟨d, h1, hb⟩ := (ok.kw f ks perm hk).ex
    have hp : psL l.L f = d.ps := by unfold psL; rw [h1]
    intro s us ws hl hw
    obtain ⟨oc, od, dV, kV, doc, pm, an, cdv, ct, osl, hfd, lk, hcd, hD, hK⟩ := (F f d h1).ex
    show BindsTo s (fd f) ⟨[], ks.zip us⟩ ((psL l.L f).zip ws)
    rw [hp, hfd]
    rcases hD with ⟨_, rfl⟩ | ⟨e, _⟩
    · exact .of_eq (hb kV doc pm an cdv ct us ws hl hw)
    · exact absurd rfl e
  · obtain ⟨d, h1, h2, rfl, h3, h4⟩ := tabL_some he
    refine ⟨defArgs (l.top d.ix), defBody (l.top d.ix), defScope (l.top d.ix), d.N, d.nm, ?_, ?_, rfl, ?_, (ok.defs d h2).body⟩
    · show FunD K d.nm d.nm _ _ _ [] [] (He.ga K (nmL l.L f)) (fd f)
      rw [h3]
      exact F f d h1
    · show FnScope d.N (psL l.L f) _
      rw [h4]
      exact (ok.defs d h2).sc
    · show (psL l.L f).length = d.ps.length
      rw [h4]
  · have hm : d ∈ l.L := List.mem_of_find?_eq_some hd
    have b := (F f d hd).bindsA (ok.defs d hm).bind s [u] (by rw [hp]; rfl)
    rw [hp] at b
    exact b
/-- what `walk_law` asks of the head -/
theorem Lw.walkF (ok : l.Ok) {fl : Nat} {d : Dd} {x : Str} {k : Nat} (hd : l.L.find? (·.id == fl) = some d) (hp : d.ps = [x]) {a : Addr} (X : K.In h) (G : h.Ns mainGlobals mg) (hm : mg d.gl = some (.ref a)) (c : He.SaysD l.fa l.fn K) :
    ∃ g : Ge, g.tab = tabL l.L ∧ g.wf = wf ∧ g.K.In h ∧ (∀ (s : Shared) (u : Value), BindsTo s (g.fd fl) ⟨[u], []⟩ [(x, u)]) ∧ ∀ base : Heap, g.K.In base → base.Ns mainGlobals mg → FnG P w g.K mg base k a (g.fd fl) [x] (spM g k fl) := by
  obtain ⟨fd, F⟩ := Lw.facts (P := P) (w := w) (wf := wf) ok X G c
  refine ⟨l.ge P w K mg h wf fd, rfl, rfl, X, (F h).2.2.2 fl x d hd hp, fun base _ _ => ?_⟩
  obtain ⟨g1, g2, g3, _⟩ := F base
  have ht : tabL l.L fl = some ⟨d.ps.length, d.N.length, d.body⟩ := by unfold tabL; rw [hd]; rfl
  have hn : nmL l.L fl = d.gl := by unfold nmL; rw [hd]
  have hq : psL l.L fl = [x] := by unfold psL; rw [hd]; exact hp
  obtain ⟨_, R⟩ := all_ok g1 g2 g3 k fl _ ht
  have e : He.ga K (nmL l.L fl) = a := by
    have e1 := (g1.at_ fl _ ht).1
    have e2 : mg (nmL l.L fl) = some (.ref (He.ga K (nmL l.L fl))) := e1
    rw [hn, hm] at e2
    rw [hn]
    injection e2 with e3
    injection e3 with e4
    exact e4.symm
  rw [← e, ← hq]
  exact R
end
end Mi
set_option Elab.async false
set_option linter.all false
set_option maxRecDepth 100000
set_option maxHeartbeats 400000
/-! Pl1: what the small evaluator does, for the plain laws: states, loops. -/
namespace Mi
open PySem
/-! ### states -/
theorem lookup_putC_self {n : Nat} {c : Cl} : ∀ {l : List (Nat × Cl)} {d : Cl}, l.lookup n = some d → (putC n c l).lookup n = some c
  | [], _, h => by cases h
  | (k, e) :: r, d, h => by
    unfold putC
    by_cases hk : k = n
    · subst hk
      simp [List.lookup]
    · rw [if_neg hk]
      have hk2 : (n == k) = false := by simp; exact fun z => hk z.symm
      rw [List.lookup, hk2] at h ⊢
      exact lookup_putC_self h
theorem lookup_putC_ne {n k : Nat} {c : Cl} (h : k ≠ n) : ∀ {l : List (Nat × Cl)}, (putC n c l).lookup k = l.lookup k
  | [] => rfl
  | (j, e) :: r => by
    unfold putC
    by_cases hj : j = n
    · rw [if_pos hj]
      have h2 : (k == j) = false := by simp; rw [hj]; exact h
      rw [List.lookup, h2, List.lookup, h2]
    · rw [if_neg hj, List.lookup, List.lookup, lookup_putC_ne h]
theorem putC_putC {n : Nat} {c d : Cl} : ∀ {l : List (Nat × Cl)}, putC n c (putC n d l) = putC n c l
  | [] => rfl
  | (j, e) :: r => by
    by_cases hj : j = n
    · subst hj
      simp [putC]
    · simp [putC, hj, putC_putC]
theorem putC_same {n : Nat} {c : Cl} : ∀ {l : List (Nat × Cl)}, l.lookup n = some c → putC n c l = l
  | [], h => by cases h
  | (j, e) :: r, h => by
    by_cases hj : j = n
    · subst hj
      simp [List.lookup] at h
      simp [putC, h]
    · have hk2 : (n == j) = false := by simp; exact fun z => hj z.symm
      rw [List.lookup, hk2] at h
      simp [putC, hj, putC_same h]
theorem get_add {s : S} {c : Cl} : (s.add c).get s.nx = some c := by simp [S.get, S.add, List.lookup]
theorem get_add_ne {s : S} {c : Cl} {n : Nat} (h : n ≠ s.nx) : (s.add c).get n = s.get n := by
  have h2 : (n == s.nx) = false := by simpa using h
  simp [S.get, S.add, List.lookup, h2]
theorem get_put {s : S} {c d : Cl} {n : Nat} (h : s.get n = some d) : (s.put n c).get n = some c := lookup_putC_self h
theorem get_put_ne {s : S} {c : Cl} {n k : Nat} (h : k ≠ n) : (s.put n c).get k = s.get k := lookup_putC_ne h
theorem put_put {s : S} {c d : Cl} {n : Nat} : (s.put n d).put n c = s.put n c := by simp [S.put, putC_putC]
theorem put_same {s : S} {c : Cl} {n : Nat} (h : s.get n = some c) : s.put n c = s := by
  show { s with cs := putC n c s.cs } = s
  rw [putC_same h]
theorem add_put {s : S} {c d : Cl} : (s.add d).put s.nx c = s.add c := by simp [S.put, S.add, putC]
theorem add_put_ne {s : S} {c d : Cl} {n : Nat} (h : n ≠ s.nx) : (s.add d).put n c = (s.put n c).add d := by
  have h2 : ¬ s.nx = n := fun z => h z.symm
  simp [S.put, S.add, putC, h2]
@[simp] theorem nx_add {s : S} {c : Cl} : (s.add c).nx = s.nx + 1 := rfl
@[simp] theorem nx_put {s : S} {c : Cl} {n : Nat} : (s.put n c).nx = s.nx := rfl
/-- every cell is older than the next, and names older ones only -/
def Wf (s : S) : Prop := ∀ p ∈ s.cs, p.1 < s.nx ∧ belowC s.nx p.2 = true
mutual
theorem below_mono {n m : Nat} (h : n ≤ m) : ∀ {d : D}, below n d = true → below m d = true
  | .ref k, q => by simp [below] at q ⊢; omega
  | .tup ds, q => by simp only [below] at q ⊢; exact belows_mono h q
  | .lst ds, q => by simp only [below] at q ⊢; exact belows_mono h q
  | .dic ks vs, q => by
    simp only [below, Bool.and_eq_true] at q ⊢
    exact ⟨belows_mono h q.1, belows_mono h q.2⟩
  | .non, _ => rfl
  | .bl _, _ => rfl
  | .int _, _ => rfl
  | .str _, _ => rfl
  | .fn _, _ => rfl
  | .ty _, _ => rfl
  | .inp _, _ => rfl
theorem belows_mono {n m : Nat} (h : n ≤ m) : ∀ {ds : List D}, belows n ds = true → belows m ds = true
  | [], _ => rfl
  | d :: ds, q => by
    simp only [belows, Bool.and_eq_true] at q ⊢
    exact ⟨below_mono h q.1, belows_mono h q.2⟩
end
theorem belowC_mono {n m : Nat} (h : n ≤ m) {c : Cl} (q : belowC n c = true) : belowC m c = true := by
  cases c with
  | lst f ds => exact belows_mono h q
  | dic f ks vs =>
    simp only [belowC, Bool.and_eq_true] at q ⊢
    exact ⟨belows_mono h q.1, belows_mono h q.2⟩
theorem Wf.add {s : S} {c : Cl} (W : Wf s) (h : belowC s.nx c = true) : Wf (s.add c) := by
  intro p hp
  rcases List.mem_cons.mp hp with rfl | hp
  · exact ⟨Nat.lt_succ_self _, belowC_mono (Nat.le_succ _) h⟩
  · obtain ⟨h1, h2⟩ := W p hp
    exact ⟨Nat.lt_succ_of_lt h1, belowC_mono (Nat.le_succ _) h2⟩
theorem mem_putC {n : Nat} {c : Cl} {p : Nat × Cl} : ∀ {l : List (Nat × Cl)}, p ∈ putC n c l → p ∈ l ∨ p.2 = c ∧ (∃ d, (p.1, d) ∈ l)
  | [], h => by cases h
  | (j, e) :: r, h => by
    unfold putC at h
    by_cases hj : j = n
    · rw [if_pos hj] at h
      rcases List.mem_cons.mp h with rfl | h
      · exact .inr ⟨rfl, e, List.mem_cons_self⟩
      · exact .inl (List.mem_cons_of_mem _ h)
    · rw [if_neg hj] at h
      rcases List.mem_cons.mp h with rfl | h
      · exact .inl List.mem_cons_self
      · rcases mem_putC h with h | ⟨h1, d, h2⟩
        · exact .inl (List.mem_cons_of_mem _ h)
        · exact .inr ⟨h1, d, List.mem_cons_of_mem _ h2⟩
theorem Wf.put {s : S} {n : Nat} {c : Cl} (W : Wf s) (h : belowC s.nx c = true) : Wf (s.put n c) := by
  intro p hp
  rcases mem_putC hp with hp | ⟨h1, d, h2⟩
  · exact W p hp
  · exact ⟨(W _ h2).1, by rw [h1]; exact h⟩
theorem get_mem {n : Nat} {c : Cl} : ∀ {l : List (Nat × Cl)}, l.lookup n = some c → (n, c) ∈ l
  | [], h => by cases h
  | (j, e) :: r, h => by
    cases q : (n == j) with
    | true =>
      rw [List.lookup, q] at h
      cases h
      rw [beq_iff_eq.mp q]
      exact List.mem_cons_self
    | false =>
      rw [List.lookup, q] at h
      exact List.mem_cons_of_mem _ (get_mem h)
theorem Wf.lt {s : S} {n : Nat} {c : Cl} (W : Wf s) (h : s.get n = some c) : n < s.nx := (W _ (get_mem h)).1
/-- t is s and newer cells -/
structure Over (s t : S) : Prop where
  nx : s.nx ≤ t.nx
  cs : ∃ new : List (Nat × Cl), t.cs = new ++ s.cs ∧ ∀ p ∈ new, s.nx ≤ p.1
theorem Over.refl (s : S) : Over s s := ⟨Nat.le_refl _, [], rfl, fun _ h => by cases h⟩
theorem Over.add {s t : S} {c : Cl} (h : Over s t) : Over s (t.add c) := by
  obtain ⟨h1, new, h2, h3⟩ := h
  refine ⟨Nat.le_succ_of_le h1, (t.nx, c) :: new, ?_, fun p hp => ?_⟩
  · show (t.nx, c) :: t.cs = _
    rw [h2]
    rfl
  · rcases List.mem_cons.mp hp with rfl | hp
    · exact h1
    · exact h3 p hp
theorem putC_append {n : Nat} {c : Cl} {r : List (Nat × Cl)} (hr : ∀ p ∈ r, p.1 ≠ n) : ∀ {l : List (Nat × Cl)}, putC n c (l ++ r) = putC n c l ++ r
  | [] => by
    show putC n c r = r
    induction r with
    | nil => rfl
    | cons p r ih =>
      obtain ⟨k, d⟩ := p
      have hk : ¬ k = n := hr (k, d) List.mem_cons_self
      simp only [putC, if_neg hk]
      rw [ih fun p hp => hr p (List.mem_cons_of_mem _ hp)]
  | (j, e) :: l => by
    by_cases hj : j = n
    · simp [putC, hj]
    · simp [putC, hj, putC_append hr (l := l)]
theorem Over.put {s t : S} {n : Nat} {c : Cl} (W : Wf s) (h : Over s t) (hn : s.nx ≤ n) : Over s (t.put n c) := by
  obtain ⟨h1, new, h2, h3⟩ := h
  refine ⟨h1, putC n c new, ?_, fun p hp => ?_⟩
  · show putC n c t.cs = _
    rw [h2]
    exact putC_append fun p hp z => by have := (W p hp).1; omega
  · rcases mem_putC hp with hp | ⟨_, d, hp⟩
    · exact h3 p hp
    · exact h3 (p.1, d) hp
theorem Over.filter {s t : S} (W : Wf s) (h : Over s t) : t.cs.filter (fun p => decide (p.1 < s.nx)) = s.cs := by
  obtain ⟨_, new, h2, h3⟩ := h
  rw [h2, List.filter_append]
  have e1 : new.filter (fun p => decide (p.1 < s.nx)) = [] := by
    rw [List.filter_eq_nil_iff]
    intro p hp
    have := h3 p hp
    simp
    omega
  have e2 : s.cs.filter (fun p => decide (p.1 < s.nx)) = s.cs := by
    rw [List.filter_eq_self]
    intro p hp
    simpa using (W p hp).1
  rw [e1, e2]
  rfl
theorem S.eta (s : S) : (⟨s.nx, s.cs⟩ : S) = s := rfl
theorem clean_over {s t : S} {d : D} (W : Wf s) (h : Over s t) (hd : below s.nx d = true) : clean s.nx d t = (d, s) := by
  unfold clean
  simp only [h.filter W]
  have e : s.cs.all (fun p => belowC s.nx p.2) = true := List.all_eq_true.mpr fun p hp => (W p hp).2
  rw [if_pos e, if_pos hd]
theorem clean_cell {s t : S} {k : Nat} {c : Cl} (W : Wf s) (h : Over s t) (hk : s.nx ≤ k) (hg : t.get k = some c) (hc : belowC s.nx c = true) : clean s.nx (.ref k) t = (.ref s.nx, s.add c) := by
  unfold clean
  simp only [h.filter W]
  have e : s.cs.all (fun p => belowC s.nx p.2) = true := List.all_eq_true.mpr fun p hp => (W p hp).2
  have e2 : ¬ below s.nx (.ref k) = true := by simp [below]; omega
  rw [if_pos e, if_neg e2, hg]
  simp only [hc, if_true]
  rfl
/-! ### calls -/
section
variable {tab : Nat → Option Fd} {wf n f : Nat} {ps ns : Nat} {b : MSs} {ds : List D} {s t : S} {d : D} {τ : Tau}
abbrev cc (tab : Nat → Option Fd) (wf n : Nat) : Cc := ⟨callN tab wf n, wf, fun f => (tab f).isSome⟩
theorem call_eq (ht : tab f = some ⟨ps, ns, b⟩) (hl : ds.length = ps) : callN tab wf (n + 1) f ds s = endOf s.nx (evSs (cc tab wf n) b (startT ns ds) s) := by
  simp only [callN, ht, hl, if_true]
/-- a def that hands back a plain value -/
theorem call_pure (ht : tab f = some ⟨ps, ns, b⟩) (hl : ds.length = ps) (W : Wf s) {t : S} (h : evSs (cc tab wf n) b (startT ns ds) s = .rt d t) (o : Over s t) (hd : below s.nx d = true) : callN tab wf (n + 1) f ds s = .ok d s := by
  rw [call_eq ht hl, h]
  simp only [endOf, clean_over W o hd]
theorem call_none (ht : tab f = some ⟨ps, ns, b⟩) (hl : ds.length = ps) (W : Wf s) {t : S} (h : evSs (cc tab wf n) b (startT ns ds) s = .nx τ t) (o : Over s t) : callN tab wf (n + 1) f ds s = .ok .non s := by
  rw [call_eq ht hl, h]
  simp only [endOf, clean_over W o (show below s.nx .non = true from rfl)]
theorem call_cell (ht : tab f = some ⟨ps, ns, b⟩) (hl : ds.length = ps) (W : Wf s) {t : S} {k : Nat} {c : Cl} (h : evSs (cc tab wf n) b (startT ns ds) s = .rt (.ref k) t) (o : Over s t) (hk : s.nx ≤ k) (hg : t.get k = some c) (hc : belowC s.nx c = true) : callN tab wf (n + 1) f ds s = .ok (.ref s.nx) (s.add c) := by
  rw [call_eq ht hl, h]
  simp only [endOf, clean_cell W o hk hg hc]
/-- the same, other cells changed: u is the old part of what it leaves -/
theorem call_over {u : S} (ht : tab f = some ⟨ps, ns, b⟩) (hl : ds.length = ps) (W : Wf u) (hu : u.nx = s.nx) {t : S} (h : evSs (cc tab wf n) b (startT ns ds) s = .rt d t) (o : Over u t) (hd : below s.nx d = true) : callN tab wf (n + 1) f ds s = .ok d u := by
  rw [call_eq ht hl, h]
  simp only [endOf]
  rw [← hu] at hd ⊢
  rw [clean_over W o hd]
end
/-! ### loops -/
section
variable {α β : Type} {f : D → S → Res (Option D)} {s : S} {e : α → D} {h : α → D}
theorem loopC_map {xs : List α} (k : ∀ x ∈ xs, f (e x) s = .ok (some (h x)) s) : loopC f (xs.map e) s = .ok (xs.map h) s := by
  induction xs with
  | nil => rfl
  | cons x xs ih =>
    rw [List.map_cons, loopC, k x List.mem_cons_self]
    simp only
    rw [ih fun y hy => k y (List.mem_cons_of_mem _ hy)]
    rfl
theorem loopC_filter {xs : List α} {q : α → Bool} (k : ∀ x ∈ xs, f (e x) s = .ok (if q x then some (h x) else none) s) : loopC f (xs.map e) s = .ok ((xs.filter q).map h) s := by
  induction xs with
  | nil => rfl
  | cons x xs ih =>
    rw [List.map_cons, loopC, k x List.mem_cons_self]
    simp only
    rw [ih fun y hy => k y (List.mem_cons_of_mem _ hy)]
    cases qx : q x <;> simp [List.filter_cons, qx]
/-- the state moves on: P holds of it -/
theorem loopC_ex {xs : List D} {P : S → Prop} {Q : D → Prop} (k : ∀ x ∈ xs, ∀ s, P s → ∃ y s', f x s = .ok (some y) s' ∧ P s' ∧ Q y) : ∀ s, P s → ∃ ys s', loopC f xs s = .ok ys s' ∧ P s' ∧ ys.length = xs.length ∧ ∀ y ∈ ys, Q y := by
  induction xs with
  | nil => exact fun s p => ⟨[], s, rfl, p, rfl, fun _ h => by cases h⟩
  | cons x xs ih =>
    intro s p
    obtain ⟨y, s1, h1, h2, h3⟩ := k x List.mem_cons_self s p
    obtain ⟨ys, s2, h4, h5, h6, h7⟩ := ih (fun z hz => k z (List.mem_cons_of_mem _ hz)) s1 h2
    refine ⟨y :: ys, s2, ?_, h5, by simp [h6], fun z hz => ?_⟩
    · rw [loopC, h1]
      simp only
      rw [h4]
    · rcases List.mem_cons.mp hz with rfl | hz
      · exact h3
      · exact h7 z hz
end
section
variable {α β : Type} {g : D → Tau → S → Res Tau} {b : Tau → S → Fl} {e : α → D}
/-- a for that goes through -/
theorem loopF_fold {step : β → α → β} {I : β → Tau → S → Prop} {xs : List α} (k : ∀ a x τ s, x ∈ xs → I a τ s → ∃ τ1 s1 τ2 s2, g (e x) τ s = .ok τ1 s1 ∧ b τ1 s1 = .nx τ2 s2 ∧ I (step a x) τ2 s2) : ∀ a τ s, I a τ s → ∃ τ' s', loopF g b (xs.map e) τ s = .nx τ' s' ∧ I (xs.foldl step a) τ' s' := by
  induction xs with
  | nil => exact fun a τ s h => ⟨τ, s, rfl, h⟩
  | cons x xs ih =>
    intro a τ s h
    obtain ⟨τ1, s1, τ2, s2, h1, h2, h3⟩ := k a x τ s List.mem_cons_self h
    obtain ⟨τ', s', h4, h5⟩ := ih (fun a y τ s hy => k a y τ s (List.mem_cons_of_mem _ hy)) _ _ _ h3
    refine ⟨τ', s', ?_, h5⟩
    rw [List.map_cons, loopF, h1]
    simp only
    rw [h2]
    exact h4
/-- a for that looks for a bad one: it hands back r at the first -/
theorem loopF_all {I : Tau → S → Prop} {r : D} {J : S → Prop} {q : α → Bool} {xs : List α} (k : ∀ x τ s, x ∈ xs → I τ s → ∃ τ1 s1, g (e x) τ s = .ok τ1 s1 ∧ (if q x then ∃ τ2 s2, b τ1 s1 = .nx τ2 s2 ∧ I τ2 s2 else ∃ s2, b τ1 s1 = .rt r s2 ∧ J s2)) :
    ∀ τ s, I τ s → (if xs.all q then ∃ τ' s', loopF g b (xs.map e) τ s = .nx τ' s' ∧ I τ' s' else ∃ s', loopF g b (xs.map e) τ s = .rt r s' ∧ J s') := by
  induction xs with
  | nil => exact fun τ s h => ⟨τ, s, rfl, h⟩
  | cons x xs ih =>
    intro τ s h
    obtain ⟨τ1, s1, h1, h2⟩ := k x τ s List.mem_cons_self h
    rw [List.all_cons]
    cases qx : q x with
    | true =>
      rw [qx, if_pos rfl] at h2
      obtain ⟨τ2, s2, h3, h4⟩ := h2
      have h5 := ih (fun y τ s hy => k y τ s (List.mem_cons_of_mem _ hy)) τ2 s2 h4
      rw [Bool.true_and]
      have e1 : loopF g b ((x :: xs).map e) τ s = loopF g b (xs.map e) τ2 s2 := by
        rw [List.map_cons, loopF, h1]
        simp only
        rw [h3]
      rw [e1]
      exact h5
    | false =>
      rw [qx, if_neg Bool.false_ne_true] at h2
      obtain ⟨s2, h3, h4⟩ := h2
      rw [Bool.false_and, if_neg Bool.false_ne_true]
      refine ⟨s2, ?_, h4⟩
      rw [List.map_cons, loopF, h1]
      simp only
      rw [h3]
end
end Mi
set_option Elab.async false
set_option linter.all false
set_option maxRecDepth 100000
set_option maxHeartbeats 400000
/-! Pl2: typed values in the small language. -/
namespace Mi
open PySem PySem.W PyProof.Rows
class En (α : Type) [DecidableEq α] extends DatumOrd α where
  enc : α → D
  py : ∀ lk a, toPy lk (enc a) = some (toD a)
  lay : ∀ a, (toD a).canLay0 = true
  low : ∀ n a, below n (enc a) = true
open En (enc)
section
variable {α β : Type} [DecidableEq α] [En α] [DecidableEq β] [En β]
theorem toPys_map (lk : Nat → Option PyData) : ∀ xs : List α, toPys lk (xs.map enc) = some (xs.map Datum.toD)
  | [] => rfl
  | x :: xs => by
    rw [List.map_cons, toPys, En.py, toPys_map lk xs]
    rfl
theorem lays_map : ∀ xs : List α, PyData.canLayAll0 (xs.map Datum.toD) = true
  | [] => rfl
  | x :: xs => by
    rw [List.map_cons, PyData.canLayAll0, En.lay x, lays_map xs]
    rfl
theorem lows_map (n : Nat) : ∀ xs : List α, belows n (xs.map enc) = true
  | [] => rfl
  | x :: xs => by
    rw [List.map_cons, belows, En.low n x, lows_map n xs]
    rfl
end
instance : En Int where
  enc := .int
  py _ _ := rfl
  lay _ := rfl
  low _ _ := rfl
instance : En Bool where
  enc := .bl
  py _ _ := rfl
  lay _ := rfl
  low _ _ := rfl
section
variable {α β : Type} [DecidableEq α] [En α] [DecidableEq β] [En β]
instance : En (List α) where
  enc xs := .lst (xs.map enc)
  py lk xs := by rw [toPy, toPys_map]; rfl
  lay xs := lays_map xs
  low n xs := lows_map n xs
instance : En (Tup α) where
  enc xs := .tup (xs.items.map enc)
  py lk xs := by rw [toPy, toPys_map]; rfl
  lay xs := lays_map xs.items
  low n xs := lows_map n xs.items
instance : En (α × β) where
  enc p := .tup [enc p.1, enc p.2]
  py lk p := by
    rw [toPy, toPys, toPys, toPys, En.py, En.py]
    rfl
  lay p := by
    show (PyData.canLay0 _ && (PyData.canLay0 _ && true)) = true
    rw [En.lay, En.lay]
    rfl
  low n p := by
    show (below n _ && (below n _ && true)) = true
    rw [En.low, En.low]
    rfl
theorem py_en (s : S) (a : α) : s.py (enc a) = some (Datum.toD a) := En.py _ a
theorem pys_en (s : S) (xs : List α) : s.pys (xs.map enc) = some (xs.map Datum.toD) := toPys_map _ xs
theorem shaped_en (a : α) (h : Datum.depth α ≤ 64) : SeqAt.shaped (Datum.toD a) = true := by
  unfold SeqAt.shaped
  rw [En.lay a, Bool.true_and, decide_eq_true_eq]
  exact Nat.le_trans (Datum.depth_le a) h
theorem shapeds_en (xs : List α) (h : Datum.depth α ≤ 63) : SeqAt.shaped (.list (xs.map Datum.toD)) = true := shaped_en (α := List α) xs (Nat.succ_le_succ h)
theorem eqv_en (s : S) (a b : α) (h : Datum.depth α ≤ 64) : s.eqv (enc a) (enc b) = some (decide (a = b)) := by
  unfold S.eqv
  rw [py_en, py_en]
  simp only [shaped_en _ h, Bool.and_self, if_true, Datum.eqv]
theorem eq_en (s : S) (a b : α) (h : Datum.depth α ≤ 64 := by decide) : evCmp .eq (enc a) (enc b) s = .ok (.bl (decide (a = b))) s := by
  simp only [evCmp, eqv_en s a b h]
theorem ne_en (s : S) (a b : α) (h : Datum.depth α ≤ 64 := by decide) : evCmp .ne (enc a) (enc b) s = .ok (.bl (!decide (a = b))) s := by
  simp only [evCmp, eqv_en s a b h]
theorem any_en (xs : List α) (a : α) : ((xs.map Datum.toD).any fun z => PyData.eqv z (Datum.toD a)) = decide (a ∈ xs) := by
  induction xs with
  | nil => rfl
  | cons x xs ih =>
    rw [List.map_cons, List.any_cons, ih, Datum.eqv]
    by_cases h : x = a
    · simp [h]
    · have h2 : ¬ a = x := fun z => h z.symm
      simp [h, h2]
theorem isIn_en (s : S) (a : α) (xs : List α) (h : Datum.depth α ≤ 63) : s.isIn (enc a) (.lst (xs.map enc)) = some (decide (a ∈ xs)) := by
  simp only [S.isIn, py_en, pys_en, shaped_en a (Nat.le_succ_of_le h), shapeds_en xs h, Bool.and_self, if_true, any_en]
theorem shapeds_tup (xs : List α) (h : Datum.depth α ≤ 63) : SeqAt.shaped (.tuple (xs.map Datum.toD)) = true := by
  have h0 := shapeds_en xs h
  unfold SeqAt.shaped at h0 ⊢
  simp only [PyData.canLay0, PyData.depth] at h0 ⊢
  exact h0
theorem isIn_tup (s : S) (a : α) (xs : List α) (h : Datum.depth α ≤ 63) : s.isIn (enc a) (.tup (xs.map enc)) = some (decide (a ∈ xs)) := by
  simp only [S.isIn, py_en, pys_en, shaped_en a (Nat.le_succ_of_le h), shapeds_tup xs h, Bool.and_self, if_true, any_en]
theorem in_tup (s : S) (a : α) (xs : List α) (h : Datum.depth α ≤ 63 := by decide) : evCmp .isin (enc a) (.tup (xs.map enc)) s = .ok (.bl (decide (a ∈ xs))) s := by
  simp only [evCmp, isIn_tup s a xs h]
theorem notin_tup (s : S) (a : α) (xs : List α) (h : Datum.depth α ≤ 63 := by decide) : evCmp .notin (enc a) (.tup (xs.map enc)) s = .ok (.bl (!decide (a ∈ xs))) s := by
  simp only [evCmp, isIn_tup s a xs h]
theorem in_en (s : S) (a : α) (xs : List α) (h : Datum.depth α ≤ 63 := by decide) : evCmp .isin (enc a) (.lst (xs.map enc)) s = .ok (.bl (decide (a ∈ xs))) s := by
  simp only [evCmp, isIn_en s a xs h]
theorem notin_en (s : S) (a : α) (xs : List α) (h : Datum.depth α ≤ 63 := by decide) : evCmp .notin (enc a) (.lst (xs.map enc)) s = .ok (.bl (!decide (a ∈ xs))) s := by
  simp only [evCmp, isIn_en s a xs h]
/-- a tuple: the less -/
theorem lt_en (s : S) (a b : α) (ta : ∃ xs, enc a = D.tup xs) (tb : ∃ xs, enc b = D.tup xs) (h : Datum.depth α ≤ 64 := by decide) : evCmp .lt (enc a) (enc b) s = .ok (.bl (DatumOrd.lt a b)) s := by
  have pa := py_en s a
  have pb := py_en s b
  obtain ⟨xs, ea⟩ := ta
  obtain ⟨ys, eb⟩ := tb
  rw [ea] at pa ⊢
  rw [eb] at pb ⊢
  simp only [evCmp, S.lt, pa, pb, shaped_en a h, shaped_en b h, DatumOrd.alike a b, Bool.and_self, if_true, DatumOrd.lt_eq]
/-- x == [] -/
theorem nil_eqv (s : S) (ds : List D) (ps : List PyData) (hp : s.pys ds = some ps) (hs : SeqAt.shaped (.list ps) = true) : s.eqv (.lst ds) (.lst []) = some ds.isEmpty := by
  have h1 : s.py (.lst ds) = some (.list ps) := by
    show toPy _ _ = _
    rw [toPy, show toPys (s.look 4) ds = some ps from hp]
    rfl
  have h2 : s.py (.lst []) = some (.list []) := rfl
  have h3 : SeqAt.shaped (.list []) = true := rfl
  simp only [S.eqv, h1, h2, hs, h3, Bool.and_self, if_true]
  cases ds with
  | nil =>
    cases hp
    rfl
  | cons d ds =>
    simp only [S.pys, toPys] at hp
    split at hp
    · cases hp
      rfl
    · cases hp
theorem nil_en (s : S) (xs : List α) (h : Datum.depth α ≤ 63 := by decide) : s.eqv (.lst (xs.map enc)) (.lst []) = some xs.isEmpty := by
  rw [nil_eqv s _ _ (pys_en s xs) (shapeds_en xs h)]
  cases xs <;> rfl
/-- the order that sorted takes -/
def leE (a b : α) : Bool := !DatumOrd.lt b a
theorem leD_en (s : S) (a b : α) : leD s (enc a) (enc b) = leE a b := by
  simp only [leD, py_en, Option.getD_some, DatumOrd.lt_eq, leE]
theorem mergeSort_map {γ δ : Type} {le : γ → γ → Bool} {le' : δ → δ → Bool} {f : γ → δ} (h : ∀ a b, le' (f a) (f b) = le a b) (xs : List γ) : (xs.map f).mergeSort le' = (xs.mergeSort le).map f := by
  rw [List.map_mergeSort]
  intro a _ b _
  exact (h a b).symm
theorem lt_irr (a : α) : DatumOrd.lt a a = false := by rw [← DatumOrd.lt_eq]; exact dataLt_self _
theorem lt_trans {a b c : α} (h1 : DatumOrd.lt a b = true) (h2 : DatumOrd.lt b c = true) : DatumOrd.lt a c = true := by
  rw [← DatumOrd.lt_eq] at h1 h2 ⊢
  exact lex_trans _ _ _ h1 h2
theorem lt_asym {a b : α} (h1 : DatumOrd.lt a b = true) : DatumOrd.lt b a = false := by
  cases q : DatumOrd.lt b a with
  | false => rfl
  | true => rw [← lt_irr a, ← lt_trans h1 q]
theorem leE_total (a b : α) : (leE a b || leE b a) = true := by
  unfold leE
  cases q : DatumOrd.lt b a with
  | false => rfl
  | true => rw [lt_asym q]; rfl
theorem leE_trans (a b c : α) (h1 : leE a b = true) (h2 : leE b c = true) : leE a c = true := by
  have e : ∀ x y : α, leE x y = !PyProof.Rows.lexLt itemOrd (keyToks (Datum.toD y)) (keyToks (Datum.toD x)) := fun x y => by
    show (!DatumOrd.lt y x) = _
    rw [← DatumOrd.lt_eq]
    rfl
  rw [e] at h1 h2 ⊢
  simp only [Bool.not_eq_true'] at h1 h2 ⊢
  cases q : PyProof.Rows.lexLt itemOrd (keyToks (Datum.toD c)) (keyToks (Datum.toD a)) with
  | false => rfl
  | true =>
    cases q2 : PyProof.Rows.lexLt itemOrd (keyToks (Datum.toD a)) (keyToks (Datum.toD b)) with
    | true =>
      have h3 := lex_trans _ _ _ q q2
      rw [h2] at h3
      cases h3
    | false =>
      have h3 := lex_total _ _ q2 h1
      rw [h3] at q
      rw [h2] at q
      cases q
/-- sorting gives the strictly rising list of the same values -/
theorem sort_unique {xs ys : List α} (hp : xs.Perm ys) (hs : ys.Pairwise fun a b => DatumOrd.lt a b = true) : xs.mergeSort leE = ys := by
  refine List.Perm.eq_of_pairwise (le := fun a b => leE a b = true) ?_ (List.pairwise_mergeSort leE_trans leE_total xs) ?_ ((List.mergeSort_perm xs leE).trans hp)
  · intro a b ha hb h1 h2
    have ha : a ∈ ys := hp.mem_iff.mp ((List.mergeSort_perm xs leE).mem_iff.mp ha)
    by_cases h : a = b
    · exact h
    · exfalso
      unfold leE at h1 h2
      simp only [Bool.not_eq_true'] at h1 h2
      have key : ∀ {l : List α}, l.Pairwise (fun a b => DatumOrd.lt a b = true) → a ∈ l → b ∈ l → DatumOrd.lt a b = true ∨ DatumOrd.lt b a = true := by
        intro l
        induction l with
        | nil => intro _ h _; cases h
        | cons x l ih =>
          intro hp ha hb
          obtain ⟨p1, p2⟩ := List.pairwise_cons.mp hp
          rcases List.mem_cons.mp ha with rfl | ha
          · rcases List.mem_cons.mp hb with hb | hb
            · exact absurd hb.symm h
            · exact .inl (p1 _ hb)
          · rcases List.mem_cons.mp hb with hb | hb
            · rw [hb]; exact .inr (p1 _ ha)
            · exact ih p2 ha hb
      rcases key hs ha hb with z | z
      · rw [z] at h2; cases h2
      · rw [z] at h1; cases h1
  · exact hs.imp fun h => by show (!DatumOrd.lt _ _) = true; rw [lt_asym h]; rfl
theorem sortOk_en (xs : List α) (ht : ∀ a : α, isTup (Datum.toD a) = true) (h : Datum.depth α ≤ 64) : sortOk (xs.map Datum.toD) = true := by
  unfold sortOk
  simp only [Bool.and_eq_true, Bool.or_eq_true, List.all_eq_true, List.mem_map, decide_eq_true_eq]
  refine ⟨⟨?_, .inl ?_⟩, ?_⟩
  · rintro _ ⟨a, _, rfl⟩ _ ⟨b, _, rfl⟩
    exact DatumOrd.alike a b
  · rintro _ ⟨a, _, rfl⟩
    exact ht a
  · rintro _ ⟨a, _, rfl⟩
    exact Nat.le_trans (Datum.depth_le a) h
theorem sorted_en (s : S) (xs : List α) (ht : ∀ a : α, isTup (Datum.toD a) = true) (h : Datum.depth α ≤ 64 := by decide) : evBi .sorted [.lst (xs.map enc)] s = .ok (.lst ((xs.mergeSort leE).map enc)) s := by
  simp only [evBi, S.items, pys_en, sortOk_en xs ht h, Bool.true_or, if_true]
  rw [mergeSort_map (leD_en s)]
theorem sortedK_en (s : S) (xs : List α) (vs : List D) (ht : ∀ a : α, isTup (Datum.toD a) = true) (h : Datum.depth α ≤ 64 := by decide) : evBi .sorted [.dic (xs.map enc) vs] s = .ok (.lst ((xs.mergeSort leE).map enc)) s := by
  simp only [evBi, pys_en, sortOk_en xs ht h, if_true]
  rw [mergeSort_map (leD_en s)]
end
end Mi
set_option Elab.async false
set_option linter.all false
set_option maxRecDepth 100000
set_option maxHeartbeats 400000
/-! W1: the run of a text ends well, and so and so holds: step by step, by simp. -/
namespace Mi
open PySem PySem.W
open Mi.En (enc)
/-- the run ends with a value, and Q holds of it -/
def Res.W {α : Type} (r : Res α) (Q : α → S → Prop) : Prop := match r with
  | .ok a s => Q a s
  | _ => False
def Fl.W (f : Fl) (N : Tau → S → Prop) (R : D → S → Prop) (K : Tau → S → Prop) (B : Tau → S → Prop) : Prop := match f with
  | .nx τ s => N τ s
  | .rt d s => R d s
  | .ct τ s => K τ s
  | .bk τ s => B τ s
  | _ => False
theorem W_bind {α β : Type} {r : Res α} {f : α → S → Res β} {Q : β → S → Prop} : (Res.bind r f).W Q = r.W (fun a s => (f a s).W Q) := by cases r <;> rfl
theorem W_of {α : Type} {r : Res α} {τ : Tau} {f : α → S → Fl} {N R K B} : (Fl.of r τ f).W N R K B = r.W (fun a s => (f a s).W N R K B) := by cases r <;> rfl
theorem W_next {f : Fl} {g : Tau → S → Fl} {N R K B} : (Fl.next f g).W N R K B = f.W (fun τ s => (g τ s).W N R K B) R K B := by cases f <;> rfl
theorem Res.W.mono {α : Type} {r : Res α} {Q Q' : α → S → Prop} (h : r.W Q) (k : ∀ a s, Q a s → Q' a s) : r.W Q' := by
  cases r with
  | ok a s => exact k _ _ h
  | exc => exact h
  | stuck => exact h
theorem Res.W.ex {α : Type} {r : Res α} {Q : α → S → Prop} (h : r.W Q) : ∃ a s, r = .ok a s ∧ Q a s := by
  cases r with
  | ok a s => exact ⟨a, s, rfl, h⟩
  | exc => exact h.elim
  | stuck => exact h.elim
theorem Res.W.of {α : Type} {r : Res α} {Q : α → S → Prop} {a : α} {s : S} (h : r = .ok a s) (q : Q a s) : r.W Q := by rw [h]; exact q
/-- just this value, this state -/
def isQ {α : Type} (x : α) (t : S) : α → S → Prop := fun a s => a = x ∧ s = t
theorem Res.W.eq {α : Type} {r : Res α} {x : α} {t : S} (h : r.W (isQ x t)) : r = .ok x t := by
  obtain ⟨a, s, e, rfl, rfl⟩ := h.ex
  exact e
theorem isQ_self {α : Type} {x : α} {t : S} : isQ x t x t = True := by simp [isQ]
theorem Fl.W.mono {f : Fl} {N N' R R' K K' B B'} (h : f.W N R K B) (n : ∀ τ s, N τ s → N' τ s) (r : ∀ d s, R d s → R' d s) (k : ∀ τ s, K τ s → K' τ s) (b : ∀ τ s, B τ s → B' τ s) : f.W N' R' K' B' := by
  cases f with
  | nx τ s => exact n _ _ h
  | rt d s => exact r _ _ h
  | ct τ s => exact k _ _ h
  | bk τ s => exact b _ _ h
  | exc => exact h
  | stuck => exact h
abbrev noT : Tau → S → Prop := fun _ _ => False
abbrev noR : D → S → Prop := fun _ _ => False
section
variable (c : Cc) (τ : Tau)
/-! ### what is done behind a part -/
abbrev VQ := D → S → Prop
abbrev TQ := Tau → S → Prop
def kSs (r : MSs) (N : TQ) (R : VQ) (K B : TQ) : TQ := fun τ s => (evSs c r τ s).W N R K B
def kSet (i : Nat) (N : TQ) : VQ := fun d s => N (τ.set i (some d)) s
def kAsg (g : MG) (N : TQ) : VQ := fun d s => (evG c g d τ s).W N
def kP2a (i j : Nat) (b : ME) (N : TQ) : VQ := fun x s => (evE c b τ s).W fun y s => N ((τ.set i (some x)).set j (some y)) s
def kP2b (i j : Nat) (x : D) (N : TQ) : VQ := fun y s => N ((τ.set i (some x)).set j (some y)) s
def kP3a (i j k : Nat) (b e : ME) (N : TQ) : VQ := fun x s => (evE c b τ s).W fun y s => (evE c e τ s).W fun z s => N (((τ.set i (some x)).set j (some y)).set k (some z)) s
def kP3b (i j k : Nat) (e : ME) (x : D) (N : TQ) : VQ := fun y s => (evE c e τ s).W fun z s => N (((τ.set i (some x)).set j (some y)).set k (some z)) s
def kP3c (i j k : Nat) (x y : D) (N : TQ) : VQ := fun z s => N (((τ.set i (some x)).set j (some y)).set k (some z)) s
def kAS3 (o : Bo) (x y : D) (n : Int) (N : TQ) : VQ := fun d s => (augPut o x y n τ d s).W N noR noT noT
def wAS (g : Option Int) (o : Bo) (x y : D) (e : ME) (N : TQ) (s : S) : Prop := match g with
  | some n => (evE c e τ s).W (kAS3 τ o x y n N)
  | none => False
def kAS2 (x : D) (o : Bo) (e : ME) (N : TQ) : VQ := fun y s => wAS c τ (augGet x y s) o x y e N s
def kAS1 (i : ME) (o : Bo) (e : ME) (N : TQ) : VQ := fun x s => (evE c i τ s).W (kAS2 c τ x o e N)
def kAug (o : Bo) (n : Int) (i : Nat) (N : TQ) : VQ := fun d s => (augF o n i τ d s).W N noR noT noT
def kEx (N : TQ) : VQ := fun _ s => N τ s
/-- a branch: it waits till the test is known -/
def brS (p : Bool) (a b : MSs) (s : S) (N : TQ) (R : VQ) (K B : TQ) : Prop := match p with
  | true => (evSs c a τ s).W N R K B
  | false => (evSs c b τ s).W N R K B
def kIf (a b : MSs) (N : TQ) (R : VQ) (K B : TQ) : VQ := fun d s => match d with
  | .bl p => brS c τ p a b s N R K B
  | _ => False
def kFor (g : MG) (b : MSs) (N : TQ) (R : VQ) : List D → S → Prop := fun ds s => (loopF (evG c g) (evSs c b) ds τ s).W N R noT noT
def wWhl (t : ME) (b : MSs) (s : S) (N : TQ) (R : VQ) : Prop := (loopW (evE c t) (evSs c b) c.wf τ s).W N R noT noT
def kFrz (Q : VQ) : VQ := fun d s => (evFrz d s).W Q
def kBin1 (o : Bo) (b : ME) (Q : VQ) : VQ := fun x s => (evE c b τ s).W fun y s => (evBin o x y s).W Q
def kBinc1 (o : Bo) (b : ME) (Q : VQ) : VQ := fun x s => (evE c b τ s).W fun y s => (evBinC o x y s).W Q
def kBinc2 (o : Bo) (x : D) (Q : VQ) : VQ := fun y s => (evBinC o x y s).W Q
def kBin2 (o : Bo) (x : D) (Q : VQ) : VQ := fun y s => (evBin o x y s).W Q
def kCmp1 (o : Co) (b : ME) (Q : VQ) : VQ := fun x s => (evE c b τ s).W fun y s => (evCmp o x y s).W Q
def kCmp2 (o : Co) (x : D) (Q : VQ) : VQ := fun y s => (evCmp o x y s).W Q
def kCh1 (o p : Co) (b e : ME) (Q : VQ) : VQ := fun x s => (evE c b τ s).W fun y s => (evCmp o x y s).W fun r s => match r with
  | .bl true => (evE c e τ s).W fun z s => (evCmp p y z s).W Q
  | .bl false => Q (.bl false) s
  | _ => False
def kCh2 (o p : Co) (e : ME) (x : D) (Q : VQ) : VQ := fun y s => (evCmp o x y s).W fun r s => match r with
  | .bl true => (evE c e τ s).W fun z s => (evCmp p y z s).W Q
  | .bl false => Q (.bl false) s
  | _ => False
def brCh (q : Bool) (p : Co) (e : ME) (y : D) (s : S) (Q : VQ) : Prop := match q with
  | true => (evE c e τ s).W (kCmp2 p y Q)
  | false => Q (.bl false) s
def kCh3 (p : Co) (e : ME) (y : D) (Q : VQ) : VQ := fun r s => match r with
  | .bl q => brCh c τ q p e y s Q
  | _ => False
def kNeg (Q : VQ) : VQ := fun x s => match x with
  | .int i => Q (.int (-i)) s
  | _ => False
def kNo (Q : VQ) : VQ := fun x s => match x with
  | .bl b => Q (.bl (!b)) s
  | _ => False
def kBl (Q : VQ) : VQ := fun x s => match x with
  | .bl b => Q (.bl b) s
  | _ => False
def brAnd (p : Bool) (b : ME) (s : S) (Q : VQ) : Prop := match p with
  | true => (evE c b τ s).W (kBl Q)
  | false => Q (.bl false) s
def brOr (p : Bool) (b : ME) (s : S) (Q : VQ) : Prop := match p with
  | true => Q (.bl true) s
  | false => (evE c b τ s).W (kBl Q)
def brE (p : Bool) (a b : ME) (s : S) (Q : VQ) : Prop := match p with
  | true => (evE c a τ s).W Q
  | false => (evE c b τ s).W Q
def kAnd (b : ME) (Q : VQ) : VQ := fun x s => match x with
  | .bl p => brAnd c τ p b s Q
  | _ => False
def kOr (b : ME) (Q : VQ) : VQ := fun x s => match x with
  | .bl p => brOr c τ p b s Q
  | _ => False
def kIfe (a b : ME) (Q : VQ) : VQ := fun x s => match x with
  | .bl p => brE c τ p a b s Q
  | _ => False
def kTup (Q : VQ) : List D → S → Prop := fun ds s => ds.length ≤ 16777216 ∧ Q (.tup ds) s
def kLst (Q : VQ) : List D → S → Prop := fun ds s => ds.length ≤ 16777216 ∧ Q (.lst ds) s
def kCell (Q : VQ) : List D → S → Prop := fun ds s => ds.length ≤ 16777216 ∧ Q (.ref s.nx) (s.add (.lst false ds))
def kIx1 (b : ME) (Q : VQ) : VQ := fun x s => (evE c b τ s).W fun y s => (evIx x y s).W Q
def kIx2 (x : D) (Q : VQ) : VQ := fun y s => (evIx x y s).W Q
def kSl1 (lo hi : MO) (Q : VQ) : VQ := fun x s => (evO c lo τ s).W fun l s => (evO c hi τ s).W fun h s => (evSl x l h s).W Q
def kSl2 (hi : MO) (x : D) (Q : VQ) : Option Int → S → Prop := fun l s => (evO c hi τ s).W fun h s => (evSl x l h s).W Q
def kSl3 (x : D) (l : Option Int) (Q : VQ) : Option Int → S → Prop := fun h s => (evSl x l h s).W Q
def kRev (Q : VQ) : VQ := fun x s => (evRev x s).W Q
def wIsi (o : Option Ty) (ts : List Ty) (s : S) (Q : VQ) : Prop := match o with
  | some t => Q (.bl (ts.any fun u => t.isa u)) s
  | none => False
def kIsi (ts : List Ty) (Q : VQ) : VQ := fun x s => wIsi (s.tyOf x) ts s Q
def kCall (f : Nat) (Q : VQ) : List D → S → Prop := fun ds s => (c.call f ds s).W Q
def wPerm (f : Nat) (o : Option (List D)) (s : S) (Q : VQ) : Prop := match o with
  | some as => (c.call f as s).W Q
  | none => False
def kCallK (n f : Nat) (perm : List Nat) (Q : VQ) : List D → S → Prop := fun ds s => ds.length = n ∧ wPerm c f (permD ds perm) s Q
def kBi (b : Bi) (Q : VQ) : List D → S → Prop := fun ds s => (evBi b ds s).W Q
def kDg1 (b : ME) (Q : VQ) : VQ := fun x s => (dicOf x s).isSome = true ∧ (evE c b τ s).W fun y s => (evDget x y s).W Q
def kDg2 (x : D) (Q : VQ) : VQ := fun y s => (evDget x y s).W Q
def kMt1 (m : Mt) (es : MEs) (Q : VQ) : VQ := fun x s => (s.items x).isSome = true ∧ (evEs c es τ s).W fun ds s => (evMt m x ds s).W Q
def kMt2 (m : Mt) (x : D) (Q : VQ) : List D → S → Prop := fun ds s => (evMt m x ds s).W Q
/-- one turn of a comprehension -/
def tnC (g : MG) (t : MO) (e : ME) (τ : Tau) (d : D) (s : S) : Res (Option D) := (evG c g d τ s).bind fun τ1 s3 => (evT c t τ1 s3).bind fun b s4 => if b then (evE c e τ1 s4).bind fun y s5 => .ok (some y) s5 else .ok none s4
def tnD (g : MG) (t : MO) (k v : ME) (τ : Tau) (d : D) (s : S) : Res (Option (D × D)) := (evG c g d τ s).bind fun τ1 s3 => (evT c t τ1 s3).bind fun b s4 => if b then (evE c k τ1 s4).bind fun x s5 => (evE c v τ1 s5).bind fun y s6 => .ok (some (x, y)) s6 else .ok none s4
def kCompEnd (mu : Bool) (Q : VQ) : List D → S → Prop := fun r s => match mu with
  | true => Q (.ref s.nx) (s.add (.lst false r))
  | false => Q (.lst r) s
def kComp (mu : Bool) (g : MG) (t : MO) (e : ME) (own : List Nat) (Q : VQ) : List D → S → Prop := fun ds s => ds.length ≤ 16777216 ∧ (loopC (tnC c g t e (wipeT τ own)) ds s).W (kCompEnd mu Q)
def kDEnd (mu : Bool) (Q : VQ) : List D × List D → S → Prop := fun r s => match mu with
  | true => Q (.ref s.nx) (s.add (.dic false r.1 r.2))
  | false => Q (.dic r.1 r.2) s
def kDcomp (mu : Bool) (g : MG) (t : MO) (k v : ME) (own : List Nat) (Q : VQ) : List D → S → Prop := fun ds s => ds.length ≤ 16777216 ∧ (loopK (tnD c g t k v (wipeT τ own)) ds [] [] s).W (kDEnd mu Q)
def kTC1 (t : MO) (e : ME) (Q : Option D → S → Prop) : TQ := fun τ s => (evT c t τ s).W fun b s => match b with
  | true => (evE c e τ s).W fun y s => Q (some y) s
  | false => Q none s
def brT (b : Bool) (e : ME) (s : S) (Q : Option D → S → Prop) : Prop := match b with
  | true => (evE c e τ s).W fun y s => Q (some y) s
  | false => Q none s
def kTC2 (e : ME) (Q : Option D → S → Prop) : Bool → S → Prop := fun b s => brT c τ b e s Q
def kSome (Q : Option D → S → Prop) : VQ := fun y s => Q (some y) s
def kTK1 (t : MO) (k v : ME) (Q : Option (D × D) → S → Prop) : TQ := fun τ s => (evT c t τ s).W fun b s => match b with
  | true => (evE c k τ s).W fun x s => (evE c v τ s).W fun y s => Q (some (x, y)) s
  | false => Q none s
def brK (b : Bool) (k v : ME) (s : S) (Q : Option (D × D) → S → Prop) : Prop := match b with
  | true => (evE c k τ s).W fun x s => (evE c v τ s).W fun y s => Q (some (x, y)) s
  | false => Q none s
def kTK0 (k v : ME) (Q : Option (D × D) → S → Prop) : Bool → S → Prop := fun b s => brK c τ b k v s Q
def kTK2 (v : ME) (Q : Option (D × D) → S → Prop) : VQ := fun x s => (evE c v τ s).W fun y s => Q (some (x, y)) s
def kTK3 (x : D) (Q : Option (D × D) → S → Prop) : VQ := fun y s => Q (some (x, y)) s
def kEs (r : MEs) (Q : List D → S → Prop) : VQ := fun d s => (evEs c r τ s).W fun ds s => Q (d :: ds) s
def kEc (d : D) (Q : List D → S → Prop) : List D → S → Prop := fun ds s => Q (d :: ds) s
def kO (Q : Option Int → S → Prop) : VQ := fun d s => match d with
  | .int i => Q (some i) s
  | _ => False
def kT (Q : Bool → S → Prop) : VQ := fun d s => match d with
  | .bl b => Q b s
  | _ => False
def wSome {α : Type} (o : Option α) (s : S) (Q : α → S → Prop) : Prop := match o with
  | some a => Q a s
  | none => False
def kIt (Q : List D → S → Prop) : VQ := fun d s => wSome (s.walk d) s Q
def kLv (Q : List D → S → Prop) : VQ := fun d s => wSome (s.items d) s Q
def kLve (Q : List D → S → Prop) : VQ := fun d s => wSome (s.items d) s fun ds s => Q (enumD 0 ds) s
def kLve2 (Q : List D → S → Prop) : List D → S → Prop := fun ds s => Q (enumD 0 ds) s
def kRng (Q : List D → S → Prop) : VQ := fun d s => match d with
  | .int j => (-4611686018427387904 ≤ j ∧ j < 4611686018427387904) ∧ Q (rangeD 0 j.toNat) s
  | _ => False
def kRn1 (b : ME) (Q : List D → S → Prop) : VQ := fun x s => (evE c b τ s).W fun y s => match x, y with
  | .int i, .int j => ((-4611686018427387904 ≤ i ∧ i < 4611686018427387904) ∧ (-4611686018427387904 ≤ j ∧ j < 4611686018427387904)) ∧ Q (rangeD i (j - i).toNat) s
  | _, _ => False
def kRn2 (x : D) (Q : List D → S → Prop) : VQ := fun y s => match x, y with
  | .int i, .int j => ((-4611686018427387904 ≤ i ∧ i < 4611686018427387904) ∧ (-4611686018427387904 ≤ j ∧ j < 4611686018427387904)) ∧ Q (rangeD i (j - i).toNat) s
  | _, _ => False
def kZ1 (b : ME) (Q : List D → S → Prop) : VQ := fun x s => (evE c b τ s).W fun y s => wSome (s.walkS x) s fun xs s => wSome (s.walkS y) s fun ys s => Q (zipD xs ys) s
def kZ2 (x : D) (Q : List D → S → Prop) : VQ := fun y s => wSome (s.walkS x) s fun xs s => wSome (s.walkS y) s fun ys s => Q (zipD xs ys) s
def kZw2 (x y : D) (Q : List D → S → Prop) : List D → S → Prop := fun xs s => wSome (s.walkS y) s fun ys s => Q (zipD xs ys) s
def kZw3 (x y : D) (xs : List D) (Q : List D → S → Prop) : List D → S → Prop := fun ys s => Q (zipD xs ys) s
def kY1 (b e : ME) (Q : List D → S → Prop) : VQ := fun x s => (evE c b τ s).W fun y s => (evE c e τ s).W fun z s => wSome (s.walkS x) s fun xs s => wSome (s.walkS y) s fun ys s => wSome (s.walkS z) s fun zs s => Q (zipD3 xs ys zs) s
def kY2 (e : ME) (x : D) (Q : List D → S → Prop) : VQ := fun y s => (evE c e τ s).W fun z s => wSome (s.walkS x) s fun xs s => wSome (s.walkS y) s fun ys s => wSome (s.walkS z) s fun zs s => Q (zipD3 xs ys zs) s
def kY3 (x y : D) (Q : List D → S → Prop) : VQ := fun z s => wSome (s.walkS x) s fun xs s => wSome (s.walkS y) s fun ys s => wSome (s.walkS z) s fun zs s => Q (zipD3 xs ys zs) s
def kY4 (y z : D) (Q : List D → S → Prop) : List D → S → Prop := fun xs s => wSome (s.walkS y) s fun ys s => wSome (s.walkS z) s fun zs s => Q (zipD3 xs ys zs) s
def kY5 (xs : List D) (z : D) (Q : List D → S → Prop) : List D → S → Prop := fun ys s => wSome (s.walkS z) s fun zs s => Q (zipD3 xs ys zs) s
def kY6 (xs ys : List D) (Q : List D → S → Prop) : List D → S → Prop := fun zs s => Q (zipD3 xs ys zs) s
def kEnu (Q : List D → S → Prop) : VQ := fun d s => wSome (s.walkS d) s fun ds s => Q (enumD 0 ds) s
def kEnu2 (Q : List D → S → Prop) : List D → S → Prop := fun ds s => Q (enumD 0 ds) s
def kGs (r : MGs) (ds : List D) (N : TQ) : TQ := fun τ s => (evGs c r ds τ s).W N
def kSub1 (b : ME) (d : D) (N : TQ) : VQ := fun x s => (evE c b τ s).W fun y s => wSome (setIx x y d s) s fun t _ => N τ t
def kSub2 (x d : D) (N : TQ) : VQ := fun y s => wSome (setIx x y d s) s fun t _ => N τ t
def kSub3 (N : TQ) : S → S → Prop := fun t _ => N τ t
def kNx (N : TQ) : VQ := fun d s => N τ s
end
theorem fits_le {ds : List D} : (fits ds = true) = (ds.length ≤ 16777216) := by
  unfold fits
  rw [decide_eq_true_eq, PySem.sizeLine_eq]
theorem small_le {j : Int} : (small j = true) = (-4611686018427387904 ≤ j ∧ j < 4611686018427387904) := by
  simp [small]
end Mi
set_option Elab.async false
set_option linter.all false
set_option maxRecDepth 100000
set_option maxHeartbeats 400000
/-! W2: the rules for each form. -/
namespace Mi
open PySem PySem.W
open Mi.En (enc)
section
variable {c : Cc} {τ : Tau} {s : S} {Q : VQ} {N K B : TQ} {R : VQ}
theorem w_ok {α : Type} {a : α} {s : S} {Q : α → S → Prop} : (Res.ok a s).W Q = Q a s := rfl
-- statements
theorem s_nil : (evSs c .nil τ s).W N R K B = N τ s := by rw [evSs]; rfl
theorem s_cons {a : MS} {r : MSs} : (evSs c (.cons a r) τ s).W N R K B = (evS c a τ s).W (kSs c r N R K B) R K B := by rw [evSs, W_next]; rfl
theorem k_ss {r : MSs} : kSs c r N R K B τ s = (evSs c r τ s).W N R K B := rfl
theorem s_set {i : Nat} {e : ME} : (evS c (.set i e) τ s).W N R K B = (evE c e τ s).W (kSet τ i N) := by rw [evS, W_of]; rfl
theorem k_set {i : Nat} {d : D} : kSet τ i N d s = N (τ.set i (some d)) s := rfl
theorem s_asg {g : MG} {e : ME} : (evS c (.asg g e) τ s).W N R K B = (evE c e τ s).W (kAsg c τ g N) := by rw [evS, W_of]; congr 1; funext d s1; rw [W_of]; rfl
theorem k_asg {g : MG} {d : D} : kAsg c τ g N d s = (evG c g d τ s).W N := rfl
theorem s_par2 {i j : Nat} {a b : ME} : (evS c (.par2 i j a b) τ s).W N R K B = (evE c a τ s).W (kP2a c τ i j b N) := by rw [evS, W_of]; congr 1; funext x s1; rw [W_of]; rfl
theorem k_p2a {i j : Nat} {b : ME} {x : D} : kP2a c τ i j b N x s = (evE c b τ s).W (kP2b τ i j x N) := rfl
theorem k_p2b {i j : Nat} {x y : D} : kP2b τ i j x N y s = N ((τ.set i (some x)).set j (some y)) s := rfl
theorem s_par3 {i j k : Nat} {a b e : ME} : (evS c (.par3 i j k a b e) τ s).W N R K B = (evE c a τ s).W (kP3a c τ i j k b e N) := by rw [evS, W_of]; congr 1; funext x s1; rw [W_of]; unfold kP3a; congr 1; funext y s2; rw [W_of]; rfl
theorem k_p3a {i j k : Nat} {b e : ME} {x : D} : kP3a c τ i j k b e N x s = (evE c b τ s).W (kP3b c τ i j k e x N) := rfl
theorem k_p3b {i j k : Nat} {e : ME} {x y : D} : kP3b c τ i j k e x N y s = (evE c e τ s).W (kP3c τ i j k x y N) := rfl
theorem k_p3c {i j k : Nat} {x y z : D} : kP3c τ i j k x y N z s = N (((τ.set i (some x)).set j (some y)).set k (some z)) s := rfl
theorem aug_at {i : Nat} {o : Bo} {e : ME} {n : Int} (h : τ[i]? = some (some (.int n))) : (evS c (.aug i o e) τ s).W N R K B = (evE c e τ s).W (kAug τ o n i N) := by
  rw [evS, h]
  show (Fl.of _ τ _).W N R K B = _
  rw [W_of]
  congr 1
  funext d s1
  show (augF o n i τ d s1).W N R K B = (augF o n i τ d s1).W N noR noT noT
  cases o <;> cases d <;> rfl
theorem k_aug1 {i : Nat} {n m : Int} : kAug τ .add n i N (.int m) s = N (τ.set i (some (.int (n + m)))) s := rfl
theorem k_aug2 {i : Nat} {n m : Int} : kAug τ .sub n i N (.int m) s = N (τ.set i (some (.int (n - m)))) s := rfl
theorem s_augS {a i : ME} {o : Bo} {e : ME} : (evS c (.augS a i o e) τ s).W N R K B = (evE c a τ s).W (kAS1 c τ i o e N) := by
  rw [evS, W_of]; congr 1; funext x s1; rw [W_of]; unfold kAS1; congr 1; funext y s2
  unfold kAS2 wAS
  cases augGet x y s2 with
  | none => rfl
  | some n =>
    show (Fl.of _ τ _).W N R K B = _
    rw [W_of]
    congr 1
    funext d s3
    show (augPut o x y n τ d s3).W N R K B = (augPut o x y n τ d s3).W N noR noT noT
    unfold augPut
    cases d with
    | int m =>
      simp only
      cases augZ o n m with
      | none => rfl
      | some z =>
        simp only
        cases setIx x y (.int z) s3 <;> rfl
    | _ => rfl
theorem k_as1 {i : ME} {o : Bo} {e : ME} {x : D} : kAS1 c τ i o e N x s = (evE c i τ s).W (kAS2 c τ x o e N) := rfl
theorem k_as2 {o : Bo} {e : ME} {x y : D} : kAS2 c τ x o e N y s = wAS c τ (augGet x y s) o x y e N s := rfl
theorem w_as {o : Bo} {e : ME} {x y : D} {n : Int} : wAS c τ (some n) o x y e N s = (evE c e τ s).W (kAS3 τ o x y n N) := rfl
theorem k_as3 {x y : D} {n m : Int} : kAS3 τ .add x y n N (.int m) s = wSome (setIx x y (.int (n + m)) s) s fun s1 _ => N τ s1 := by
  show Fl.W (match setIx x y (.int (n + m)) s with | some s1 => .nx τ s1 | none => .stuck) N noR noT noT = _
  cases setIx x y (.int (n + m)) s <;> rfl
theorem k_as4 {x y : D} {n m : Int} : kAS3 τ .sub x y n N (.int m) s = wSome (setIx x y (.int (n - m)) s) s fun s1 _ => N τ s1 := by
  show Fl.W (match setIx x y (.int (n - m)) s with | some s1 => .nx τ s1 | none => .stuck) N noR noT noT = _
  cases setIx x y (.int (n - m)) s <;> rfl
theorem s_ex {e : ME} : (evS c (.ex e) τ s).W N R K B = (evE c e τ s).W (kEx τ N) := by rw [evS, W_of]; rfl
theorem k_ex {d : D} : kEx τ N d s = N τ s := rfl
theorem s_ret {e : ME} : (evS c (.ret e) τ s).W N R K B = (evE c e τ s).W R := by rw [evS, W_of]; rfl
theorem s_ifs {t : ME} {a b : MSs} : (evS c (.ifs t a b) τ s).W N R K B = (evE c t τ s).W (kIf c τ a b N R K B) := by
  rw [evS, W_of]
  congr 1
  funext d s1
  cases d with
  | bl p => cases p <;> rfl
  | _ => rfl
theorem k_if {a b : MSs} {p : Bool} : kIf c τ a b N R K B (.bl p) s = brS c τ p a b s N R K B := rfl
theorem br_st {a b : MSs} : brS c τ true a b s N R K B = (evSs c a τ s).W N R K B := rfl
theorem br_sf {a b : MSs} : brS c τ false a b s N R K B = (evSs c b τ s).W N R K B := rfl
theorem loopF_W {g : D → Tau → S → Res Tau} {b : Tau → S → Fl} : ∀ {ds : List D} {τ : Tau} {s : S}, (loopF g b ds τ s).W N R K B = (loopF g b ds τ s).W N R noT noT
  | [], τ, s => rfl
  | d :: ds, τ, s => by
    rw [loopF]
    cases g d τ s with
    | ok τ1 s1 =>
      show Fl.W (match b τ1 s1 with | .nx τ2 s2 => loopF g b ds τ2 s2 | .ct τ2 s2 => loopF g b ds τ2 s2 | .bk τ2 s2 => .nx τ2 s2 | .rt d s2 => .rt d s2 | .exc x τ2 s2 => .exc x τ2 s2 | .stuck => .stuck) N R K B = Fl.W (match b τ1 s1 with | .nx τ2 s2 => loopF g b ds τ2 s2 | .ct τ2 s2 => loopF g b ds τ2 s2 | .bk τ2 s2 => .nx τ2 s2 | .rt d s2 => .rt d s2 | .exc x τ2 s2 => .exc x τ2 s2 | .stuck => .stuck) N R noT noT
      cases b τ1 s1 with
      | nx τ2 s2 => exact loopF_W
      | ct τ2 s2 => exact loopF_W
      | _ => rfl
    | _ => rfl
theorem loopW_W {t : Tau → S → Res D} {b : Tau → S → Fl} : ∀ {k : Nat} {τ : Tau} {s : S}, (loopW t b k τ s).W N R K B = (loopW t b k τ s).W N R noT noT
  | 0, τ, s => rfl
  | k + 1, τ, s => by
    rw [loopW]
    cases t τ s with
    | ok d s1 =>
      cases d with
      | bl p =>
        cases p with
        | true =>
          show Fl.W (match b τ s1 with | .nx τ2 s2 => loopW t b k τ2 s2 | .ct τ2 s2 => loopW t b k τ2 s2 | .bk τ2 s2 => .nx τ2 s2 | .rt d s2 => .rt d s2 | .exc x τ2 s2 => .exc x τ2 s2 | .stuck => .stuck) N R K B = Fl.W (match b τ s1 with | .nx τ2 s2 => loopW t b k τ2 s2 | .ct τ2 s2 => loopW t b k τ2 s2 | .bk τ2 s2 => .nx τ2 s2 | .rt d s2 => .rt d s2 | .exc x τ2 s2 => .exc x τ2 s2 | .stuck => .stuck) N R noT noT
          cases b τ s1 with
          | nx τ2 s2 => exact loopW_W
          | ct τ2 s2 => exact loopW_W
          | _ => rfl
        | false => rfl
      | _ => rfl
    | _ => rfl
theorem s_fors {g : MG} {i : MI} {b : MSs} : (evS c (.fors g i b) τ s).W N R K B = (evI c i τ s).W (kFor c τ g b N R) := by
  rw [evS, W_of]
  congr 1
  funext ds s1
  exact loopF_W
theorem k_for {g : MG} {b : MSs} {ds : List D} : kFor c τ g b N R ds s = (loopF (evG c g) (evSs c b) ds τ s).W N R noT noT := rfl
theorem s_whl {t : ME} {b : MSs} : (evS c (.whl t b) τ s).W N R K B = wWhl c τ t b s N R := by rw [evS]; exact loopW_W
theorem s_brk : (evS c .brk τ s).W N R K B = B τ s := by rw [evS]; rfl
theorem s_cnt : (evS c .cnt τ s).W N R K B = K τ s := by rw [evS]; rfl
theorem s_pas : (evS c .pas τ s).W N R K B = N τ s := by rw [evS]; rfl
def kGf (τ : Tau) (i : Nat) (N : TQ) : VQ := fun d s => N (τ.set i (some d)) s
theorem gf_at {i : Nat} {d : D} (h : τ[i]? = some (some d)) : (evS c (.gfrz i) τ s).W N R K B = (evFrz d s).W (kGf τ i N) := by
  rw [evS, h]
  show Fl.W (match evFrz d s with | .ok d1 s1 => .nx (τ.set i (some d1)) s1 | _ => .stuck) N R K B = _
  cases evFrz d s <;> rfl
theorem k_gf {i : Nat} {d : D} : kGf τ i N d s = N (τ.set i (some d)) s := rfl
-- values
theorem slot_at {i : Nat} {d : D} (h : τ[i]? = some (some d)) : (evE c (.slot i) τ s).W Q = Q d s := by rw [evE, h]; rfl
theorem e_cst {d : D} : (evE c (.cst d) τ s).W Q = Q d s := by rw [evE]; rfl
theorem e_frz {e : ME} : (evE c (.frz e) τ s).W Q = (evE c e τ s).W (kFrz Q) := by rw [evE, W_bind]; rfl
theorem k_frz {d : D} : kFrz Q d s = (evFrz d s).W Q := rfl
theorem e_bin {o : Bo} {a b : ME} : (evE c (.bin o a b) τ s).W Q = (evE c a τ s).W (kBin1 c τ o b Q) := by rw [evE, W_bind]; congr 1; funext x s1; rw [W_bind]; rfl
theorem k_bin1 {o : Bo} {b : ME} {x : D} : kBin1 c τ o b Q x s = (evE c b τ s).W (kBin2 o x Q) := rfl
theorem e_binc {o : Bo} {a b : ME} : (evE c (.binc o a b) τ s).W Q = (evE c a τ s).W (kBinc1 c τ o b Q) := by rw [evE, W_bind]; congr 1; funext x s1; rw [W_bind]; rfl
theorem k_binc1 {o : Bo} {b : ME} {x : D} : kBinc1 c τ o b Q x s = (evE c b τ s).W (kBinc2 o x Q) := rfl
theorem k_binc2 {o : Bo} {x y : D} : kBinc2 o x Q y s = (evBinC o x y s).W Q := rfl
theorem k_bin2 {o : Bo} {x y : D} : kBin2 o x Q y s = (evBin o x y s).W Q := rfl
theorem e_cmp {o : Co} {a b : ME} : (evE c (.cmp o a b) τ s).W Q = (evE c a τ s).W (kCmp1 c τ o b Q) := by rw [evE, W_bind]; congr 1; funext x s1; rw [W_bind]; rfl
theorem k_cmp1 {o : Co} {b : ME} {x : D} : kCmp1 c τ o b Q x s = (evE c b τ s).W (kCmp2 o x Q) := rfl
theorem k_cmp2 {o : Co} {x y : D} : kCmp2 o x Q y s = (evCmp o x y s).W Q := rfl
theorem e_chain {o p : Co} {a b e : ME} : (evE c (.chain o p a b e) τ s).W Q = (evE c a τ s).W (kCh1 c τ o p b e Q) := by
  rw [evE, W_bind]; congr 1; funext x s1; rw [W_bind]; unfold kCh1; congr 1; funext y s2; rw [W_bind]; congr 1; funext r s3
  cases r with
  | bl q => cases q with
    | true => simp only; rw [W_bind]
    | false => rfl
  | _ => rfl
theorem k_ch1 {o p : Co} {b e : ME} {x : D} : kCh1 c τ o p b e Q x s = (evE c b τ s).W (kCh2 c τ o p e x Q) := rfl
theorem k_ch2 {o p : Co} {e : ME} {x y : D} : kCh2 c τ o p e x Q y s = (evCmp o x y s).W (kCh3 c τ p e y Q) := by
  unfold kCh2
  congr 1
  funext r s1
  cases r with
  | bl q => cases q <;> rfl
  | _ => rfl
theorem k_ch3 {q : Bool} {p : Co} {e : ME} {y : D} : kCh3 c τ p e y Q (.bl q) s = brCh c τ q p e y s Q := rfl
theorem br_cht {p : Co} {e : ME} {y : D} : brCh c τ true p e y s Q = (evE c e τ s).W (kCmp2 p y Q) := rfl
theorem br_chf {p : Co} {e : ME} {y : D} : brCh c τ false p e y s Q = Q (.bl false) s := rfl
theorem e_neg {a : ME} : (evE c (.neg a) τ s).W Q = (evE c a τ s).W (kNeg Q) := by
  rw [evE, W_bind]; congr 1; funext d s1; cases d <;> rfl
theorem k_neg {i : Int} : kNeg Q (.int i) s = Q (.int (-i)) s := rfl
theorem e_no {a : ME} : (evE c (.no a) τ s).W Q = (evE c a τ s).W (kNo Q) := by
  rw [evE, W_bind]; congr 1; funext d s1; cases d <;> rfl
theorem k_no {b : Bool} : kNo Q (.bl b) s = Q (.bl (!b)) s := rfl
theorem kBl_eq {r : Res D} : (r.bind fun y s2 => match y with | .bl r => .ok (.bl r) s2 | _ => .stuck).W Q = r.W (kBl Q) := by
  rw [W_bind]; congr 1; funext d s1; cases d <;> rfl
theorem e_and {a b : ME} : (evE c (.and a b) τ s).W Q = (evE c a τ s).W (kAnd c τ b Q) := by
  rw [evE, W_bind]; congr 1; funext d s1
  cases d with
  | bl p => cases p with
    | true => exact kBl_eq
    | false => rfl
  | _ => rfl
theorem k_and {b : ME} {p : Bool} : kAnd c τ b Q (.bl p) s = brAnd c τ p b s Q := rfl
theorem br_andt {b : ME} : brAnd c τ true b s Q = (evE c b τ s).W (kBl Q) := rfl
theorem br_andf {b : ME} : brAnd c τ false b s Q = Q (.bl false) s := rfl
theorem k_bl {p : Bool} : kBl Q (.bl p) s = Q (.bl p) s := rfl
theorem e_or {a b : ME} : (evE c (.or a b) τ s).W Q = (evE c a τ s).W (kOr c τ b Q) := by
  rw [evE, W_bind]; congr 1; funext d s1
  cases d with
  | bl p => cases p with
    | true => rfl
    | false => exact kBl_eq
  | _ => rfl
theorem k_or {b : ME} {p : Bool} : kOr c τ b Q (.bl p) s = brOr c τ p b s Q := rfl
theorem br_ort {b : ME} : brOr c τ true b s Q = Q (.bl true) s := rfl
theorem br_orf {b : ME} : brOr c τ false b s Q = (evE c b τ s).W (kBl Q) := rfl
theorem e_ife {t a b : ME} : (evE c (.ife t a b) τ s).W Q = (evE c t τ s).W (kIfe c τ a b Q) := by
  rw [evE, W_bind]; congr 1; funext d s1
  cases d with
  | bl p => cases p <;> rfl
  | _ => rfl
theorem k_ife {a b : ME} {p : Bool} : kIfe c τ a b Q (.bl p) s = brE c τ p a b s Q := rfl
theorem br_et {a b : ME} : brE c τ true a b s Q = (evE c a τ s).W Q := rfl
theorem br_ef {a b : ME} : brE c τ false a b s Q = (evE c b τ s).W Q := rfl
theorem W_fits {α : Type} {ds : List D} {r : Res α} {Q : α → S → Prop} : (if fits ds = true then r else .stuck).W Q = (ds.length ≤ 16777216 ∧ r.W Q) := by
  by_cases h : fits ds = true
  · rw [if_pos h]
    rw [fits_le] at h
    simp only [h, true_and]
  · rw [if_neg h]
    rw [fits_le] at h
    simp only [h, false_and]
    rfl
theorem e_tup {es : MEs} : (evE c (.tup es) τ s).W Q = (evEs c es τ s).W (kTup Q) := by
  rw [evE, W_bind]; congr 1; funext ds s1; exact W_fits
theorem k_tup {ds : List D} : kTup Q ds s = (ds.length ≤ 16777216 ∧ Q (.tup ds) s) := rfl
theorem e_lst {es : MEs} : (evE c (.lst es) τ s).W Q = (evEs c es τ s).W (kLst Q) := by
  rw [evE, W_bind]; congr 1; funext ds s1; exact W_fits
theorem k_lst {ds : List D} : kLst Q ds s = (ds.length ≤ 16777216 ∧ Q (.lst ds) s) := rfl
theorem e_cell {es : MEs} : (evE c (.cell es) τ s).W Q = (evEs c es τ s).W (kCell Q) := by
  rw [evE, W_bind]; congr 1; funext ds s1; exact W_fits
theorem k_cell {ds : List D} : kCell Q ds s = (ds.length ≤ 16777216 ∧ Q (.ref s.nx) (s.add (.lst false ds))) := rfl
theorem e_dic0 : (evE c .dic0 τ s).W Q = Q (.ref s.nx) (s.add (.dic false [] [])) := by rw [evE]; rfl
theorem e_ix {a b : ME} : (evE c (.ix a b) τ s).W Q = (evE c a τ s).W (kIx1 c τ b Q) := by rw [evE, W_bind]; congr 1; funext x s1; rw [W_bind]; rfl
theorem k_ix1 {b : ME} {x : D} : kIx1 c τ b Q x s = (evE c b τ s).W (kIx2 x Q) := rfl
theorem k_ix2 {x y : D} : kIx2 x Q y s = (evIx x y s).W Q := rfl
theorem e_sl {a : ME} {lo hi : MO} : (evE c (.sl a lo hi) τ s).W Q = (evE c a τ s).W (kSl1 c τ lo hi Q) := by
  rw [evE, W_bind]; congr 1; funext x s1; rw [W_bind]; unfold kSl1; congr 1; funext l s2; rw [W_bind]
theorem k_sl1 {lo hi : MO} {x : D} : kSl1 c τ lo hi Q x s = (evO c lo τ s).W (kSl2 c τ hi x Q) := rfl
theorem k_sl2 {hi : MO} {x : D} {l : Option Int} : kSl2 c τ hi x Q l s = (evO c hi τ s).W (kSl3 x l Q) := rfl
theorem k_sl3 {x : D} {l h : Option Int} : kSl3 x l Q h s = (evSl x l h s).W Q := rfl
theorem e_rev {a : ME} : (evE c (.rev a) τ s).W Q = (evE c a τ s).W (kRev Q) := by rw [evE, W_bind]; rfl
theorem k_rev {d : D} : kRev Q d s = (evRev d s).W Q := rfl
theorem e_isi {a : ME} {ts : List Ty} : (evE c (.isi a ts) τ s).W Q = (evE c a τ s).W (kIsi ts Q) := by
  rw [evE, W_bind]; congr 1; funext x s1
  show Res.W (match s1.tyOf x with | some t => _ | none => _) Q = wIsi (s1.tyOf x) ts s1 Q
  cases s1.tyOf x <;> rfl
theorem k_isi {ts : List Ty} {x : D} : kIsi ts Q x s = wIsi (s.tyOf x) ts s Q := rfl
theorem w_isi {t : Ty} {ts : List Ty} : wIsi (some t) ts s Q = Q (.bl (ts.any fun u => t.isa u)) s := rfl
theorem e_call {f : Nat} {es : MEs} : (evE c (.call f es) τ s).W Q = (evEs c es τ s).W (kCall c f Q) := by rw [evE, W_bind]; rfl
theorem k_call {f : Nat} {ds : List D} {tab : Nat → Option Fd} {wf n : Nat} : kCall (cc tab wf n) f Q ds s = (callN tab wf n f ds s).W Q := rfl
theorem e_callK {f : Nat} {es : MEs} {perm : List Nat} : (evE c (.callK f es perm) τ s).W Q = (evEs c es τ s).W (kCallK c (lenMEs es) f perm Q) := by
  rw [evE, W_bind]; congr 1; funext ds s1
  unfold kCallK
  by_cases h : ds.length = lenMEs es
  · simp only [h, if_true, true_and]
    cases permD ds perm <;> rfl
  · simp only [h, if_false, false_and]
    rfl
theorem k_callK {n f : Nat} {perm : List Nat} {ds : List D} : kCallK c n f perm Q ds s = (ds.length = n ∧ wPerm c f (permD ds perm) s Q) := rfl
theorem w_perm {tab : Nat → Option Fd} {wf n f : Nat} {as : List D} : wPerm (cc tab wf n) f (some as) s Q = (callN tab wf n f as s).W Q := rfl
theorem lcall_at {tab : Nat → Option Fd} {wf n : Nat} {i f : Nat} {es : MEs} (h : τ[i]? = some (some (.fn f))) : (evE (cc tab wf n) (.lcall i es) τ s).W Q = ((tab f).isSome = true ∧ (evEs (cc tab wf n) es τ s).W (kCall (cc tab wf n) f Q)) := by
  rw [evE, h]
  show Res.W (if (tab f).isSome = true then _ else _) Q = _
  by_cases k : (tab f).isSome = true
  · rw [if_pos k, W_bind]
    simp only [k, true_and]
    rfl
  · rw [if_neg k]
    simp only [k, false_and, Bool.false_eq_true]
    rfl
theorem e_bi {b : Bi} {es : MEs} : (evE c (.bi b es) τ s).W Q = (evEs c es τ s).W (kBi b Q) := by rw [evE, W_bind]; rfl
theorem k_bi {b : Bi} {ds : List D} : kBi b Q ds s = (evBi b ds s).W Q := rfl
theorem e_dget {a b : ME} : (evE c (.dget a b) τ s).W Q = (evE c a τ s).W (kDg1 c τ b Q) := by
  rw [evE, W_bind]; congr 1; funext x s1
  unfold kDg1
  by_cases h : (dicOf x s1).isSome = true
  · rw [if_pos h, W_bind]
    simp only [h, true_and]
  · rw [if_neg h]
    simp only [h, false_and, Bool.false_eq_true]
    rfl
theorem k_dg1 {b : ME} {x : D} : kDg1 c τ b Q x s = ((dicOf x s).isSome = true ∧ (evE c b τ s).W (kDg2 x Q)) := rfl
theorem k_dg2 {x y : D} : kDg2 x Q y s = (evDget x y s).W Q := rfl
theorem e_mt {m : Mt} {a : ME} {es : MEs} : (evE c (.mt m a es) τ s).W Q = (evE c a τ s).W (kMt1 c τ m es Q) := by
  rw [evE, W_bind]; congr 1; funext x s1
  unfold kMt1
  by_cases h : (s1.items x).isSome = true
  · rw [if_pos h, W_bind]
    simp only [h, true_and]
  · rw [if_neg h]
    simp only [h, false_and, Bool.false_eq_true]
    rfl
theorem k_mt1 {m : Mt} {es : MEs} {x : D} : kMt1 c τ m es Q x s = ((s.items x).isSome = true ∧ (evEs c es τ s).W (kMt2 m x Q)) := rfl
theorem k_mt2 {m : Mt} {x : D} {ds : List D} : kMt2 m x Q ds s = (evMt m x ds s).W Q := rfl
theorem e_comp {mu : Bool} {g : MG} {i : MI} {t : MO} {e : ME} {own : List Nat} : (evE c (.comp mu g i t e own) τ s).W Q = (evI c i τ s).W (kComp c τ mu g t e own Q) := by
  rw [evE, W_bind]; congr 1; funext ds s1
  rw [W_fits]
  unfold kComp
  congr 1
  show Res.W (match loopC (tnC c g t e (wipeT τ own)) ds s1 with | .ok r s2 => if mu then .ok (.ref s2.nx) (s2.add (.lst false r)) else .ok (.lst r) s2 | _ => .stuck) Q = _
  cases loopC (tnC c g t e (wipeT τ own)) ds s1 with
  | ok r s2 => cases mu <;> rfl
  | _ => rfl
theorem k_comp {mu : Bool} {g : MG} {t : MO} {e : ME} {own : List Nat} {ds : List D} : kComp c τ mu g t e own Q ds s = (ds.length ≤ 16777216 ∧ (loopC (tnC c g t e (wipeT τ own)) ds s).W (kCompEnd mu Q)) := rfl
theorem k_compT {r : List D} : kCompEnd true Q r s = Q (.ref s.nx) (s.add (.lst false r)) := rfl
theorem k_compF {r : List D} : kCompEnd false Q r s = Q (.lst r) s := rfl
theorem e_dcomp {mu : Bool} {g : MG} {i : MI} {t : MO} {k v : ME} {own : List Nat} : (evE c (.dcomp mu g i t k v own) τ s).W Q = (evI c i τ s).W (kDcomp c τ mu g t k v own Q) := by
  rw [evE, W_bind]; congr 1; funext ds s1
  rw [W_fits]
  unfold kDcomp
  congr 1
  show Res.W (match loopK (tnD c g t k v (wipeT τ own)) ds [] [] s1 with | .ok (ks, vs) s2 => if mu then .ok (.ref s2.nx) (s2.add (.dic false ks vs)) else .ok (.dic ks vs) s2 | _ => .stuck) Q = _
  cases loopK (tnD c g t k v (wipeT τ own)) ds [] [] s1 with
  | ok r s2 => cases mu <;> rfl
  | _ => rfl
theorem k_dcomp {mu : Bool} {g : MG} {t : MO} {k v : ME} {own : List Nat} {ds : List D} : kDcomp c τ mu g t k v own Q ds s = (ds.length ≤ 16777216 ∧ (loopK (tnD c g t k v (wipeT τ own)) ds [] [] s).W (kDEnd mu Q)) := rfl
theorem k_dend {r : List D × List D} : kDEnd false Q r s = Q (.dic r.1 r.2) s := rfl
theorem k_dendT {r : List D × List D} : kDEnd true Q r s = Q (.ref s.nx) (s.add (.dic false r.1 r.2)) := rfl
theorem t_turn {g : MG} {t : MO} {e : ME} {d : D} {P : Option D → S → Prop} : (tnC c g t e τ d s).W P = (evG c g d τ s).W (kTC1 c t e P) := by
  unfold tnC
  rw [W_bind]; congr 1; funext τ1 s1; rw [W_bind]; unfold kTC1; congr 1; funext b s2
  cases b with
  | true => simp only [if_true]; rw [W_bind]; rfl
  | false => rfl
theorem k_tc1 {t : MO} {e : ME} {P : Option D → S → Prop} : kTC1 c t e P τ s = (evT c t τ s).W (kTC2 c τ e P) := by
  unfold kTC1
  congr 1
theorem k_tc2 {e : ME} {b : Bool} {P : Option D → S → Prop} : kTC2 c τ e P b s = brT c τ b e s P := rfl
theorem br_tt {e : ME} {P : Option D → S → Prop} : brT c τ true e s P = (evE c e τ s).W (kSome P) := rfl
theorem br_tf {e : ME} {P : Option D → S → Prop} : brT c τ false e s P = P none s := rfl
theorem k_some {d : D} {P : Option D → S → Prop} : kSome P d s = P (some d) s := rfl
theorem t_turnK {g : MG} {t : MO} {k v : ME} {d : D} {P : Option (D × D) → S → Prop} : (tnD c g t k v τ d s).W P = (evG c g d τ s).W (kTK1 c t k v P) := by
  unfold tnD
  rw [W_bind]; congr 1; funext τ1 s1; rw [W_bind]; unfold kTK1; congr 1; funext b s2
  cases b with
  | true => simp only [if_true]; rw [W_bind]; congr 1; funext x s3; rw [W_bind]; rfl
  | false => rfl
theorem k_tk1 {t : MO} {k v : ME} {P : Option (D × D) → S → Prop} : kTK1 c t k v P τ s = (evT c t τ s).W (kTK0 c τ k v P) := by
  unfold kTK1
  congr 1
theorem k_tk0 {k v : ME} {b : Bool} {P : Option (D × D) → S → Prop} : kTK0 c τ k v P b s = brK c τ b k v s P := rfl
theorem br_kt {k v : ME} {P : Option (D × D) → S → Prop} : brK c τ true k v s P = (evE c k τ s).W (kTK2 c τ v P) := rfl
theorem br_kf {k v : ME} {P : Option (D × D) → S → Prop} : brK c τ false k v s P = P none s := rfl
theorem k_tk2 {v : ME} {x : D} {P : Option (D × D) → S → Prop} : kTK2 c τ v P x s = (evE c v τ s).W (kTK3 x P) := rfl
theorem k_tk3 {x y : D} {P : Option (D × D) → S → Prop} : kTK3 x P y s = P (some (x, y)) s := rfl
theorem es_nil {P : List D → S → Prop} : (evEs c .nil τ s).W P = P [] s := by rw [evEs]; rfl
theorem es_cons {e : ME} {r : MEs} {P : List D → S → Prop} : (evEs c (.cons e r) τ s).W P = (evE c e τ s).W (kEs c τ r P) := by
  rw [evEs, W_bind]; congr 1; funext d s1; rw [W_bind]; rfl
theorem k_es {r : MEs} {d : D} {P : List D → S → Prop} : kEs c τ r P d s = (evEs c r τ s).W (kEc d P) := rfl
theorem k_ec {d : D} {ds : List D} {P : List D → S → Prop} : kEc d P ds s = P (d :: ds) s := rfl
theorem o_no {P : Option Int → S → Prop} : (evO c .no τ s).W P = P none s := by rw [evO]; rfl
theorem o_so {e : ME} {P : Option Int → S → Prop} : (evO c (.so e) τ s).W P = (evE c e τ s).W (kO P) := by
  rw [evO, W_bind]; congr 1; funext d s1; cases d <;> rfl
theorem k_o {i : Int} {P : Option Int → S → Prop} : kO P (.int i) s = P (some i) s := rfl
theorem t_no {P : Bool → S → Prop} : (evT c .no τ s).W P = P true s := by rw [evT]; rfl
theorem t_so {e : ME} {P : Bool → S → Prop} : (evT c (.so e) τ s).W P = (evE c e τ s).W (kT P) := by
  rw [evT, W_bind]; congr 1; funext d s1; cases d <;> rfl
theorem k_t {b : Bool} {P : Bool → S → Prop} : kT P (.bl b) s = P b s := rfl
theorem w_some {α : Type} {a : α} {P : α → S → Prop} : wSome (some a) s P = P a s := rfl
theorem W_opt {α β : Type} {o : Option α} {f : α → Res β} {P : β → S → Prop} : Res.W (match o with | some a => f a | none => .stuck) P = wSome o s fun a _ => (f a).W P := by cases o <;> rfl
variable {P : List D → S → Prop}
theorem i_it {e : ME} : (evI c (.it e) τ s).W P = (evE c e τ s).W (kIt P) := by
  rw [evI, W_bind]; congr 1; funext d s1
  show Res.W (match s1.walk d with | some ds => .ok ds s1 | none => .stuck) P = wSome (s1.walk d) s1 P
  cases s1.walk d <;> rfl
theorem k_it {d : D} : kIt P d s = wSome (s.walk d) s P := rfl
theorem i_lv {e : ME} : (evI c (.lv e) τ s).W P = (evE c e τ s).W (kLv P) := by
  rw [evI, W_bind]; congr 1; funext d s1
  show Res.W (match s1.items d with | some ds => .ok ds s1 | none => .stuck) P = wSome (s1.items d) s1 P
  cases s1.items d <;> rfl
theorem k_lv {d : D} : kLv P d s = wSome (s.items d) s P := rfl
theorem i_lve {e : ME} : (evI c (.lve e) τ s).W P = (evE c e τ s).W (kLve P) := by
  rw [evI, W_bind]; congr 1; funext d s1
  show Res.W (match s1.items d with | some ds => .ok (enumD 0 ds) s1 | none => .stuck) P = wSome (s1.items d) s1 _
  cases s1.items d <;> rfl
theorem k_lve {d : D} : kLve P d s = wSome (s.items d) s (kLve2 P) := rfl
theorem k_lve2 {ds : List D} : kLve2 P ds s = P (enumD 0 ds) s := rfl
theorem i_rng {e : ME} : (evI c (.rng e) τ s).W P = (evE c e τ s).W (kRng P) := by
  rw [evI, W_bind]; congr 1; funext d s1
  cases d with
  | int j =>
    unfold kRng
    show Res.W (if small j = true then .ok (rangeD 0 j.toNat) s1 else .stuck) P = _
    by_cases h : small j = true
    · rw [if_pos h]
      rw [small_le] at h
      simp only [h, true_and]
      rfl
    · rw [if_neg h]
      rw [small_le] at h
      simp only [h, false_and]
      rfl
  | _ => rfl
theorem k_rng {j : Int} : kRng P (.int j) s = ((-4611686018427387904 ≤ j ∧ j < 4611686018427387904) ∧ P (rangeD 0 j.toNat) s) := rfl
theorem i_rng2 {a b : ME} : (evI c (.rng2 a b) τ s).W P = (evE c a τ s).W (kRn1 c τ b P) := by
  rw [evI, W_bind]; congr 1; funext x s1; rw [W_bind]; unfold kRn1; congr 1; funext y s2
  cases x with
  | int i =>
    cases y with
    | int j =>
      show Res.W (if (small i && small j) = true then .ok (rangeD i (j - i).toNat) s2 else .stuck) P = _
      by_cases h : (small i && small j) = true
      · rw [if_pos h]
        rw [Bool.and_eq_true, small_le, small_le] at h
        simp only [h, true_and]
        rfl
      · rw [if_neg h]
        rw [Bool.and_eq_true, small_le, small_le] at h
        simp only [h, false_and]
        rfl
    | _ => rfl
  | _ => rfl
theorem k_rn1 {b : ME} {x : D} : kRn1 c τ b P x s = (evE c b τ s).W (kRn2 x P) := rfl
theorem k_rn2 {i j : Int} : kRn2 (.int i) P (.int j) s = (((-4611686018427387904 ≤ i ∧ i < 4611686018427387904) ∧ (-4611686018427387904 ≤ j ∧ j < 4611686018427387904)) ∧ P (rangeD i (j - i).toNat) s) := rfl
theorem i_zip2 {a b : ME} : (evI c (.zip2 a b) τ s).W P = (evE c a τ s).W (kZ1 c τ b P) := by
  rw [evI, W_bind]; congr 1; funext x s1; rw [W_bind]; unfold kZ1; congr 1; funext y s2
  show Res.W (match s2.walkS x, s2.walkS y with | some xs, some ys => .ok (zipD xs ys) s2 | _, _ => .stuck) P = _
  cases s2.walkS x with
  | none => rfl
  | some xs =>
    show _ = wSome (s2.walkS y) s2 fun ys s => P (zipD xs ys) s
    cases s2.walkS y <;> rfl
theorem k_z1 {b : ME} {x : D} : kZ1 c τ b P x s = (evE c b τ s).W (kZ2 x P) := rfl
theorem k_z2 {x y : D} : kZ2 x P y s = wSome (s.walkS x) s (kZw2 x y P) := rfl
theorem k_zw2 {x y : D} {xs : List D} : kZw2 x y P xs s = wSome (s.walkS y) s (kZw3 x y xs P) := rfl
theorem k_zw3 {x y : D} {xs ys : List D} : kZw3 x y xs P ys s = P (zipD xs ys) s := rfl
theorem i_zip3 {a b e : ME} : (evI c (.zip3 a b e) τ s).W P = (evE c a τ s).W (kY1 c τ b e P) := by
  rw [evI, W_bind]; congr 1; funext x s1; rw [W_bind]; unfold kY1; congr 1; funext y s2; rw [W_bind]; congr 1; funext z s3
  show Res.W (match s3.walkS x, s3.walkS y, s3.walkS z with | some xs, some ys, some zs => .ok (zipD3 xs ys zs) s3 | _, _, _ => .stuck) P = _
  cases s3.walkS x with
  | none => rfl
  | some xs =>
    show _ = wSome (s3.walkS y) s3 fun ys s => wSome (s.walkS z) s fun zs s => P (zipD3 xs ys zs) s
    cases s3.walkS y with
    | none => rfl
    | some ys =>
      show _ = wSome (s3.walkS z) s3 fun zs s => P (zipD3 xs ys zs) s
      cases s3.walkS z <;> rfl
theorem k_y1 {b e : ME} {x : D} : kY1 c τ b e P x s = (evE c b τ s).W (kY2 c τ e x P) := rfl
theorem k_y2 {e : ME} {x y : D} : kY2 c τ e x P y s = (evE c e τ s).W (kY3 x y P) := rfl
theorem k_y3 {x y z : D} : kY3 x y P z s = wSome (s.walkS x) s (kY4 y z P) := rfl
theorem k_y4 {y z : D} {xs : List D} : kY4 y z P xs s = wSome (s.walkS y) s (kY5 xs z P) := rfl
theorem k_y5 {xs ys : List D} {z : D} : kY5 xs z P ys s = wSome (s.walkS z) s (kY6 xs ys P) := rfl
theorem k_y6 {xs ys zs : List D} : kY6 xs ys P zs s = P (zipD3 xs ys zs) s := rfl
theorem i_enu {e : ME} : (evI c (.enu e) τ s).W P = (evE c e τ s).W (kEnu P) := by
  rw [evI, W_bind]; congr 1; funext d s1
  show Res.W (match s1.walkS d with | some ds => .ok (enumD 0 ds) s1 | none => .stuck) P = wSome (s1.walkS d) s1 _
  cases s1.walkS d <;> rfl
theorem k_enu {d : D} : kEnu P d s = wSome (s.walkS d) s (kEnu2 P) := rfl
theorem k_enu2 {ds : List D} : kEnu2 P ds s = P (enumD 0 ds) s := rfl
-- targets
theorem g_nm {i : Nat} {d : D} : (evG c (.nm i) d τ s).W N = N (τ.set i (some d)) s := by rw [evG]; rfl
theorem g_tp {gs : MGs} {ds : List D} : (evG c (.tp gs) (.tup ds) τ s).W N = (evGs c gs ds τ s).W N := by rw [evG]
theorem gs_nil : (evGs c .nil [] τ s).W N = N τ s := by rw [evGs]; rfl
theorem gs_cons {g : MG} {r : MGs} {d : D} {ds : List D} : (evGs c (.cons g r) (d :: ds) τ s).W N = (evG c g d τ s).W (kGs c r ds N) := by
  rw [evGs]
  cases evG c g d τ s <;> rfl
theorem k_gs {r : MGs} {ds : List D} : kGs c r ds N τ s = (evGs c r ds τ s).W N := rfl
theorem g_sub {a b : ME} {d : D} : (evG c (.sub a b) d τ s).W N = (evE c a τ s).W (kSub1 c τ b d N) := by
  rw [evG]
  cases evE c a τ s with
  | ok x s1 =>
    show Res.W (match evE c b τ s1 with | .ok y s2 => (match setIx x y d s2 with | some s3 => .ok τ s3 | none => .stuck) | _ => .stuck) N = (evE c b τ s1).W fun y s => wSome (setIx x y d s) s fun t _ => N τ t
    cases evE c b τ s1 with
    | ok y s2 =>
      show Res.W (match setIx x y d s2 with | some s3 => .ok τ s3 | none => .stuck) N = wSome (setIx x y d s2) s2 fun t _ => N τ t
      cases setIx x y d s2 <;> rfl
    | _ => rfl
  | _ => rfl
theorem k_sub1 {b : ME} {d x : D} : kSub1 c τ b d N x s = (evE c b τ s).W (kSub2 τ x d N) := rfl
theorem k_sub2 {x y d : D} : kSub2 τ x d N y s = wSome (setIx x y d s) s (kSub3 τ N) := rfl
theorem k_sub3 {t : S} : kSub3 τ N t s = N τ t := rfl
end
end Mi
set_option Elab.async false
set_option linter.all false
set_option maxRecDepth 100000
set_option maxHeartbeats 400000
/-! W3: bundles of rules, operations on values, loops, calls. -/
namespace Mi
open PySem PySem.W
open Mi.En (enc)
section
variable {c : Cc} {τ : Tau} {s : S} {Q : VQ} {N K B : TQ} {R : VQ} {P : List D → S → Prop}
def wSlot (o : Option (Option D)) (s : S) (Q : VQ) : Prop := match o with
  | some (some d) => Q d s
  | _ => False
theorem e_slot {i : Nat} : (evE c (.slot i) τ s).W Q = wSlot τ[i]? s Q := by
  rw [evE]
  cases τ[i]? with
  | none => rfl
  | some o => cases o <;> rfl
theorem w_slot {d : D} : wSlot (some (some d)) s Q = Q d s := rfl
def wAug (c : Cc) (x : Option (Option D)) (i : Nat) (o : Bo) (e : ME) (τ : Tau) (s : S) (N : TQ) : Prop := match x with
  | some (some (.int n)) => (evE c e τ s).W (kAug τ o n i N)
  | _ => False
theorem s_aug {i : Nat} {o : Bo} {e : ME} : (evS c (.aug i o e) τ s).W N R K B = wAug c τ[i]? i o e τ s N := by
  cases h : τ[i]? with
  | none => rw [evS, h]; rfl
  | some x => cases x with
    | none => rw [evS, h]; rfl
    | some d => cases d with
      | int n => exact aug_at h
      | _ => rw [evS, h]; rfl
theorem w_aug {i : Nat} {o : Bo} {e : ME} {n : Int} : wAug c (some (some (.int n))) i o e τ s N = (evE c e τ s).W (kAug τ o n i N) := rfl
def wGf (x : Option (Option D)) (i : Nat) (τ : Tau) (s : S) (N : TQ) : Prop := match x with
  | some (some d) => (evFrz d s).W (kGf τ i N)
  | _ => False
theorem s_gf {i : Nat} : (evS c (.gfrz i) τ s).W N R K B = wGf τ[i]? i τ s N := by
  cases h : τ[i]? with
  | none => rw [evS, h]; rfl
  | some x => cases x with
    | none => rw [evS, h]; rfl
    | some d => exact gf_at h
theorem w_gf {i : Nat} {d : D} : wGf (some (some d)) i τ s N = (evFrz d s).W (kGf τ i N) := rfl
def wLc (tab : Nat → Option Fd) (wf n : Nat) (x : Option (Option D)) (es : MEs) (τ : Tau) (s : S) (Q : VQ) : Prop := match x with
  | some (some (.fn f)) => (tab f).isSome = true ∧ (evEs (cc tab wf n) es τ s).W (kCall (cc tab wf n) f Q)
  | _ => False
theorem e_lcall {tab : Nat → Option Fd} {wf n i : Nat} {es : MEs} : (evE (cc tab wf n) (.lcall i es) τ s).W Q = wLc tab wf n τ[i]? es τ s Q := by
  cases h : τ[i]? with
  | none => rw [evE, h]; rfl
  | some x => cases x with
    | none => rw [evE, h]; rfl
    | some d => cases d with
      | fn f => exact lcall_at h
      | _ => rw [evE, h]; rfl
theorem w_lcall {tab : Nat → Option Fd} {wf n f : Nat} {es : MEs} : wLc tab wf n (some (some (.fn f))) es τ s Q = ((tab f).isSome = true ∧ (evEs (cc tab wf n) es τ s).W (kCall (cc tab wf n) f Q)) := rfl
theorem wipe_nil : wipeT τ [] = τ := rfl
theorem wipe_cons {v : Nat} {vs : List Nat} : wipeT τ (v :: vs) = (wipeT τ vs).set v none := rfl
theorem start_eq {n : Nat} {as : List D} : startT n as = as.map some ++ List.replicate (n - as.length) none := rfl
end
/-- statements, values, sources, targets -/
theorem wS :
    (∀ {c τ s N R K B}, (evSs c .nil τ s).W N R K B = N τ s) ∧
    (∀ {c τ s N R K B a r}, (evSs c (.cons a r) τ s).W N R K B = (evS c a τ s).W (kSs c r N R K B) R K B) ∧
    (∀ {c τ s N R K B r}, kSs c r N R K B τ s = (evSs c r τ s).W N R K B) ∧
    (∀ {c τ s N R K B i e}, (evS c (.set i e) τ s).W N R K B = (evE c e τ s).W (kSet τ i N)) ∧
    (∀ {τ : Tau} {s : S} {N : TQ} {i : Nat} {d : D}, kSet τ i N d s = N (τ.set i (some d)) s) ∧
    (∀ {c τ s N R K B g e}, (evS c (.asg g e) τ s).W N R K B = (evE c e τ s).W (kAsg c τ g N)) ∧
    (∀ {c τ s N g d}, kAsg c τ g N d s = (evG c g d τ s).W N) ∧
    (∀ {c τ s N R K B i j a b}, (evS c (.par2 i j a b) τ s).W N R K B = (evE c a τ s).W (kP2a c τ i j b N)) ∧
    (∀ {c τ s N i j b x}, kP2a c τ i j b N x s = (evE c b τ s).W (kP2b τ i j x N)) ∧
    (∀ {τ : Tau} {s : S} {N : TQ} {i j : Nat} {x y : D}, kP2b τ i j x N y s = N ((τ.set i (some x)).set j (some y)) s) ∧
    (∀ {c τ s N R K B i j k a b e}, (evS c (.par3 i j k a b e) τ s).W N R K B = (evE c a τ s).W (kP3a c τ i j k b e N)) ∧
    (∀ {c τ s N i j k b e x}, kP3a c τ i j k b e N x s = (evE c b τ s).W (kP3b c τ i j k e x N)) ∧
    (∀ {c τ s N i j k e x y}, kP3b c τ i j k e x N y s = (evE c e τ s).W (kP3c τ i j k x y N)) ∧
    (∀ {τ : Tau} {s : S} {N : TQ} {i j k : Nat} {x y z : D}, kP3c τ i j k x y N z s = N (((τ.set i (some x)).set j (some y)).set k (some z)) s) ∧
    (∀ {c τ s N R K B i o e}, (evS c (.aug i o e) τ s).W N R K B = wAug c τ[i]? i o e τ s N) ∧
    (∀ {c τ s N i o e n}, wAug c (some (some (.int n))) i o e τ s N = (evE c e τ s).W (kAug τ o n i N)) ∧
    (∀ {τ : Tau} {s : S} {N : TQ} {i : Nat} {n m : Int}, kAug τ .add n i N (.int m) s = N (τ.set i (some (.int (n + m)))) s) ∧
    (∀ {τ : Tau} {s : S} {N : TQ} {i : Nat} {n m : Int}, kAug τ .sub n i N (.int m) s = N (τ.set i (some (.int (n - m)))) s) ∧
    (∀ {c τ s N R K B a i o e}, (evS c (.augS a i o e) τ s).W N R K B = (evE c a τ s).W (kAS1 c τ i o e N)) ∧
    (∀ {c τ s N i o e x}, kAS1 c τ i o e N x s = (evE c i τ s).W (kAS2 c τ x o e N)) ∧
    (∀ {c τ s N o e x y}, kAS2 c τ x o e N y s = wAS c τ (augGet x y s) o x y e N s) ∧
    (∀ {c τ s N o e x y n}, wAS c τ (some n) o x y e N s = (evE c e τ s).W (kAS3 τ o x y n N)) ∧
    (∀ {τ : Tau} {s : S} {N : TQ} {x y : D} {n m : Int}, kAS3 τ .add x y n N (.int m) s = wSome (setIx x y (.int (n + m)) s) s fun s1 _ => N τ s1) ∧
    (∀ {τ : Tau} {s : S} {N : TQ} {x y : D} {n m : Int}, kAS3 τ .sub x y n N (.int m) s = wSome (setIx x y (.int (n - m)) s) s fun s1 _ => N τ s1) ∧
    (∀ {c τ s N R K B e}, (evS c (.ex e) τ s).W N R K B = (evE c e τ s).W (kEx τ N)) ∧
    (∀ {τ : Tau} {s : S} {N : TQ} {d : D}, kEx τ N d s = N τ s) ∧
    (∀ {c τ s N R K B e}, (evS c (.ret e) τ s).W N R K B = (evE c e τ s).W R) ∧
    (∀ {c τ s N R K B t a b}, (evS c (.ifs t a b) τ s).W N R K B = (evE c t τ s).W (kIf c τ a b N R K B)) ∧
    (∀ {c τ s N R K B a b p}, kIf c τ a b N R K B (.bl p) s = brS c τ p a b s N R K B) ∧
    (∀ {c τ s N R K B a b}, brS c τ true a b s N R K B = (evSs c a τ s).W N R K B) ∧
    (∀ {c τ s N R K B a b}, brS c τ false a b s N R K B = (evSs c b τ s).W N R K B) ∧
    (∀ {c τ s N R K B g i b}, (evS c (.fors g i b) τ s).W N R K B = (evI c i τ s).W (kFor c τ g b N R)) ∧
    (∀ {c τ s N R g b ds}, kFor c τ g b N R ds s = (loopF (evG c g) (evSs c b) ds τ s).W N R noT noT) ∧
    (∀ {c τ s N R K B t b}, (evS c (.whl t b) τ s).W N R K B = wWhl c τ t b s N R) ∧
    (∀ {c τ s N R K B}, (evS c .brk τ s).W N R K B = B τ s) ∧
    (∀ {c τ s N R K B}, (evS c .cnt τ s).W N R K B = K τ s) ∧
    (∀ {c τ s N R K B}, (evS c .pas τ s).W N R K B = N τ s) ∧
    (∀ {c τ s N R K B i}, (evS c (.gfrz i) τ s).W N R K B = wGf τ[i]? i τ s N) ∧
    (∀ {τ : Tau} {s : S} {N : TQ} {i : Nat} {d : D}, wGf (some (some d)) i τ s N = (evFrz d s).W (kGf τ i N)) ∧
    (∀ {τ : Tau} {s : S} {N : TQ} {i : Nat} {d : D}, kGf τ i N d s = N (τ.set i (some d)) s) :=
  ⟨s_nil, s_cons, k_ss, s_set, k_set, s_asg, k_asg, s_par2, k_p2a, k_p2b, s_par3, k_p3a, k_p3b, k_p3c, s_aug, w_aug, k_aug1, k_aug2, s_augS, k_as1, k_as2, w_as, k_as3, k_as4, s_ex, k_ex, s_ret, s_ifs, k_if, br_st, br_sf, s_fors, k_for, s_whl, s_brk, s_cnt, s_pas, s_gf, w_gf, k_gf⟩
theorem wE :
    (∀ {α : Type} {a : α} {s : S} {Q : α → S → Prop}, (Res.ok a s).W Q = Q a s) ∧
    (∀ {c τ s Q i}, (evE c (.slot i) τ s).W Q = wSlot τ[i]? s Q) ∧
    (∀ {s : S} {Q : VQ} {d : D}, wSlot (some (some d)) s Q = Q d s) ∧
    (∀ {c τ s Q d}, (evE c (.cst d) τ s).W Q = Q d s) ∧
    (∀ {c τ s Q e}, (evE c (.frz e) τ s).W Q = (evE c e τ s).W (kFrz Q)) ∧
    (∀ {s : S} {Q : VQ} {d : D}, kFrz Q d s = (evFrz d s).W Q) ∧
    (∀ {c τ s Q o a b}, (evE c (.bin o a b) τ s).W Q = (evE c a τ s).W (kBin1 c τ o b Q)) ∧
    (∀ {c τ s Q o b x}, kBin1 c τ o b Q x s = (evE c b τ s).W (kBin2 o x Q)) ∧
    (∀ {s : S} {Q : VQ} {o : Bo} {x y : D}, kBin2 o x Q y s = (evBin o x y s).W Q) ∧
    (∀ {c τ s Q o a b}, (evE c (.binc o a b) τ s).W Q = (evE c a τ s).W (kBinc1 c τ o b Q)) ∧
    (∀ {c τ s Q o b x}, kBinc1 c τ o b Q x s = (evE c b τ s).W (kBinc2 o x Q)) ∧
    (∀ {s : S} {Q : VQ} {o : Bo} {x y : D}, kBinc2 o x Q y s = (evBinC o x y s).W Q) ∧
    (∀ {c τ s Q o a b}, (evE c (.cmp o a b) τ s).W Q = (evE c a τ s).W (kCmp1 c τ o b Q)) ∧
    (∀ {c τ s Q o b x}, kCmp1 c τ o b Q x s = (evE c b τ s).W (kCmp2 o x Q)) ∧
    (∀ {s : S} {Q : VQ} {o : Co} {x y : D}, kCmp2 o x Q y s = (evCmp o x y s).W Q) ∧
    (∀ {c τ s Q o p a b e}, (evE c (.chain o p a b e) τ s).W Q = (evE c a τ s).W (kCh1 c τ o p b e Q)) ∧
    (∀ {c τ s Q o p b e x}, kCh1 c τ o p b e Q x s = (evE c b τ s).W (kCh2 c τ o p e x Q)) ∧
    (∀ {c τ s Q o p e x y}, kCh2 c τ o p e x Q y s = (evCmp o x y s).W (kCh3 c τ p e y Q)) ∧
    (∀ {c τ s Q p e y q}, kCh3 c τ p e y Q (.bl q) s = brCh c τ q p e y s Q) ∧
    (∀ {c τ s Q p e y}, brCh c τ true p e y s Q = (evE c e τ s).W (kCmp2 p y Q)) ∧
    (∀ {c τ s Q p e y}, brCh c τ false p e y s Q = Q (.bl false) s) ∧
    (∀ {c τ s Q a}, (evE c (.neg a) τ s).W Q = (evE c a τ s).W (kNeg Q)) ∧
    (∀ {s : S} {Q : VQ} {i : Int}, kNeg Q (.int i) s = Q (.int (-i)) s) ∧
    (∀ {c τ s Q a}, (evE c (.no a) τ s).W Q = (evE c a τ s).W (kNo Q)) ∧
    (∀ {s : S} {Q : VQ} {b : Bool}, kNo Q (.bl b) s = Q (.bl (!b)) s) ∧
    (∀ {c τ s Q a b}, (evE c (.and a b) τ s).W Q = (evE c a τ s).W (kAnd c τ b Q)) ∧
    (∀ {c τ s Q b p}, kAnd c τ b Q (.bl p) s = brAnd c τ p b s Q) ∧
    (∀ {c τ s Q b}, brAnd c τ true b s Q = (evE c b τ s).W (kBl Q)) ∧
    (∀ {c τ s Q b}, brAnd c τ false b s Q = Q (.bl false) s) ∧
    (∀ {s : S} {Q : VQ} {p : Bool}, kBl Q (.bl p) s = Q (.bl p) s) ∧
    (∀ {c τ s Q a b}, (evE c (.or a b) τ s).W Q = (evE c a τ s).W (kOr c τ b Q)) ∧
    (∀ {c τ s Q b p}, kOr c τ b Q (.bl p) s = brOr c τ p b s Q) ∧
    (∀ {c τ s Q b}, brOr c τ true b s Q = Q (.bl true) s) ∧
    (∀ {c τ s Q b}, brOr c τ false b s Q = (evE c b τ s).W (kBl Q)) ∧
    (∀ {c τ s Q t a b}, (evE c (.ife t a b) τ s).W Q = (evE c t τ s).W (kIfe c τ a b Q)) ∧
    (∀ {c τ s Q a b p}, kIfe c τ a b Q (.bl p) s = brE c τ p a b s Q) ∧
    (∀ {c τ s Q a b}, brE c τ true a b s Q = (evE c a τ s).W Q) ∧
    (∀ {c τ s Q a b}, brE c τ false a b s Q = (evE c b τ s).W Q) ∧
    (∀ {c τ s Q es}, (evE c (.tup es) τ s).W Q = (evEs c es τ s).W (kTup Q)) ∧
    (∀ {s : S} {Q : VQ} {ds : List D}, kTup Q ds s = (ds.length ≤ 16777216 ∧ Q (.tup ds) s)) ∧
    (∀ {c τ s Q es}, (evE c (.lst es) τ s).W Q = (evEs c es τ s).W (kLst Q)) ∧
    (∀ {s : S} {Q : VQ} {ds : List D}, kLst Q ds s = (ds.length ≤ 16777216 ∧ Q (.lst ds) s)) ∧
    (∀ {c τ s Q es}, (evE c (.cell es) τ s).W Q = (evEs c es τ s).W (kCell Q)) ∧
    (∀ {s : S} {Q : VQ} {ds : List D}, kCell Q ds s = (ds.length ≤ 16777216 ∧ Q (.ref s.nx) (s.add (.lst false ds)))) ∧
    (∀ {c τ s Q}, (evE c .dic0 τ s).W Q = Q (.ref s.nx) (s.add (.dic false [] []))) ∧
    (∀ {c τ s Q a b}, (evE c (.ix a b) τ s).W Q = (evE c a τ s).W (kIx1 c τ b Q)) ∧
    (∀ {c τ s Q b x}, kIx1 c τ b Q x s = (evE c b τ s).W (kIx2 x Q)) ∧
    (∀ {s : S} {Q : VQ} {x y : D}, kIx2 x Q y s = (evIx x y s).W Q) ∧
    (∀ {c τ s Q a lo hi}, (evE c (.sl a lo hi) τ s).W Q = (evE c a τ s).W (kSl1 c τ lo hi Q)) ∧
    (∀ {c τ s Q lo hi x}, kSl1 c τ lo hi Q x s = (evO c lo τ s).W (kSl2 c τ hi x Q)) ∧
    (∀ {c τ s Q hi x l}, kSl2 c τ hi x Q l s = (evO c hi τ s).W (kSl3 x l Q)) ∧
    (∀ {s : S} {Q : VQ} {x : D} {l h : Option Int}, kSl3 x l Q h s = (evSl x l h s).W Q) ∧
    (∀ {c τ s Q a}, (evE c (.rev a) τ s).W Q = (evE c a τ s).W (kRev Q)) ∧
    (∀ {s : S} {Q : VQ} {d : D}, kRev Q d s = (evRev d s).W Q) :=
  ⟨w_ok, e_slot, w_slot, e_cst, e_frz, k_frz, e_bin, k_bin1, k_bin2, e_binc, k_binc1, k_binc2, e_cmp, k_cmp1, k_cmp2, e_chain, k_ch1, k_ch2, k_ch3, br_cht, br_chf, e_neg, k_neg, e_no, k_no, e_and, k_and, br_andt, br_andf, k_bl, e_or, k_or, br_ort, br_orf, e_ife, k_ife, br_et, br_ef, e_tup, k_tup, e_lst, k_lst, e_cell, k_cell, e_dic0, e_ix, k_ix1, k_ix2, e_sl, k_sl1, k_sl2, k_sl3, e_rev, k_rev⟩
theorem wC :
    (∀ {c τ s Q a ts}, (evE c (.isi a ts) τ s).W Q = (evE c a τ s).W (kIsi ts Q)) ∧
    (∀ {s : S} {Q : VQ} {ts : List Ty} {x : D}, kIsi ts Q x s = wIsi (s.tyOf x) ts s Q) ∧
    (∀ {s : S} {Q : VQ} {ts : List Ty} {t : Ty}, wIsi (some t) ts s Q = Q (.bl (ts.any fun u => t.isa u)) s) ∧
    (∀ {c τ s Q f es}, (evE c (.call f es) τ s).W Q = (evEs c es τ s).W (kCall c f Q)) ∧
    (∀ {s : S} {Q : VQ} {f : Nat} {ds : List D} {tab : Nat → Option Fd} {wf n : Nat}, kCall (cc tab wf n) f Q ds s = (callN tab wf n f ds s).W Q) ∧
    (∀ {c τ s Q f es perm}, (evE c (.callK f es perm) τ s).W Q = (evEs c es τ s).W (kCallK c (lenMEs es) f perm Q)) ∧
    (∀ {s : S} {Q : VQ} {f : Nat} {as : List D} {tab : Nat → Option Fd} {wf n : Nat}, wPerm (cc tab wf n) f (some as) s Q = (callN tab wf n f as s).W Q) ∧
    (∀ {tab : Nat → Option Fd} {wf n i : Nat} {es : MEs} {τ s Q}, (evE (cc tab wf n) (.lcall i es) τ s).W Q = wLc tab wf n τ[i]? es τ s Q) ∧
    (∀ {tab : Nat → Option Fd} {wf n f : Nat} {es : MEs} {τ s Q}, wLc tab wf n (some (some (.fn f))) es τ s Q = ((tab f).isSome = true ∧ (evEs (cc tab wf n) es τ s).W (kCall (cc tab wf n) f Q))) ∧
    (∀ {c τ s Q b es}, (evE c (.bi b es) τ s).W Q = (evEs c es τ s).W (kBi b Q)) ∧
    (∀ {s : S} {Q : VQ} {b : Bi} {ds : List D}, kBi b Q ds s = (evBi b ds s).W Q) ∧
    (∀ {c τ s Q a b}, (evE c (.dget a b) τ s).W Q = (evE c a τ s).W (kDg1 c τ b Q)) ∧
    (∀ {c τ s Q b x}, kDg1 c τ b Q x s = ((dicOf x s).isSome = true ∧ (evE c b τ s).W (kDg2 x Q))) ∧
    (∀ {s : S} {Q : VQ} {x y : D}, kDg2 x Q y s = (evDget x y s).W Q) ∧
    (∀ {c τ s Q m a es}, (evE c (.mt m a es) τ s).W Q = (evE c a τ s).W (kMt1 c τ m es Q)) ∧
    (∀ {c τ s Q m es x}, kMt1 c τ m es Q x s = ((s.items x).isSome = true ∧ (evEs c es τ s).W (kMt2 m x Q))) ∧
    (∀ {s : S} {Q : VQ} {m : Mt} {x : D} {ds : List D}, kMt2 m x Q ds s = (evMt m x ds s).W Q) ∧
    (∀ {c τ s Q mu g i t e own}, (evE c (.comp mu g i t e own) τ s).W Q = (evI c i τ s).W (kComp c τ mu g t e own Q)) ∧
    (∀ {c τ s Q mu g t e own ds}, kComp c τ mu g t e own Q ds s = (ds.length ≤ 16777216 ∧ (loopC (tnC c g t e (wipeT τ own)) ds s).W (kCompEnd mu Q))) ∧
    (∀ {s : S} {Q : VQ} {r : List D}, kCompEnd true Q r s = Q (.ref s.nx) (s.add (.lst false r))) ∧
    (∀ {s : S} {Q : VQ} {r : List D}, kCompEnd false Q r s = Q (.lst r) s) ∧
    (∀ {c τ s Q mu g i t k v own}, (evE c (.dcomp mu g i t k v own) τ s).W Q = (evI c i τ s).W (kDcomp c τ mu g t k v own Q)) ∧
    (∀ {c τ s Q mu g t k v own ds}, kDcomp c τ mu g t k v own Q ds s = (ds.length ≤ 16777216 ∧ (loopK (tnD c g t k v (wipeT τ own)) ds [] [] s).W (kDEnd mu Q))) ∧
    (∀ {s : S} {Q : VQ} {r : List D × List D}, kDEnd false Q r s = Q (.dic r.1 r.2) s) ∧
    (∀ {s : S} {Q : VQ} {r : List D × List D}, kDEnd true Q r s = Q (.ref s.nx) (s.add (.dic false r.1 r.2))) ∧
    (∀ {c τ s g t e d} {P : Option D → S → Prop}, (tnC c g t e τ d s).W P = (evG c g d τ s).W (kTC1 c t e P)) ∧
    (∀ {c τ s t e} {P : Option D → S → Prop}, kTC1 c t e P τ s = (evT c t τ s).W (kTC2 c τ e P)) ∧
    (∀ {c τ s e b} {P : Option D → S → Prop}, kTC2 c τ e P b s = brT c τ b e s P) ∧
    (∀ {c τ s e} {P : Option D → S → Prop}, brT c τ true e s P = (evE c e τ s).W (kSome P)) ∧
    (∀ {c τ s e} {P : Option D → S → Prop}, brT c τ false e s P = P none s) ∧
    (∀ {s : S} {d : D} {P : Option D → S → Prop}, kSome P d s = P (some d) s) ∧
    (∀ {c τ s g t k v d} {P : Option (D × D) → S → Prop}, (tnD c g t k v τ d s).W P = (evG c g d τ s).W (kTK1 c t k v P)) ∧
    (∀ {c τ s t k v} {P : Option (D × D) → S → Prop}, kTK1 c t k v P τ s = (evT c t τ s).W (kTK0 c τ k v P)) ∧
    (∀ {c τ s k v b} {P : Option (D × D) → S → Prop}, kTK0 c τ k v P b s = brK c τ b k v s P) ∧
    (∀ {c τ s k v} {P : Option (D × D) → S → Prop}, brK c τ true k v s P = (evE c k τ s).W (kTK2 c τ v P)) ∧
    (∀ {c τ s k v} {P : Option (D × D) → S → Prop}, brK c τ false k v s P = P none s) ∧
    (∀ {c τ s v x} {P : Option (D × D) → S → Prop}, kTK2 c τ v P x s = (evE c v τ s).W (kTK3 x P)) ∧
    (∀ {s : S} {x y : D} {P : Option (D × D) → S → Prop}, kTK3 x P y s = P (some (x, y)) s) ∧
    (∀ {c τ s} {P : List D → S → Prop}, (evEs c .nil τ s).W P = P [] s) ∧
    (∀ {c τ s e r} {P : List D → S → Prop}, (evEs c (.cons e r) τ s).W P = (evE c e τ s).W (kEs c τ r P)) ∧
    (∀ {c τ s d r} {P : List D → S → Prop}, kEs c τ r P d s = (evEs c r τ s).W (kEc d P)) ∧
    (∀ {s : S} {d : D} {ds : List D} {P : List D → S → Prop}, kEc d P ds s = P (d :: ds) s) ∧
    (∀ {c τ s} {P : Option Int → S → Prop}, (evO c .no τ s).W P = P none s) ∧
    (∀ {c τ s e} {P : Option Int → S → Prop}, (evO c (.so e) τ s).W P = (evE c e τ s).W (kO P)) ∧
    (∀ {s : S} {i : Int} {P : Option Int → S → Prop}, kO P (.int i) s = P (some i) s) ∧
    (∀ {c τ s} {P : Bool → S → Prop}, (evT c .no τ s).W P = P true s) ∧
    (∀ {c τ s e} {P : Bool → S → Prop}, (evT c (.so e) τ s).W P = (evE c e τ s).W (kT P)) ∧
    (∀ {s : S} {b : Bool} {P : Bool → S → Prop}, kT P (.bl b) s = P b s) :=
  ⟨e_isi, k_isi, w_isi, e_call, k_call, e_callK, w_perm, e_lcall, w_lcall, e_bi, k_bi, e_dget, k_dg1, k_dg2, e_mt, k_mt1, k_mt2, e_comp, k_comp, k_compT, k_compF, e_dcomp, k_dcomp, k_dend, k_dendT, t_turn, k_tc1, k_tc2, br_tt, br_tf, k_some, t_turnK, k_tk1, k_tk0, br_kt, br_kf, k_tk2, k_tk3, es_nil, es_cons, k_es, k_ec, o_no, o_so, k_o, t_no, t_so, k_t⟩
theorem wI :
    (∀ {α : Type} {a : α} {s : S} {P : α → S → Prop}, wSome (some a) s P = P a s) ∧
    (∀ {c τ s e} {P : List D → S → Prop}, (evI c (.it e) τ s).W P = (evE c e τ s).W (kIt P)) ∧
    (∀ {s : S} {d : D} {P : List D → S → Prop}, kIt P d s = wSome (s.walk d) s P) ∧
    (∀ {c τ s e} {P : List D → S → Prop}, (evI c (.lv e) τ s).W P = (evE c e τ s).W (kLv P)) ∧
    (∀ {s : S} {d : D} {P : List D → S → Prop}, kLv P d s = wSome (s.items d) s P) ∧
    (∀ {c τ s e} {P : List D → S → Prop}, (evI c (.lve e) τ s).W P = (evE c e τ s).W (kLve P)) ∧
    (∀ {s : S} {d : D} {P : List D → S → Prop}, kLve P d s = wSome (s.items d) s (kLve2 P)) ∧
    (∀ {s : S} {ds : List D} {P : List D → S → Prop}, kLve2 P ds s = P (enumD 0 ds) s) ∧
    (∀ {c τ s e} {P : List D → S → Prop}, (evI c (.rng e) τ s).W P = (evE c e τ s).W (kRng P)) ∧
    (∀ {s : S} {j : Int} {P : List D → S → Prop}, kRng P (.int j) s = ((-4611686018427387904 ≤ j ∧ j < 4611686018427387904) ∧ P (rangeD 0 j.toNat) s)) ∧
    (∀ {c τ s a b} {P : List D → S → Prop}, (evI c (.rng2 a b) τ s).W P = (evE c a τ s).W (kRn1 c τ b P)) ∧
    (∀ {c τ s b x} {P : List D → S → Prop}, kRn1 c τ b P x s = (evE c b τ s).W (kRn2 x P)) ∧
    (∀ {s : S} {i j : Int} {P : List D → S → Prop}, kRn2 (.int i) P (.int j) s = (((-4611686018427387904 ≤ i ∧ i < 4611686018427387904) ∧ (-4611686018427387904 ≤ j ∧ j < 4611686018427387904)) ∧ P (rangeD i (j - i).toNat) s)) ∧
    (∀ {c τ s a b} {P : List D → S → Prop}, (evI c (.zip2 a b) τ s).W P = (evE c a τ s).W (kZ1 c τ b P)) ∧
    (∀ {c τ s b x} {P : List D → S → Prop}, kZ1 c τ b P x s = (evE c b τ s).W (kZ2 x P)) ∧
    (∀ {s : S} {x y : D} {P : List D → S → Prop}, kZ2 x P y s = wSome (s.walkS x) s (kZw2 x y P)) ∧
    (∀ {s : S} {x y : D} {xs : List D} {P : List D → S → Prop}, kZw2 x y P xs s = wSome (s.walkS y) s (kZw3 x y xs P)) ∧
    (∀ {s : S} {x y : D} {xs ys : List D} {P : List D → S → Prop}, kZw3 x y xs P ys s = P (zipD xs ys) s) ∧
    (∀ {c τ s a b e} {P : List D → S → Prop}, (evI c (.zip3 a b e) τ s).W P = (evE c a τ s).W (kY1 c τ b e P)) ∧
    (∀ {c τ s b e x} {P : List D → S → Prop}, kY1 c τ b e P x s = (evE c b τ s).W (kY2 c τ e x P)) ∧
    (∀ {c τ s e x y} {P : List D → S → Prop}, kY2 c τ e x P y s = (evE c e τ s).W (kY3 x y P)) ∧
    (∀ {s : S} {x y z : D} {P : List D → S → Prop}, kY3 x y P z s = wSome (s.walkS x) s (kY4 y z P)) ∧
    (∀ {s : S} {y z : D} {xs : List D} {P : List D → S → Prop}, kY4 y z P xs s = wSome (s.walkS y) s (kY5 xs z P)) ∧
    (∀ {s : S} {z : D} {xs ys : List D} {P : List D → S → Prop}, kY5 xs z P ys s = wSome (s.walkS z) s (kY6 xs ys P)) ∧
    (∀ {s : S} {xs ys zs : List D} {P : List D → S → Prop}, kY6 xs ys P zs s = P (zipD3 xs ys zs) s) ∧
    (∀ {c τ s e} {P : List D → S → Prop}, (evI c (.enu e) τ s).W P = (evE c e τ s).W (kEnu P)) ∧
    (∀ {s : S} {d : D} {P : List D → S → Prop}, kEnu P d s = wSome (s.walkS d) s (kEnu2 P)) ∧
    (∀ {s : S} {ds : List D} {P : List D → S → Prop}, kEnu2 P ds s = P (enumD 0 ds) s) ∧
    (∀ {c τ s N i d}, (evG c (.nm i) d τ s).W N = N (τ.set i (some d)) s) ∧
    (∀ {c τ s N gs ds}, (evG c (.tp gs) (.tup ds) τ s).W N = (evGs c gs ds τ s).W N) ∧
    (∀ {c τ s N}, (evGs c .nil [] τ s).W N = N τ s) ∧
    (∀ {c τ s N g r d ds}, (evGs c (.cons g r) (d :: ds) τ s).W N = (evG c g d τ s).W (kGs c r ds N)) ∧
    (∀ {c τ s N r ds}, kGs c r ds N τ s = (evGs c r ds τ s).W N) ∧
    (∀ {c τ s N a b d}, (evG c (.sub a b) d τ s).W N = (evE c a τ s).W (kSub1 c τ b d N)) ∧
    (∀ {c τ s N b d x}, kSub1 c τ b d N x s = (evE c b τ s).W (kSub2 τ x d N)) ∧
    (∀ {τ : Tau} {s : S} {N : TQ} {x y d : D}, kSub2 τ x d N y s = wSome (setIx x y d s) s (kSub3 τ N)) ∧
    (∀ {τ : Tau} {s t : S} {N : TQ}, kSub3 τ N t s = N τ t) ∧
    (∀ {τ : Tau}, wipeT τ [] = τ) ∧
    (∀ {τ : Tau} {v : Nat} {vs : List Nat}, wipeT τ (v :: vs) = (wipeT τ vs).set v none) :=
  ⟨w_some, i_it, k_it, i_lv, k_lv, i_lve, k_lve, k_lve2, i_rng, k_rng, i_rng2, k_rn1, k_rn2, i_zip2, k_z1, k_z2, k_zw2, k_zw3, i_zip3, k_y1, k_y2, k_y3, k_y4, k_y5, k_y6, i_enu, k_enu, k_enu2, g_nm, g_tp, gs_nil, gs_cons, k_gs, g_sub, k_sub1, k_sub2, k_sub3, wipe_nil, wipe_cons⟩
end Mi
set_option Elab.async false
set_option linter.all false
set_option maxRecDepth 100000
set_option maxHeartbeats 400000
/-! W4: operations on values. -/
namespace Mi
open PySem PySem.W
open Mi.En (enc)
section
variable {s : S} {Q : VQ}
/-- is it among them -/
def isin {α : Type} [DecidableEq α] (a : α) (xs : List α) : Bool := decide (a ∈ xs)
theorem isin_iff {α : Type} [DecidableEq α] {a : α} {xs : List α} : (isin a xs = true) = (a ∈ xs) := by simp [isin]
theorem isin_not {α : Type} [DecidableEq α] {a : α} {xs : List α} : (isin a xs = false) = (a ∉ xs) := by simp [isin]
theorem isin_neg {α : Type} [DecidableEq α] {a : α} {xs : List α} : ((!isin a xs) = true) = (a ∉ xs) := by simp [isin]
/-- types whose values lie few deep -/
class Sh (α : Type) [DecidableEq α] [En α] : Prop where
  d : Datum.depth α ≤ 40
class TupE (α : Type) [DecidableEq α] [En α] : Prop where
  t : ∀ a : α, ∃ xs, (enc a : D) = .tup xs
  i : ∀ a : α, isTup (Datum.toD a) = true
instance : Sh Int := ⟨by decide⟩
instance : Sh Bool := ⟨by decide⟩
def itemsC : Option Cl → Option (List D)
  | some (.lst _ ds) => some ds
  | _ => none
theorem items_ref {n : Nat} : s.items (.ref n) = itemsC (s.get n) := by
  show (match s.get n with | some (.lst _ ds) => some ds | _ => none) = _
  cases s.get n with
  | none => rfl
  | some c => cases c <;> rfl
theorem itemsC_lst {b : Bool} {ds : List D} : itemsC (some (.lst b ds)) = some ds := rfl
def walkC : Option Cl → Option (List D)
  | some (.lst true ds) => some ds
  | _ => none
theorem walk_ref {n : Nat} : s.walk (.ref n) = walkC (s.get n) := by
  show (match s.get n with | some (.lst true ds) => some ds | _ => none) = _
  cases s.get n with
  | none => rfl
  | some c => cases c with
    | lst b ds => cases b <;> rfl
    | dic => rfl
theorem walkS_ref {n : Nat} : s.walkS (.ref n) = walkC (s.get n) := by
  show (match s.get n with | some (.lst true ds) => some ds | _ => none) = _
  cases s.get n with
  | none => rfl
  | some c => cases c with
    | lst b ds => cases b <;> rfl
    | dic => rfl
theorem walkC_lst {ds : List D} : walkC (some (.lst true ds)) = some ds := rfl
def tyC : Option Cl → Option Ty
  | some (.lst _ _) => some .lst
  | some (.dic _ _ _) => some .dic
  | none => none
theorem ty_ref {n : Nat} : s.tyOf (.ref n) = tyC (s.get n) := by
  show (match s.get n with | some (.lst _ _) => some Ty.lst | some (.dic _ _ _) => some Ty.dic | none => none) = _
  cases s.get n with
  | none => rfl
  | some c => cases c <;> rfl
theorem tyC_lst {b : Bool} {ds : List D} : tyC (some (.lst b ds)) = some .lst := rfl
theorem tyC_dic {b : Bool} {ks vs : List D} : tyC (some (.dic b ks vs)) = some .dic := rfl
-- freezing
def wFz (o : Option Cl) (n : Nat) (s : S) (Q : VQ) : Prop := match o with
  | some (.lst _ ds) => Q (.lst ds) (s.put n (.lst true ds))
  | some (.dic _ ks vs) => Q (.dic ks vs) (s.put n (.dic true ks vs))
  | none => False
theorem f_ref {n : Nat} : (evFrz (.ref n) s).W Q = wFz (s.get n) n s Q := by
  show Res.W (match s.get n with | some (.lst _ ds) => .ok (.lst ds) (s.put n (.lst true ds)) | some (.dic _ ks vs) => .ok (.dic ks vs) (s.put n (.dic true ks vs)) | none => .stuck) Q = _
  cases s.get n with
  | none => rfl
  | some c => cases c <;> rfl
theorem f_lstc {n : Nat} {b : Bool} {ds : List D} : wFz (some (.lst b ds)) n s Q = Q (.lst ds) (s.put n (.lst true ds)) := rfl
theorem f_dicc {n : Nat} {b : Bool} {ks vs : List D} : wFz (some (.dic b ks vs)) n s Q = Q (.dic ks vs) (s.put n (.dic true ks vs)) := rfl
theorem f_lst {ds : List D} : (evFrz (.lst ds) s).W Q = Q (.lst ds) s := rfl
theorem f_tup {ds : List D} : (evFrz (.tup ds) s).W Q = Q (.tup ds) s := rfl
theorem f_dic {ks vs : List D} : (evFrz (.dic ks vs) s).W Q = Q (.dic ks vs) s := rfl
theorem f_int {i : Int} : (evFrz (.int i) s).W Q = Q (.int i) s := rfl
theorem f_non : (evFrz .non s).W Q = Q .non s := rfl
theorem f_bl {b : Bool} : (evFrz (.bl b) s).W Q = Q (.bl b) s := rfl
-- methods
def wAp (o : Option Cl) (n : Nat) (d : D) (s : S) (Q : VQ) : Prop := match o with
  | some (.lst false ds) => ds.length < 16777216 ∧ Q .non (s.put n (.lst false (ds ++ [d])))
  | _ => False
theorem W_if {α : Type} {p : Prop} [Decidable p] {r : Res α} {Q : α → S → Prop} : (if p then r else .stuck).W Q = (p ∧ r.W Q) := by
  by_cases h : p
  · rw [if_pos h]
    simp only [h, true_and]
  · rw [if_neg h]
    simp only [h, false_and]
    rfl
theorem m_app {n : Nat} {d : D} : (evMt .append (.ref n) [d] s).W Q = wAp (s.get n) n d s Q := by
  show Res.W (match s.get n with | some (.lst false ds) => if ds.length < sizeLine then .ok .non (s.put n (.lst false (ds ++ [d]))) else .stuck | _ => .stuck) Q = _
  cases s.get n with
  | none => rfl
  | some c => cases c with
    | lst b ds =>
      cases b with
      | true => rfl
      | false =>
        show Res.W (if ds.length < sizeLine then .ok .non (s.put n (.lst false (ds ++ [d]))) else .stuck) Q = _
        rw [W_if, PySem.sizeLine_eq]
        rfl
    | dic => rfl
theorem m_appc {n : Nat} {ds : List D} {d : D} : wAp (some (.lst false ds)) n d s Q = (ds.length < 16777216 ∧ Q .non (s.put n (.lst false (ds ++ [d])))) := rfl
def wEx (o : Option Cl) (y : Option (List D)) (n : Nat) (d : D) (s : S) (Q : VQ) : Prop := match o, y with
  | some (.lst false ds), some es => ((ds ++ es).length ≤ 16777216 ∧ notRef n d = true) ∧ Q .non (s.put n (.lst false (ds ++ es)))
  | _, _ => False
theorem m_ext {n : Nat} {y : D} : (evMt .extend (.ref n) [y] s).W Q = wEx (s.get n) (s.items y) n y s Q := by
  show Res.W (match s.get n, s.items y with | some (.lst false ds), some es => if (fits (ds ++ es) && notRef n y) = true then .ok .non (s.put n (.lst false (ds ++ es))) else .stuck | _, _ => .stuck) Q = _
  cases s.get n with
  | none => rfl
  | some c => cases c with
    | lst b ds =>
      cases b with
      | true => rfl
      | false => cases s.items y with
        | none => rfl
        | some es =>
          show Res.W (if (fits (ds ++ es) && notRef n y) = true then .ok .non (s.put n (.lst false (ds ++ es))) else .stuck) Q = (((ds ++ es).length ≤ 16777216 ∧ notRef n y = true) ∧ _)
          rw [W_if, Bool.and_eq_true, fits_le]
          rfl
    | dic => rfl
theorem m_extc {n : Nat} {ds es : List D} {y : D} : wEx (some (.lst false ds)) (some es) n y s Q = (((ds ++ es).length ≤ 16777216 ∧ notRef n y = true) ∧ Q .non (s.put n (.lst false (ds ++ es)))) := rfl
-- arithmetic
variable {i j : Int}
theorem b_add : (evBin .add (.int i) (.int j) s).W Q = Q (.int (i + j)) s := rfl
theorem b_sub : (evBin .sub (.int i) (.int j) s).W Q = Q (.int (i - j)) s := rfl
theorem b_mul : (evBin .mul (.int i) (.int j) s).W Q = (mulOk i j = true ∧ Q (.int (i * j)) s) := W_if
theorem b_fdiv : (evBin .fdiv (.int i) (.int j) s).W Q = ((0 < j ∧ j < 1073741824) ∧ Q (.int (i / j)) s) := W_if
theorem b_mod : (evBin .mod (.int i) (.int j) s).W Q = (0 < j ∧ Q (.int (i % j)) s) := W_if
theorem b_pow : (evBin .pow (.int i) (.int j) s).W Q = (((0 ≤ j ∧ j ≤ 1000) ∧ i.natAbs < 2 ^ 64) ∧ Q (.int (i ^ j.toNat)) s) := W_if
theorem b_mulL {xs : List D} : (evBin .mul (.lst xs) (.int i) s).W Q = (((-(2 ^ 63) ≤ i ∧ i < 2 ^ 63) ∧ xs.length * i.toNat ≤ sizeLine) ∧ Q (.lst (List.replicate i.toNat xs).flatten) s) := W_if
theorem b_mulC {xs : List D} : (evBinC .mul (.lst xs) (.int i) s).W Q = (((-(2 ^ 63) ≤ i ∧ i < 2 ^ 63) ∧ xs.length * i.toNat ≤ sizeLine) ∧ Q (.ref s.nx) (s.add (.lst false (List.replicate i.toNat xs).flatten))) := by
  show Res.W (match (if (-(2 ^ 63) ≤ i ∧ i < 2 ^ 63) ∧ xs.length * i.toNat ≤ sizeLine then Res.ok (D.lst (List.replicate i.toNat xs).flatten) s else Res.stuck) with | .ok (.lst ds) s1 => .ok (.ref s1.nx) (s1.add (.lst false ds)) | _ => .stuck) Q = _
  by_cases h : (-(2 ^ 63) ≤ i ∧ i < 2 ^ 63) ∧ xs.length * i.toNat ≤ sizeLine
  · rw [if_pos h]
    simp only [h, true_and]
    rfl
  · rw [if_neg h]
    simp only [h, false_and]
    rfl
theorem b_tup {xs ys : List D} : (evBin .add (.tup xs) (.tup ys) s).W Q = ((xs ++ ys).length ≤ 16777216 ∧ Q (.tup (xs ++ ys)) s) := W_fits
theorem b_lst {xs ys : List D} : (evBin .add (.lst xs) (.lst ys) s).W Q = ((xs ++ ys).length ≤ 16777216 ∧ Q (.lst (xs ++ ys)) s) := W_fits
-- comparisons
theorem c_eqi : (evCmp .eq (.int i) (.int j) s).W Q = Q (.bl (decide (i = j))) s := by rw [show evCmp .eq (.int i) (.int j) s = _ from eq_en (α := Int) s i j]; rfl
theorem c_nei : (evCmp .ne (.int i) (.int j) s).W Q = Q (.bl (!decide (i = j))) s := by rw [show evCmp .ne (.int i) (.int j) s = _ from ne_en (α := Int) s i j]; rfl
theorem c_lti : (evCmp .lt (.int i) (.int j) s).W Q = Q (.bl (decide (i < j))) s := rfl
theorem c_lei : (evCmp .le (.int i) (.int j) s).W Q = Q (.bl (decide (i ≤ j))) s := rfl
theorem c_gti : (evCmp .gt (.int i) (.int j) s).W Q = Q (.bl (decide (j < i))) s := rfl
theorem c_gei : (evCmp .ge (.int i) (.int j) s).W Q = Q (.bl (decide (j ≤ i))) s := rfl
theorem c_is {d : D} : (evCmp .is d .non s).W Q = Q (.bl (isNon d)) s := rfl
theorem c_isnt {d : D} : (evCmp .isnt d .non s).W Q = Q (.bl (!isNon d)) s := rfl
section
variable {α : Type} [DecidableEq α] [En α] [Sh α] {a b : α} {xs : List α}
theorem c_eq : (evCmp .eq (enc a) (enc b) s).W Q = Q (.bl (decide (a = b))) s := by rw [eq_en s a b (Nat.le_trans (Sh.d (α := α)) (by decide))]; rfl
theorem c_ne : (evCmp .ne (enc a) (enc b) s).W Q = Q (.bl (!decide (a = b))) s := by rw [ne_en s a b (Nat.le_trans (Sh.d (α := α)) (by decide))]; rfl
theorem c_in : (evCmp .isin (enc a) (.lst (xs.map enc)) s).W Q = Q (.bl (isin a xs)) s := by rw [in_en s a xs (Nat.le_trans (Sh.d (α := α)) (by decide))]; rfl
theorem c_notin : (evCmp .notin (enc a) (.lst (xs.map enc)) s).W Q = Q (.bl (!isin a xs)) s := by rw [notin_en s a xs (Nat.le_trans (Sh.d (α := α)) (by decide))]; rfl
theorem c_inT : (evCmp .isin (enc a) (.tup (xs.map enc)) s).W Q = Q (.bl (isin a xs)) s := by rw [in_tup s a xs (Nat.le_trans (Sh.d (α := α)) (by decide))]; rfl
theorem c_notinT : (evCmp .notin (enc a) (.tup (xs.map enc)) s).W Q = Q (.bl (!isin a xs)) s := by rw [notin_tup s a xs (Nat.le_trans (Sh.d (α := α)) (by decide))]; rfl
theorem c_ini {i : Int} {xs : List Int} : (evCmp .isin (.int i) (.lst (xs.map enc)) s).W Q = Q (.bl (isin i xs)) s := c_in (a := i)
theorem c_notini {i : Int} {xs : List Int} : (evCmp .notin (.int i) (.lst (xs.map enc)) s).W Q = Q (.bl (!isin i xs)) s := c_notin (a := i)
theorem c_eqL {ys : List α} : (evCmp .eq (.lst (xs.map enc)) (.lst (ys.map enc)) s).W Q = Q (.bl (decide (xs = ys))) s := by
  rw [show evCmp .eq (.lst (xs.map enc)) (.lst (ys.map enc)) s = _ from eq_en (α := List α) s xs ys (Nat.le_trans (Nat.succ_le_succ (Sh.d (α := α))) (by decide))]; rfl
theorem c_neL {ys : List α} : (evCmp .ne (.lst (xs.map enc)) (.lst (ys.map enc)) s).W Q = Q (.bl (!decide (xs = ys))) s := by
  rw [show evCmp .ne (.lst (xs.map enc)) (.lst (ys.map enc)) s = _ from ne_en (α := List α) s xs ys (Nat.le_trans (Nat.succ_le_succ (Sh.d (α := α))) (by decide))]; rfl
theorem c_eqN : (evCmp .eq (.lst (xs.map enc)) (.lst []) s).W Q = Q (.bl xs.isEmpty) s := by
  show Res.W (match s.eqv (.lst (xs.map enc)) (.lst []) with | some r => .ok (.bl r) s | none => .stuck) Q = _
  rw [nil_en s xs (Nat.le_trans (Sh.d (α := α)) (by decide))]; rfl
theorem c_neN : (evCmp .ne (.lst (xs.map enc)) (.lst []) s).W Q = Q (.bl (!xs.isEmpty)) s := by
  show Res.W (match s.eqv (.lst (xs.map enc)) (.lst []) with | some r => .ok (.bl (!r)) s | none => .stuck) Q = _
  rw [nil_en s xs (Nat.le_trans (Sh.d (α := α)) (by decide))]; rfl
theorem c_lt [TupE α] : (evCmp .lt (enc a) (enc b) s).W Q = Q (.bl (DatumOrd.lt a b)) s := by rw [lt_en s a b (TupE.t a) (TupE.t b) (Nat.le_trans (Sh.d (α := α)) (by decide))]; rfl
theorem v_sorted [TupE α] : (evBi .sorted [.lst (xs.map enc)] s).W Q = Q (.lst ((xs.mergeSort leE).map enc)) s := by rw [sorted_en s xs TupE.i (Nat.le_trans (Sh.d (α := α)) (by decide))]; rfl
theorem v_sortK [TupE α] {vs : List D} : (evBi .sorted [.dic (xs.map enc) vs] s).W Q = Q (.lst ((xs.mergeSort leE).map enc)) s := by rw [sortedK_en s xs vs TupE.i (Nat.le_trans (Sh.d (α := α)) (by decide))]; rfl
end
theorem c_nestr {x : Str} (h : PyData.canLay0 (.str x) = true) : evCmp .ne (.str x) (.str x) s = .ok (.bl false) s := by
  have h1 : s.py (.str x) = some (.str x) := rfl
  have h2 : SeqAt.shaped (.str x) = true := by
    unfold SeqAt.shaped
    rw [h]
    rfl
  simp [evCmp, S.eqv, h1, h2, PyData.eqv]
-- subscripts
def wAt {α : Type} (o : Option α) (f : α → D) (s : S) (Q : VQ) : Prop := match o with
  | some d => Q (f d) s
  | none => False
theorem x_tup {ds : List D} : (evIx (.tup ds) (.int i) s).W Q = wAt (L2.atI ds i) id s Q := by
  show Res.W (match L2.atI ds i with | some d => .ok d s | none => .stuck) Q = _
  cases L2.atI ds i <;> rfl
theorem x_lst {ds : List D} : (evIx (.lst ds) (.int i) s).W Q = wAt (L2.atI ds i) id s Q := by
  show Res.W (match L2.atI ds i with | some d => .ok d s | none => .stuck) Q = _
  cases L2.atI ds i <;> rfl
theorem x_inp {ns : List Int} : (evIx (.inp ns) (.int i) s).W Q = wAt (L2.atI ns i) .int s Q := by
  show Res.W (match L2.atI ns i with | some d => .ok (.int d) s | none => .stuck) Q = _
  cases L2.atI ns i <;> rfl
theorem x_dic {ks vs : List D} {k : D} {q : NestedKey} (h : keyT k = some q) : (evIx (.dic ks vs) k s).W Q = wAt (dget q ks vs) id s Q := by
  show Res.W (match keyT k with | some q => (match dget q ks vs with | some d => .ok d s | none => .stuck) | none => .stuck) Q = _
  rw [h]
  show Res.W (match dget q ks vs with | some d => .ok d s | none => .stuck) Q = _
  cases dget q ks vs <;> rfl
def wIxc (o : Option Cl) (k : D) (s : S) (Q : VQ) : Prop := match o with
  | some (.lst _ ds) => (evIx (.lst ds) k s).W Q
  | some (.dic _ ks vs) => (evIx (.dic ks vs) k s).W Q
  | none => False
theorem x_ref {n : Nat} {k : D} : (evIx (.ref n) k s).W Q = wIxc (s.get n) k s Q := by
  cases h : s.get n with
  | none => cases k <;> simp only [evIx, h] <;> rfl
  | some c => cases c with
    | lst b ds => cases k <;> simp only [evIx, h] <;> rfl
    | dic b ks vs => cases k <;> simp only [evIx, h] <;> rfl
theorem x_reflst {b : Bool} {ds : List D} {k : D} : wIxc (some (.lst b ds)) k s Q = (evIx (.lst ds) k s).W Q := rfl
theorem x_refdic {b : Bool} {ks vs : List D} {k : D} : wIxc (some (.dic b ks vs)) k s Q = (evIx (.dic ks vs) k s).W Q := rfl
theorem w_at {α : Type} {d : α} {f : α → D} : wAt (some d) f s Q = Q (f d) s := rfl
theorem w_atid {d : D} : wAt (some d) id s Q = Q d s := rfl
theorem at_0 {α : Type} {a : α} {ds : List α} : L2.atI (a :: ds) 0 = some a := by
  simp [L2.atI, L2.ixN]
theorem at_nat {α : Type} {ds : List α} {k : Nat} : L2.atI ds (k : Int) = ds[k]? := by
  unfold L2.atI L2.ixN
  rw [if_pos (Int.natCast_nonneg k)]
  by_cases h : k < ds.length
  · rw [if_pos (by omega)]
    rfl
  · rw [if_neg (by omega)]
    simp at h
    simp [h]
theorem at_of {α : Type} {ds : List α} {i : Int} (h : 0 ≤ i) : L2.atI ds i = ds[i.toNat]? := by
  have : i = (i.toNat : Int) := by omega
  rw [this, at_nat]
  rfl
theorem at_1 {α : Type} {a b : α} {ds : List α} : L2.atI (a :: b :: ds) 1 = some b := at_nat (k := 1)
theorem at_2 {α : Type} {a b e : α} {ds : List α} : L2.atI (a :: b :: e :: ds) 2 = some e := at_nat (k := 2)
theorem at_3 {α : Type} {a b e f : α} {ds : List α} : L2.atI (a :: b :: e :: f :: ds) 3 = some f := at_nat (k := 3)
theorem at_4 {α : Type} {a b e f g : α} {ds : List α} : L2.atI (a :: b :: e :: f :: g :: ds) 4 = some g := at_nat (k := 4)
theorem at_5 {α : Type} {a b e f g h : α} {ds : List α} : L2.atI (a :: b :: e :: f :: g :: h :: ds) 5 = some h := at_nat (k := 5)
theorem at_last {α : Type} {ds : List α} {a : α} : L2.atI (ds ++ [a]) (-1) = some a := by
  unfold L2.atI L2.ixN
  rw [if_neg (by decide)]
  rw [if_pos (by simp; omega)]
  have e : (-1 + ((ds ++ [a]).length : Int)).toNat = ds.length := by
    rw [List.length_append]
    simp only [List.length_cons, List.length_nil]
    omega
  show (ds ++ [a])[_]? = _
  first
    | rw [e]; simp
    | (rw [Int.add_comm, e]; simp)
-- built-ins
theorem v_lent {ds : List D} : (evBi .len [.tup ds] s).W Q = Q (.int ds.length) s := rfl
theorem v_lenl {ds : List D} : (evBi .len [.lst ds] s).W Q = Q (.int ds.length) s := rfl
theorem v_leni {ns : List Int} : (evBi .len [.inp ns] s).W Q = Q (.int ns.length) s := rfl
theorem v_abs : (evBi .abs [.int i] s).W Q = Q (.int (if i < 0 then -i else i)) s := rfl
theorem v_int : (evBi .int [.int i] s).W Q = Q (.int i) s := rfl
theorem v_intb {b : Bool} : (evBi .int [.bl b] s).W Q = Q (.int (if b = true then 1 else 0)) s := rfl
theorem v_min2 : (evBi .min2 [.int i, .int j] s).W Q = Q (.int (if j < i then j else i)) s := rfl
theorem v_max2 : (evBi .max2 [.int i, .int j] s).W Q = Q (.int (if i < j then j else i)) s := rfl
theorem v_tuplel {ds : List D} : (evBi .tuple [.lst ds] s).W Q = Q (.tup ds) s := rfl
theorem v_tuplet {ds : List D} : (evBi .tuple [.tup ds] s).W Q = Q (.tup ds) s := rfl
theorem v_listt {ds : List D} : (evBi .list [.tup ds] s).W Q = Q (.lst ds) s := rfl
theorem v_listl {ds : List D} : (evBi .list [.lst ds] s).W Q = Q (.lst ds) s := rfl
theorem v_divmod : (evBi .divmod [.int i, .int j] s).W Q = ((0 < j ∧ j < 1073741824) ∧ Q (.tup [.int (i / j), .int (i % j)]) s) := W_if
def wOpt {α : Type} (o : Option α) (f : α → D) (s : S) (Q : VQ) : Prop := match o with
  | some a => Q (f a) s
  | none => False
theorem allInt_enc (ns : List Int) : allInt (ns.map enc) = some ns := by
  induction ns with
  | nil => rfl
  | cons n ns ih => rw [List.map_cons]; show (allInt (ns.map enc)).map (n :: ·) = _; rw [ih]; rfl
theorem v_minI {n : Int} {ns : List Int} : (evBi .min2 [.lst ((n :: ns).map enc)] s).W Q = Q (.int (ns.foldl min n)) s := by
  show Res.W (match allInt ((n :: ns).map enc) with | some (n :: ns) => .ok (.int (ns.foldl min n)) s | some [] => .stuck | none => _) Q = _
  rw [allInt_enc]
  rfl
theorem v_maxI {n : Int} {ns : List Int} : (evBi .max2 [.lst ((n :: ns).map enc)] s).W Q = Q (.int (ns.foldl max n)) s := by
  show Res.W (match allInt ((n :: ns).map enc) with | some (n :: ns) => .ok (.int (ns.foldl max n)) s | _ => .stuck) Q = _
  rw [allInt_enc]
  rfl
def wBls (o : Option (List Bool)) (f : List Bool → Bool) (s : S) (Q : VQ) : Prop := match o with
  | some bs => Q (.bl (f bs)) s
  | none => False
theorem v_all {d : D} : (evBi .all [d] s).W Q = wBls ((s.items d).bind allBl) (fun bs => bs.all id) s Q := by
  show Res.W (match (s.items d).bind allBl with | some bs => .ok (.bl (bs.all id)) s | none => .stuck) Q = _
  cases (s.items d).bind allBl <;> rfl
theorem v_any {d : D} : (evBi .any [d] s).W Q = wBls ((s.items d).bind allBl) (fun bs => bs.any id) s Q := by
  show Res.W (match (s.items d).bind allBl with | some bs => .ok (.bl (bs.any id)) s | none => .stuck) Q = _
  cases (s.items d).bind allBl <;> rfl
theorem allBl_map {α : Type} (h : α → Bool) : ∀ xs : List α, allBl (xs.map fun x => .bl (h x)) = some (xs.map h)
  | [] => rfl
  | x :: xs => by simp [allBl, allBl_map h xs]
theorem v_allm {α : Type} {xs : List α} {h : α → Bool} : (evBi .all [.lst (xs.map fun x => .bl (h x))] s).W Q = Q (.bl (xs.all h)) s := by
  rw [v_all]
  show wBls (allBl (xs.map fun x => .bl (h x))) _ s Q = _
  rw [allBl_map]
  show Q (.bl ((xs.map h).all id)) s = _
  rw [List.all_map]
  rfl
theorem v_anym {α : Type} {xs : List α} {h : α → Bool} : (evBi .any [.lst (xs.map fun x => .bl (h x))] s).W Q = Q (.bl (xs.any h)) s := by
  rw [v_any]
  show wBls (allBl (xs.map fun x => .bl (h x))) _ s Q = _
  rw [allBl_map]
  show Q (.bl ((xs.map h).any id)) s = _
  rw [List.any_map]
  rfl
theorem i_lst {ds : List D} : s.items (.lst ds) = some ds := rfl
theorem k_tupw {ds : List D} : s.walk (.tup ds) = some ds := rfl
theorem k_lstw {ds : List D} : s.walk (.lst ds) = some ds := rfl
theorem k_dicw {ks vs : List D} : s.walk (.dic ks vs) = some ks := rfl
theorem k_tups {ds : List D} : s.walkS (.tup ds) = some ds := rfl
theorem k_lsts {ds : List D} : s.walkS (.lst ds) = some ds := rfl
theorem y_int : s.tyOf (.int i) = some .int := rfl
theorem y_tup {ds : List D} : s.tyOf (.tup ds) = some .tup := rfl
theorem y_lst {ds : List D} : s.tyOf (.lst ds) = some .lst := rfl
theorem y_dic {ks vs : List D} : s.tyOf (.dic ks vs) = some .dic := rfl
theorem y_non : s.tyOf .non = some .non := rfl
theorem y_bl {b : Bool} : s.tyOf (.bl b) = some .bl := rfl
theorem y_str {x : Str} : s.tyOf (.str x) = some .str := rfl
theorem n_tt {ds es : List D} : (isTupD (.tup ds) = isTupD (.tup es)) = True := by simp [isTupD]
theorem n_ll {ds es : List D} : (isTupD (.lst ds) = isTupD (.lst es)) = True := by simp [isTupD]
theorem n_ref {n : Nat} {ds : List D} : (notRef n (.lst ds) = true) = True := by simp [notRef]
theorem non_non : isNon .non = true := rfl
theorem non_int : isNon (.int i) = false := rfl
theorem non_tup {ds : List D} : isNon (.tup ds) = false := rfl
theorem non_bl {b : Bool} : isNon (.bl b) = false := rfl
theorem non_str {x : Str} : isNon (.str x) = false := rfl
theorem non_lst {ds : List D} : isNon (.lst ds) = false := rfl
def wSl (o : Option (List D)) (lo hi : Option Int) (s : S) (Q : VQ) : Prop := match o with
  | some ds => Q (.lst (cutD ds lo hi)) s
  | none => False
theorem l_tup {ds : List D} {lo hi : Option Int} : (evSl (.tup ds) lo hi s).W Q = Q (.tup (cutD ds lo hi)) s := rfl
theorem l_lst {ds : List D} {lo hi : Option Int} : (evSl (.lst ds) lo hi s).W Q = Q (.lst (cutD ds lo hi)) s := rfl
theorem l_inp {ns : List Int} {lo hi : Option Int} : (evSl (.inp ns) lo hi s).W Q = Q (.lst (cutD (ns.map .int) lo hi)) s := rfl
theorem r_lst {ds : List D} : (evRev (.lst ds) s).W Q = Q (.lst ds.reverse) s := rfl
theorem cut_from0 {ds : List D} : cutD ds (some 0) none = ds := by
  simp [cutD, HT.sIx]
end
theorem get_add2 {s : S} {a b : Cl} : ((s.add a).add b).get s.nx = some a := by
  rw [get_add_ne (by simp)]
  exact get_add
theorem put_add2 {s : S} {a b c : Cl} : ((s.add a).add b).put s.nx c = (s.add c).add b := by
  rw [add_put_ne (by simp), add_put]
theorem get_add3 {s : S} {a b c : Cl} : (((s.add a).add b).add c).get s.nx = some a := by
  rw [get_add_ne (by simp; omega)]
  exact get_add2
theorem put_add3 {s : S} {a b c d : Cl} : (((s.add a).add b).add c).put s.nx d = ((s.add d).add b).add c := by
  rw [add_put_ne (by simp; omega), put_add2]
theorem get_nx1 {s : S} {a b : Cl} : ((s.add a).add b).get (s.nx + 1) = some b := get_add (s := s.add a)
theorem put_nx1 {s : S} {a b c : Cl} : ((s.add a).add b).put (s.nx + 1) c = (s.add a).add c := add_put (s := s.add a)
theorem get_nx12 {s : S} {a b c : Cl} : (((s.add a).add b).add c).get (s.nx + 1) = some b := get_add2 (s := s.add a)
theorem put_nx12 {s : S} {a b c d : Cl} : (((s.add a).add b).add c).put (s.nx + 1) d = ((s.add a).add d).add c := put_add2 (s := s.add a)
theorem len_nil : ((([] : List D).length : Nat) : Int) = 0 := rfl
theorem len_1 {a : D} : (([a].length : Nat) : Int) = 1 := rfl
theorem len_2 {a b : D} : (([a, b].length : Nat) : Int) = 2 := rfl
theorem len_3 {a b c : D} : (([a, b, c].length : Nat) : Int) = 3 := rfl
theorem len_4 {a b c d : D} : (([a, b, c, d].length : Nat) : Int) = 4 := rfl
theorem len_5 {a b c d e : D} : (([a, b, c, d, e].length : Nat) : Int) = 5 := rfl
theorem len_6 {a b c d e f : D} : (([a, b, c, d, e, f].length : Nat) : Int) = 6 := rfl
theorem le_1 {a : D} : ([a].length ≤ 16777216) = True := by simp
theorem le_2 {a b : D} : ([a, b].length ≤ 16777216) = True := by simp
theorem le_3 {a b c : D} : ([a, b, c].length ≤ 16777216) = True := by simp
theorem le_4 {a b c d : D} : ([a, b, c, d].length ≤ 16777216) = True := by simp
theorem le_5 {a b c d e : D} : ([a, b, c, d, e].length ≤ 16777216) = True := by simp
theorem le_6 {a b c d e f : D} : ([a, b, c, d, e, f].length ≤ 16777216) = True := by simp
theorem le_0 : (([] : List D).length ≤ 16777216) = True := by simp
theorem si_some {α : Type} {a : α} : ((some a).isSome = true) = True := by simp
theorem e_int {i : Int} : (enc i : D) = .int i := rfl
theorem e_bl {b : Bool} : (enc b : D) = .bl b := rfl
theorem range_up {n : Nat} {lo : Int} : rangeD lo n = (rangeD lo n) := rfl
/-- operations -/
theorem wV :
    (∀ {α : Type} {a : α} {l : List α}, (a :: l)[0]? = some a) ∧ (∀ {α : Type} {a : α} {l : List α} {i : Nat}, (a :: l)[i + 1]? = l[i]?) ∧
    (∀ {α : Type} {a b : α} {l : List α}, (a :: l).set 0 b = b :: l) ∧ (∀ {α : Type} {a b : α} {l : List α} {i : Nat}, (a :: l).set (i + 1) b = a :: l.set i b) ∧
    (∀ {s : S} {n : Nat}, s.items (.ref n) = itemsC (s.get n)) ∧ (∀ {b : Bool} {ds : List D}, itemsC (some (.lst b ds)) = some ds) ∧
    (∀ {s : S} {n : Nat}, s.walk (.ref n) = walkC (s.get n)) ∧ (∀ {s : S} {n : Nat}, s.walkS (.ref n) = walkC (s.get n)) ∧ (∀ {ds : List D}, walkC (some (.lst true ds)) = some ds) ∧
    (∀ {s : S} {n : Nat}, s.tyOf (.ref n) = tyC (s.get n)) ∧ (∀ {b : Bool} {ds : List D}, tyC (some (.lst b ds)) = some .lst) ∧ (∀ {b : Bool} {ks vs : List D}, tyC (some (.dic b ks vs)) = some .dic) ∧
    (∀ {s Q} {n : Nat}, (evFrz (.ref n) s).W Q = wFz (s.get n) n s Q) ∧ (∀ {s Q} {n : Nat} {b : Bool} {ds : List D}, wFz (some (.lst b ds)) n s Q = Q (.lst ds) (s.put n (.lst true ds))) ∧ (∀ {s Q} {n : Nat} {b : Bool} {ks vs : List D}, wFz (some (.dic b ks vs)) n s Q = Q (.dic ks vs) (s.put n (.dic true ks vs))) ∧
    (∀ {s Q} {ds : List D}, (evFrz (.lst ds) s).W Q = Q (.lst ds) s) ∧ (∀ {s Q} {ds : List D}, (evFrz (.tup ds) s).W Q = Q (.tup ds) s) ∧ (∀ {s Q} {ks vs : List D}, (evFrz (.dic ks vs) s).W Q = Q (.dic ks vs) s) ∧ (∀ {s Q} {i : Int}, (evFrz (.int i) s).W Q = Q (.int i) s) ∧ (∀ {s Q}, (evFrz .non s).W Q = Q .non s) ∧ (∀ {s Q} {b : Bool}, (evFrz (.bl b) s).W Q = Q (.bl b) s) ∧
    (∀ {s Q} {n : Nat} {d : D}, (evMt .append (.ref n) [d] s).W Q = wAp (s.get n) n d s Q) ∧ (∀ {s Q} {n : Nat} {ds : List D} {d : D}, wAp (some (.lst false ds)) n d s Q = (ds.length < 16777216 ∧ Q .non (s.put n (.lst false (ds ++ [d]))))) ∧
    (∀ {s Q} {n : Nat} {y : D}, (evMt .extend (.ref n) [y] s).W Q = wEx (s.get n) (s.items y) n y s Q) ∧ (∀ {s Q} {n : Nat} {ds es : List D} {y : D}, wEx (some (.lst false ds)) (some es) n y s Q = (((ds ++ es).length ≤ 16777216 ∧ notRef n y = true) ∧ Q .non (s.put n (.lst false (ds ++ es))))) ∧
    (∀ {s Q i j}, (evBin .add (.int i) (.int j) s).W Q = Q (.int (i + j)) s) ∧ (∀ {s Q i j}, (evBin .sub (.int i) (.int j) s).W Q = Q (.int (i - j)) s) ∧ (∀ {s Q i j}, (evBin .mul (.int i) (.int j) s).W Q = (mulOk i j = true ∧ Q (.int (i * j)) s)) ∧
    (∀ {s Q i j}, (evBin .fdiv (.int i) (.int j) s).W Q = ((0 < j ∧ j < 1073741824) ∧ Q (.int (i / j)) s)) ∧ (∀ {s Q i j}, (evBin .mod (.int i) (.int j) s).W Q = (0 < j ∧ Q (.int (i % j)) s)) ∧ (∀ {s Q i j}, (evBin .pow (.int i) (.int j) s).W Q = (((0 ≤ j ∧ j ≤ 1000) ∧ i.natAbs < 2 ^ 64) ∧ Q (.int (i ^ j.toNat)) s)) ∧
    (∀ {s Q} {xs ys : List D}, (evBin .add (.tup xs) (.tup ys) s).W Q = ((xs ++ ys).length ≤ 16777216 ∧ Q (.tup (xs ++ ys)) s)) ∧ (∀ {s Q} {xs ys : List D}, (evBin .add (.lst xs) (.lst ys) s).W Q = ((xs ++ ys).length ≤ 16777216 ∧ Q (.lst (xs ++ ys)) s)) ∧
    (∀ {s Q i j}, (evCmp .eq (.int i) (.int j) s).W Q = Q (.bl (decide (i = j))) s) ∧ (∀ {s Q i j}, (evCmp .ne (.int i) (.int j) s).W Q = Q (.bl (!decide (i = j))) s) ∧ (∀ {s Q i j}, (evCmp .lt (.int i) (.int j) s).W Q = Q (.bl (decide (i < j))) s) ∧
    (∀ {s Q i j}, (evCmp .le (.int i) (.int j) s).W Q = Q (.bl (decide (i ≤ j))) s) ∧ (∀ {s Q i j}, (evCmp .gt (.int i) (.int j) s).W Q = Q (.bl (decide (j < i))) s) ∧ (∀ {s Q i j}, (evCmp .ge (.int i) (.int j) s).W Q = Q (.bl (decide (j ≤ i))) s) ∧
    (∀ {s Q d}, (evCmp .is d .non s).W Q = Q (.bl (isNon d)) s) ∧ (∀ {s Q d}, (evCmp .isnt d .non s).W Q = Q (.bl (!isNon d)) s) ∧
    (∀ {s Q} {α : Type} [DecidableEq α] [En α] [Sh α] {a b : α}, (evCmp .eq (enc a) (enc b) s).W Q = Q (.bl (decide (a = b))) s) ∧ (∀ {s Q} {α : Type} [DecidableEq α] [En α] [Sh α] {a b : α}, (evCmp .ne (enc a) (enc b) s).W Q = Q (.bl (!decide (a = b))) s) ∧
    (∀ {s Q} {α : Type} [DecidableEq α] [En α] [Sh α] {a : α} {xs : List α}, (evCmp .isin (enc a) (.lst (xs.map enc)) s).W Q = Q (.bl (isin a xs)) s) ∧ (∀ {s Q} {α : Type} [DecidableEq α] [En α] [Sh α] {a : α} {xs : List α}, (evCmp .notin (enc a) (.lst (xs.map enc)) s).W Q = Q (.bl (!isin a xs)) s) ∧
    (∀ {s Q} {i : Int} {xs : List Int}, (evCmp .isin (.int i) (.lst (xs.map enc)) s).W Q = Q (.bl (isin i xs)) s) ∧ (∀ {s Q} {i : Int} {xs : List Int}, (evCmp .notin (.int i) (.lst (xs.map enc)) s).W Q = Q (.bl (!isin i xs)) s) ∧
    (∀ {s Q} {α : Type} [DecidableEq α] [En α] [Sh α] {xs ys : List α}, (evCmp .eq (.lst (xs.map enc)) (.lst (ys.map enc)) s).W Q = Q (.bl (decide (xs = ys))) s) ∧ (∀ {s Q} {α : Type} [DecidableEq α] [En α] [Sh α] {xs ys : List α}, (evCmp .ne (.lst (xs.map enc)) (.lst (ys.map enc)) s).W Q = Q (.bl (!decide (xs = ys))) s) ∧
    (∀ {s Q} {α : Type} [DecidableEq α] [En α] [Sh α] {xs : List α}, (evCmp .eq (.lst (xs.map enc)) (.lst []) s).W Q = Q (.bl xs.isEmpty) s) ∧ (∀ {s Q} {α : Type} [DecidableEq α] [En α] [Sh α] {xs : List α}, (evCmp .ne (.lst (xs.map enc)) (.lst []) s).W Q = Q (.bl (!xs.isEmpty)) s) ∧
    (∀ {s Q} {α : Type} [DecidableEq α] [En α] [Sh α] [TupE α] {a b : α}, (evCmp .lt (enc a) (enc b) s).W Q = Q (.bl (DatumOrd.lt a b)) s) ∧ (∀ {s Q} {α : Type} [DecidableEq α] [En α] [Sh α] [TupE α] {xs : List α}, (evBi .sorted [.lst (xs.map enc)] s).W Q = Q (.lst ((xs.mergeSort leE).map enc)) s) ∧ (∀ {s Q} {α : Type} [DecidableEq α] [En α] [Sh α] [TupE α] {xs : List α} {vs : List D}, (evBi .sorted [.dic (xs.map enc) vs] s).W Q = Q (.lst ((xs.mergeSort leE).map enc)) s) :=
  ⟨rfl, rfl, rfl, rfl, items_ref, itemsC_lst, walk_ref, walkS_ref, walkC_lst, ty_ref, tyC_lst, tyC_dic, f_ref, f_lstc, f_dicc, f_lst, f_tup, f_dic, f_int, f_non, f_bl, m_app, m_appc, m_ext, m_extc, b_add, b_sub, b_mul, b_fdiv, b_mod, b_pow, b_tup, b_lst, c_eqi, c_nei, c_lti, c_lei, c_gti, c_gei, c_is, c_isnt, c_eq, c_ne, c_in, c_notin, c_ini, c_notini, c_eqL, c_neL, c_eqN, c_neN, c_lt, v_sorted, v_sortK⟩
theorem wX :
    (∀ {s Q i} {ds : List D}, (evIx (.tup ds) (.int i) s).W Q = wAt (L2.atI ds i) id s Q) ∧ (∀ {s Q i} {ds : List D}, (evIx (.lst ds) (.int i) s).W Q = wAt (L2.atI ds i) id s Q) ∧ (∀ {s Q i} {ns : List Int}, (evIx (.inp ns) (.int i) s).W Q = wAt (L2.atI ns i) .int s Q) ∧
    (∀ {s Q} {n : Nat} {k : D}, (evIx (.ref n) k s).W Q = wIxc (s.get n) k s Q) ∧ (∀ {s Q} {b : Bool} {ds : List D} {k : D}, wIxc (some (.lst b ds)) k s Q = (evIx (.lst ds) k s).W Q) ∧ (∀ {s Q} {b : Bool} {ks vs : List D} {k : D}, wIxc (some (.dic b ks vs)) k s Q = (evIx (.dic ks vs) k s).W Q) ∧
    (∀ {s Q} {d : D}, wAt (some d) id s Q = Q d s) ∧ (∀ {s Q} {i : Int}, wAt (some i) .int s Q = Q (.int i) s) ∧
    (∀ {α : Type} {a : α} {ds : List α}, L2.atI (a :: ds) 0 = some a) ∧ (∀ {α : Type} {a b : α} {ds : List α}, L2.atI (a :: b :: ds) 1 = some b) ∧ (∀ {α : Type} {a b e : α} {ds : List α}, L2.atI (a :: b :: e :: ds) 2 = some e) ∧ (∀ {α : Type} {a b e f : α} {ds : List α}, L2.atI (a :: b :: e :: f :: ds) 3 = some f) ∧ (∀ {α : Type} {a b e f g : α} {ds : List α}, L2.atI (a :: b :: e :: f :: g :: ds) 4 = some g) ∧ (∀ {α : Type} {a b e f g h : α} {ds : List α}, L2.atI (a :: b :: e :: f :: g :: h :: ds) 5 = some h) ∧ (∀ {α : Type} {ds : List α} {a : α}, L2.atI (ds ++ [a]) (-1) = some a) ∧
    (∀ {s Q} {ds : List D}, (evBi .len [.tup ds] s).W Q = Q (.int ds.length) s) ∧ (∀ {s Q} {ds : List D}, (evBi .len [.lst ds] s).W Q = Q (.int ds.length) s) ∧ (∀ {s Q} {ns : List Int}, (evBi .len [.inp ns] s).W Q = Q (.int ns.length) s) ∧
    (∀ {s Q i}, (evBi .abs [.int i] s).W Q = Q (.int (if i < 0 then -i else i)) s) ∧ (∀ {s Q i}, (evBi .int [.int i] s).W Q = Q (.int i) s) ∧ (∀ {s Q} {b : Bool}, (evBi .int [.bl b] s).W Q = Q (.int (if b = true then 1 else 0)) s) ∧ (∀ {s Q i j}, (evBi .min2 [.int i, .int j] s).W Q = Q (.int (if j < i then j else i)) s) ∧ (∀ {s Q i j}, (evBi .max2 [.int i, .int j] s).W Q = Q (.int (if i < j then j else i)) s) ∧
    (∀ {s Q} {ds : List D}, (evBi .tuple [.lst ds] s).W Q = Q (.tup ds) s) ∧ (∀ {s Q} {ds : List D}, (evBi .tuple [.tup ds] s).W Q = Q (.tup ds) s) ∧ (∀ {s Q} {ds : List D}, (evBi .list [.tup ds] s).W Q = Q (.lst ds) s) ∧ (∀ {s Q} {ds : List D}, (evBi .list [.lst ds] s).W Q = Q (.lst ds) s) ∧
    (∀ {s Q i j}, (evBi .divmod [.int i, .int j] s).W Q = ((0 < j ∧ j < 1073741824) ∧ Q (.tup [.int (i / j), .int (i % j)]) s)) ∧
    (∀ {s Q} {α : Type} {xs : List α} {h : α → Bool}, (evBi .all [.lst (xs.map fun x => .bl (h x))] s).W Q = Q (.bl (xs.all h)) s) ∧ (∀ {s Q} {α : Type} {xs : List α} {h : α → Bool}, (evBi .any [.lst (xs.map fun x => .bl (h x))] s).W Q = Q (.bl (xs.any h)) s) ∧
    (∀ {s : S} {ds : List D}, s.items (.lst ds) = some ds) ∧ (∀ {s : S} {ds : List D}, s.walk (.tup ds) = some ds) ∧ (∀ {s : S} {ds : List D}, s.walk (.lst ds) = some ds) ∧ (∀ {s : S} {ds : List D}, s.walkS (.tup ds) = some ds) ∧ (∀ {s : S} {ds : List D}, s.walkS (.lst ds) = some ds) ∧
    (∀ {s : S} {i : Int}, s.tyOf (.int i) = some .int) ∧ (∀ {s : S} {ds : List D}, s.tyOf (.tup ds) = some .tup) ∧ (∀ {s : S} {ds : List D}, s.tyOf (.lst ds) = some .lst) ∧ (∀ {s : S} {ks vs : List D}, s.tyOf (.dic ks vs) = some .dic) ∧ (∀ {s : S}, s.tyOf .non = some .non) ∧ (∀ {s : S} {b : Bool}, s.tyOf (.bl b) = some .bl) ∧ (∀ {s : S} {x : Str}, s.tyOf (.str x) = some .str) ∧
    (∀ {ds es : List D}, (isTupD (.tup ds) = isTupD (.tup es)) = True) ∧ (∀ {ds es : List D}, (isTupD (.lst ds) = isTupD (.lst es)) = True) ∧ (∀ {n : Nat} {ds : List D}, (notRef n (.lst ds) = true) = True) ∧
    (isNon .non = true) ∧ (∀ {i : Int}, isNon (.int i) = false) ∧ (∀ {ds : List D}, isNon (.tup ds) = false) ∧ (∀ {b : Bool}, isNon (.bl b) = false) ∧ (∀ {x : Str}, isNon (.str x) = false) ∧ (∀ {ds : List D}, isNon (.lst ds) = false) ∧
    (∀ {s Q} {ds : List D} {lo hi : Option Int}, (evSl (.tup ds) lo hi s).W Q = Q (.tup (cutD ds lo hi)) s) ∧ (∀ {s Q} {ds : List D} {lo hi : Option Int}, (evSl (.lst ds) lo hi s).W Q = Q (.lst (cutD ds lo hi)) s) ∧ (∀ {s Q} {ns : List Int} {lo hi : Option Int}, (evSl (.inp ns) lo hi s).W Q = Q (.lst (cutD (ns.map .int) lo hi)) s) ∧ (∀ {s Q} {ds : List D}, (evRev (.lst ds) s).W Q = Q (.lst ds.reverse) s) :=
  ⟨x_tup, x_lst, x_inp, x_ref, x_reflst, x_refdic, w_atid, rfl, at_0, at_1, at_2, at_3, at_4, at_5, at_last, v_lent, v_lenl, v_leni, v_abs, v_int, v_intb, v_min2, v_max2, v_tuplel, v_tuplet, v_listt, v_listl, v_divmod, v_allm, v_anym, i_lst, k_tupw, k_lstw, k_tups, k_lsts, y_int, y_tup, y_lst, y_dic, y_non, y_bl, y_str, n_tt, n_ll, n_ref, non_non, non_int, non_tup, non_bl, non_str, non_lst, l_tup, l_lst, l_inp, r_lst⟩
theorem wM :
    (∀ {s : S} {c : Cl}, (s.add c).get s.nx = some c) ∧ (∀ {s : S} {a b : Cl}, ((s.add a).add b).get s.nx = some a) ∧ (∀ {s : S} {a b c : Cl}, (((s.add a).add b).add c).get s.nx = some a) ∧ (∀ {s : S} {a b : Cl}, ((s.add a).add b).get (s.nx + 1) = some b) ∧ (∀ {s : S} {a b c : Cl}, (((s.add a).add b).add c).get (s.nx + 1) = some b) ∧
    (∀ {s : S} {c d : Cl}, (s.add d).put s.nx c = s.add c) ∧ (∀ {s : S} {a b c : Cl}, ((s.add a).add b).put s.nx c = (s.add c).add b) ∧ (∀ {s : S} {a b c d : Cl}, (((s.add a).add b).add c).put s.nx d = ((s.add d).add b).add c) ∧ (∀ {s : S} {a b c : Cl}, ((s.add a).add b).put (s.nx + 1) c = (s.add a).add c) ∧ (∀ {s : S} {a b c d : Cl}, (((s.add a).add b).add c).put (s.nx + 1) d = ((s.add a).add d).add c) ∧
    (∀ {s : S} {c : Cl}, (s.add c).nx = s.nx + 1) ∧ (∀ {s : S} {c : Cl} {n : Nat}, (s.put n c).nx = s.nx) ∧
    (((([] : List D).length : Nat) : Int) = 0) ∧ (∀ {a : D}, (([a].length : Nat) : Int) = 1) ∧ (∀ {a b : D}, (([a, b].length : Nat) : Int) = 2) ∧ (∀ {a b c : D}, (([a, b, c].length : Nat) : Int) = 3) ∧ (∀ {a b c d : D}, (([a, b, c, d].length : Nat) : Int) = 4) ∧ (∀ {a b c d e : D}, (([a, b, c, d, e].length : Nat) : Int) = 5) ∧ (∀ {a b c d e f : D}, (([a, b, c, d, e, f].length : Nat) : Int) = 6) ∧
    ((([] : List D).length ≤ 16777216) = True) ∧ (∀ {a : D}, ([a].length ≤ 16777216) = True) ∧ (∀ {a b : D}, ([a, b].length ≤ 16777216) = True) ∧ (∀ {a b c : D}, ([a, b, c].length ≤ 16777216) = True) ∧ (∀ {a b c d : D}, ([a, b, c, d].length ≤ 16777216) = True) ∧ (∀ {a b c d e : D}, ([a, b, c, d, e].length ≤ 16777216) = True) ∧ (∀ {a b c d e f : D}, ([a, b, c, d, e, f].length ≤ 16777216) = True) ∧
    (∀ {α : Type} {a : α}, ((some a).isSome = true) = True) ∧ (∀ {p : Prop}, (True ∧ p) = p) ∧ (∀ {p : Prop}, (p ∧ True) = p) ∧ (∀ {i : Int}, (enc i : D) = .int i) ∧ (∀ {b : Bool}, (enc b : D) = .bl b) ∧ (∀ {α β : Type} {f : α → β} {l : List α}, (l.map f).length = l.length) ∧ (∀ {α : Type} {x : α} {t : S}, isQ x t x t = True) :=
  ⟨get_add, get_add2, get_add3, get_nx1, get_nx12, add_put, put_add2, put_add3, put_nx1, put_nx12, rfl, rfl, len_nil, len_1, len_2, len_3, len_4, len_5, len_6, le_0, le_1, le_2, le_3, le_4, le_5, le_6, si_some, by simp, by simp, rfl, rfl, by simp, isQ_self⟩
/-- types, truth values -/
theorem wY :
    (Ty.isa .non .non = true) ∧ (Ty.isa .non .bl = false) ∧ (Ty.isa .non .int = false) ∧ (Ty.isa .non .str = false) ∧ (Ty.isa .non .tup = false) ∧ (Ty.isa .non .lst = false) ∧ (Ty.isa .non .dic = false) ∧ (Ty.isa .bl .non = false) ∧ (Ty.isa .bl .bl = true) ∧ (Ty.isa .bl .int = true) ∧ (Ty.isa .bl .str = false) ∧ (Ty.isa .bl .tup = false) ∧ (Ty.isa .bl .lst = false) ∧ (Ty.isa .bl .dic = false) ∧ (Ty.isa .int .non = false) ∧ (Ty.isa .int .bl = false) ∧ (Ty.isa .int .int = true) ∧ (Ty.isa .int .str = false) ∧ (Ty.isa .int .tup = false) ∧ (Ty.isa .int .lst = false) ∧ (Ty.isa .int .dic = false) ∧ (Ty.isa .str .non = false) ∧ (Ty.isa .str .bl = false) ∧ (Ty.isa .str .int = false) ∧ (Ty.isa .str .str = true) ∧ (Ty.isa .str .tup = false) ∧ (Ty.isa .str .lst = false) ∧ (Ty.isa .str .dic = false) ∧ (Ty.isa .tup .non = false) ∧ (Ty.isa .tup .bl = false) ∧ (Ty.isa .tup .int = false) ∧ (Ty.isa .tup .str = false) ∧ (Ty.isa .tup .tup = true) ∧ (Ty.isa .tup .lst = false) ∧ (Ty.isa .tup .dic = false) ∧ (Ty.isa .lst .non = false) ∧ (Ty.isa .lst .bl = false) ∧ (Ty.isa .lst .int = false) ∧ (Ty.isa .lst .str = false) ∧ (Ty.isa .lst .tup = false) ∧ (Ty.isa .lst .lst = true) ∧ (Ty.isa .lst .dic = false) ∧ (Ty.isa .dic .non = false) ∧ (Ty.isa .dic .bl = false) ∧ (Ty.isa .dic .int = false) ∧ (Ty.isa .dic .str = false) ∧ (Ty.isa .dic .tup = false) ∧ (Ty.isa .dic .lst = false) ∧ (Ty.isa .dic .dic = true) ∧
    (∀ {α : Type} {p : α → Bool} {a : α} {l : List α}, (a :: l).any p = (p a || l.any p)) ∧ (∀ {α : Type} {p : α → Bool}, ([] : List α).any p = false) ∧ (∀ {b : Bool}, (true || b) = true) ∧ (∀ {b : Bool}, (b || true) = true) ∧ (∀ {b : Bool}, (false || b) = b) ∧ (∀ {b : Bool}, (b || false) = b) ∧ (∀ {b : Bool}, (true && b) = b) ∧ (∀ {b : Bool}, (b && true) = b) ∧ (∀ {b : Bool}, (false && b) = false) ∧ (∀ {b : Bool}, (b && false) = false) ∧ (((0 : Nat) : Int) = 0) ∧ (((1 : Nat) : Int) = 1) ∧ (((2 : Nat) : Int) = 2) ∧ (((3 : Nat) : Int) = 3) ∧ (((4 : Nat) : Int) = 4) ∧ (((5 : Nat) : Int) = 5) ∧ (((6 : Nat) : Int) = 6) ∧ (((7 : Nat) : Int) = 7) ∧ (((8 : Nat) : Int) = 8) ∧ (((9 : Nat) : Int) = 9) ∧ (((10 : Nat) : Int) = 10) ∧ (((11 : Nat) : Int) = 11) ∧ (((12 : Nat) : Int) = 12) ∧ (((0 : Nat) ≤ 16777216) = True) ∧ (((1 : Nat) ≤ 16777216) = True) ∧ (((2 : Nat) ≤ 16777216) = True) ∧ (((3 : Nat) ≤ 16777216) = True) ∧ (((4 : Nat) ≤ 16777216) = True) ∧ (((5 : Nat) ≤ 16777216) = True) ∧ (((6 : Nat) ≤ 16777216) = True) ∧ (((7 : Nat) ≤ 16777216) = True) ∧ (∀ {h : Decidable True}, @decide True h = true) ∧ (∀ {h : Decidable False}, @decide False h = false) ∧ ((!true) = false) ∧ ((!false) = true) ∧ (∀ {b : Bool}, (!!b) = b) :=
  ⟨rfl, rfl, rfl, rfl, rfl, rfl, rfl, rfl, rfl, rfl, rfl, rfl, rfl, rfl, rfl, rfl, rfl, rfl, rfl, rfl, rfl, rfl, rfl, rfl, rfl, rfl, rfl, rfl, rfl, rfl, rfl, rfl, rfl, rfl, rfl, rfl, rfl, rfl, rfl, rfl, rfl, rfl, rfl, rfl, rfl, rfl, rfl, rfl, rfl, by simp, by simp, by simp, by simp, by simp, by simp, by simp, by simp, by simp, by simp, rfl, rfl, rfl, rfl, rfl, rfl, rfl, rfl, rfl, rfl, rfl, rfl, rfl, by simp, by simp, by simp, by simp, by simp, by simp, by simp, by simp, by simp, by simp, by simp, by simp, by simp⟩
/-- branches whose test is known -/
theorem wB :
    (∀ {c τ s N R K B a b}, brS c τ true a b s N R K B = (evSs c a τ s).W N R K B) ∧
    (∀ {c τ s N R K B a b}, brS c τ false a b s N R K B = (evSs c b τ s).W N R K B) ∧
    (∀ {c τ s Q p e y}, brCh c τ true p e y s Q = (evE c e τ s).W (kCmp2 p y Q)) ∧
    (∀ {c τ s Q p e y}, brCh c τ false p e y s Q = Q (.bl false) s) ∧
    (∀ {c τ s Q b}, brAnd c τ true b s Q = (evE c b τ s).W (kBl Q)) ∧
    (∀ {c τ s Q b}, brAnd c τ false b s Q = Q (.bl false) s) ∧
    (∀ {c τ s Q b}, brOr c τ true b s Q = Q (.bl true) s) ∧
    (∀ {c τ s Q b}, brOr c τ false b s Q = (evE c b τ s).W (kBl Q)) ∧
    (∀ {c τ s Q a b}, brE c τ true a b s Q = (evE c a τ s).W Q) ∧
    (∀ {c τ s Q a b}, brE c τ false a b s Q = (evE c b τ s).W Q) ∧
    (∀ {c τ s e} {P : Option D → S → Prop}, brT c τ true e s P = (evE c e τ s).W (kSome P)) ∧
    (∀ {c τ s e} {P : Option D → S → Prop}, brT c τ false e s P = P none s) ∧
    (∀ {c τ s k v} {P : Option (D × D) → S → Prop}, brK c τ true k v s P = (evE c k τ s).W (kTK2 c τ v P)) ∧
    (∀ {c τ s k v} {P : Option (D × D) → S → Prop}, brK c τ false k v s P = P none s) ∧
    (∀ {s : S} {Q : VQ} {d : D}, wSlot (some (some d)) s Q = Q d s) ∧
    (∀ {c τ s N i o e n}, wAug c (some (some (.int n))) i o e τ s N = (evE c e τ s).W (kAug τ o n i N)) ∧
    (∀ {τ : Tau} {s : S} {N : TQ} {i : Nat} {d : D}, wGf (some (some d)) i τ s N = (evFrz d s).W (kGf τ i N)) ∧
    (∀ {tab : Nat → Option Fd} {wf n f : Nat} {es : MEs} {τ s Q}, wLc tab wf n (some (some (.fn f))) es τ s Q = ((tab f).isSome = true ∧ (evEs (cc tab wf n) es τ s).W (kCall (cc tab wf n) f Q))) ∧
    (∀ {s : S} {Q : VQ} {ts : List Ty} {t : Ty}, wIsi (some t) ts s Q = Q (.bl (ts.any fun u => t.isa u)) s) ∧
    (∀ {s : S} {Q : VQ} {f : Nat} {as : List D} {tab : Nat → Option Fd} {wf n : Nat}, wPerm (cc tab wf n) f (some as) s Q = (callN tab wf n f as s).W Q) ∧
    (∀ {α : Type} {a : α} {s : S} {P : α → S → Prop}, wSome (some a) s P = P a s) :=
  ⟨br_st, br_sf, br_cht, br_chf, br_andt, br_andf, br_ort, br_orf, br_et, br_ef, br_tt, br_tf, br_kt, br_kf, w_slot, w_aug, w_gf, w_lcall, w_isi, w_perm, w_some⟩
end Mi
set_option Elab.async false
set_option linter.all false
set_option maxRecDepth 100000
set_option maxHeartbeats 400000
/-! Pl4m: ranges, pairs. -/
namespace Mi
open PySem PySem.W
open Mi.En (enc)
def up (lo : Int) (n : Nat) : List Int := (List.range n).map fun i => lo + (i : Nat)
theorem up_succ (lo : Int) (n : Nat) : up lo (n + 1) = lo :: up (lo + 1) n := by
  unfold up
  rw [List.range_succ_eq_map, List.map_cons, List.map_map]
  congr 1
  · simp
  · apply List.map_congr_left
    intro i _
    simp
    omega
theorem rangeD_up : ∀ (n : Nat) (lo : Int), rangeD lo n = (up lo n).map enc
  | 0, _ => rfl
  | n + 1, lo => by
    rw [up_succ, List.map_cons, rangeD, rangeD_up n (lo + 1)]
    rfl
theorem mem_up {lo i : Int} {n : Nat} : i ∈ up lo n ↔ lo ≤ i ∧ i < lo + n := by
  unfold up
  simp only [List.mem_map, List.mem_range]
  constructor
  · rintro ⟨k, h, rfl⟩
    omega
  · intro h
    exact ⟨(i - lo).toNat, by omega, by omega⟩
@[simp] theorem up_len {lo : Int} {n : Nat} : (up lo n).length = n := by simp [up]
def enumL {α : Type} : Nat → List α → List (Int × α)
  | _, [] => []
  | k, x :: xs => ((k : Int), x) :: enumL (k + 1) xs
theorem enumD_map {α : Type} (f : α → D) : ∀ (xs : List α) (k : Nat), enumD k (xs.map f) = (enumL k xs).map fun p => .tup [.int p.1, f p.2]
  | [], _ => rfl
  | x :: xs, k => by
    rw [List.map_cons, enumD, enumL, List.map_cons, enumD_map f xs (k + 1)]
theorem enumL_len {α : Type} : ∀ (xs : List α) (k : Nat), (enumL k xs).length = xs.length
  | [], _ => rfl
  | x :: xs, k => by simp [enumL, enumL_len xs]
theorem enum_filter {α : Type} (g : α → Bool) : ∀ (xs : List α) (k : Nat), ((enumL k xs).filter fun q => g q.2).map (·.1) = (up (k : Int) xs.length).filter fun i => match xs[(i - (k : Int)).toNat]? with
    | some t => g t
    | none => false
  | [], _ => rfl
  | x :: xs, k => by
    rw [List.length_cons, up_succ, enumL]
    have ih := enum_filter g xs (k + 1)
    have e0 : (((k : Int) - (k : Int)).toNat) = 0 := by omega
    have et : (up ((k : Int) + 1) xs.length).filter (fun i => match (x :: xs)[(i - (k : Int)).toNat]? with
        | some t => g t
        | none => false) = (up ((k : Int) + 1) xs.length).filter (fun i => match xs[(i - ((k + 1 : Nat) : Int)).toNat]? with
        | some t => g t
        | none => false) := by
      apply List.filter_congr
      intro i hi
      have := mem_up.mp hi
      have e : (i - (k : Int)).toNat = (i - ((k + 1 : Nat) : Int)).toNat + 1 := by omega
      rw [e, List.getElem?_cons_succ]
    have e2 : ((k + 1 : Nat) : Int) = (k : Int) + 1 := by omega
    rw [List.filter_cons, List.filter_cons, et]
    rw [e2] at ih et ⊢
    rw [e0]
    simp only [List.getElem?_cons_zero]
    by_cases h : g x = true
    · rw [if_pos h, if_pos h, List.map_cons, ih]
    · rw [if_neg h, if_neg h, ih]
theorem zipD3_en {α β γ : Type} [DecidableEq α] [En α] [DecidableEq β] [En β] [DecidableEq γ] [En γ] : ∀ (xs : List α) (ys : List β) (zs : List γ), zipD3 (xs.map enc) (ys.map enc) (zs.map enc) = (xs.zip (ys.zip zs)).map fun p => .tup [enc p.1, enc p.2.1, enc p.2.2]
  | [], _, _ => by simp [zipD3]
  | _ :: _, [], _ => by simp [zipD3]
  | _ :: _, _ :: _, [] => by simp [zipD3]
  | x :: xs, y :: ys, z :: zs => by
    simp only [List.map_cons, zipD3, List.zip_cons_cons, zipD3_en xs ys zs]

theorem zipD_en {α β : Type} [DecidableEq α] [En α] [DecidableEq β] [En β] : ∀ (xs : List α) (ys : List β), zipD (xs.map enc) (ys.map enc) = (xs.zip ys).map enc
  | [], _ => rfl
  | _ :: _, [] => rfl
  | x :: xs, y :: ys => by
    simp only [List.map_cons, zipD, List.zip_cons_cons, zipD_en xs ys]
    rfl
theorem enc_pair {α β : Type} [DecidableEq α] [En α] [DecidableEq β] [En β] (p : α × β) : (enc p : D) = .tup [enc p.1, enc p.2] := rfl
theorem enc_tup {α : Type} [DecidableEq α] [En α] (p : Tup α) : (enc p : D) = .tup (p.items.map enc) := rfl
theorem enc_list {α : Type} [DecidableEq α] [En α] (p : List α) : (enc p : D) = .lst (p.map enc) := rfl
end Mi
set_option Elab.async false
set_option linter.all false
set_option maxRecDepth 100000
set_option maxHeartbeats 400000
/-! W5: comprehensions, loops, calls. -/
namespace Mi
open PySem PySem.W
open Mi.En (enc)
section
variable {α β : Type} {f : D → S → Res (Option D)} {s : S} {e : α → D} {h : α → D} {P : List D → S → Prop}
theorem W_map {xs : List α} (h : α → D) (k : ∀ x ∈ xs, (f (e x) s).W (isQ (some (h x)) s)) (q : P (xs.map h) s) : (loopC f (xs.map e) s).W P :=
  Res.W.of (loopC_map fun x hx => (k x hx).eq) q
theorem W_filter {xs : List α} (p : α → Bool) (h : α → D) (k : ∀ x ∈ xs, (f (e x) s).W (isQ (if p x = true then some (h x) else none) s)) (q : P ((xs.filter p).map h) s) : (loopC f (xs.map e) s).W P :=
  Res.W.of (loopC_filter fun x hx => (k x hx).eq) q
theorem W_ex {xs : List α} (I : S → Prop) (G : β → Prop) (g : β → D) (h0 : I s) (k : ∀ x ∈ xs, ∀ s, I s → (f (e x) s).W fun o t => ∃ y, o = some (g y) ∧ I t ∧ G y)
    (q : ∀ (ys : List β) (t : S), ys.length = xs.length → (∀ y ∈ ys, G y) → I t → P (ys.map g) t) : (loopC f (xs.map e) s).W P := by
  have key : ∀ (xs : List α), (∀ x ∈ xs, ∀ s, I s → (f (e x) s).W fun o t => ∃ y, o = some (g y) ∧ I t ∧ G y) → ∀ s, I s → (loopC f (xs.map e) s).W fun r t => ∃ ys : List β, r = ys.map g ∧ ys.length = xs.length ∧ (∀ y ∈ ys, G y) ∧ I t := by
    intro xs
    induction xs with
    | nil => exact fun _ s i => ⟨[], rfl, rfl, (fun _ h => by cases h), i⟩
    | cons x xs ih =>
      intro k s i
      obtain ⟨o, t, h1, y, rfl, h2, h3⟩ := (k x List.mem_cons_self s i).ex
      obtain ⟨r, u, h4, ys, rfl, h5, h6, h7⟩ := (ih (fun z hz => k z (List.mem_cons_of_mem _ hz)) t h2).ex
      refine Res.W.of (a := (y :: ys).map g) (s := u) ?_ ⟨y :: ys, rfl, by simp [h5], fun z hz => ?_, h7⟩
      · rw [List.map_cons, loopC, h1]
        simp only
        rw [h4]
        rfl
      · rcases List.mem_cons.mp hz with rfl | hz
        · exact h3
        · exact h6 z hz
  refine (key xs k s h0).mono ?_
  rintro r t ⟨ys, rfl, h1, h2, h3⟩
  exact q ys t h1 h2 h3
/-- each value by its place -/
theorem W_exF {xs : List α} (I : S → Prop) (G : α → β → Prop) (g : β → D) (h0 : I s) (k : ∀ x ∈ xs, ∀ s, I s → (f (e x) s).W fun o t => ∃ y, o = some (g y) ∧ I t ∧ G x y)
    (q : ∀ (ys : List β) (t : S), ys.length = xs.length → (∀ p ∈ xs.zip ys, G p.1 p.2) → I t → P (ys.map g) t) : (loopC f (xs.map e) s).W P := by
  have key : ∀ (xs : List α), (∀ x ∈ xs, ∀ s, I s → (f (e x) s).W fun o t => ∃ y, o = some (g y) ∧ I t ∧ G x y) → ∀ s, I s → (loopC f (xs.map e) s).W fun r t => ∃ ys : List β, r = ys.map g ∧ ys.length = xs.length ∧ (∀ p ∈ xs.zip ys, G p.1 p.2) ∧ I t := by
    intro xs
    induction xs with
    | nil => exact fun _ s i => ⟨[], rfl, rfl, (fun _ h => by cases h), i⟩
    | cons x xs ih =>
      intro k s i
      obtain ⟨o, t, h1, y, rfl, h2, h3⟩ := (k x List.mem_cons_self s i).ex
      obtain ⟨r, u, h4, ys, rfl, h5, h6, h7⟩ := (ih (fun z hz => k z (List.mem_cons_of_mem _ hz)) t h2).ex
      refine Res.W.of (a := (y :: ys).map g) (s := u) ?_ ⟨y :: ys, rfl, by simp [h5], fun z hz => ?_, h7⟩
      · rw [List.map_cons, loopC, h1]
        simp only
        rw [h4]
        rfl
      · rw [List.zip_cons_cons] at hz
        rcases List.mem_cons.mp hz with rfl | hz
        · exact h3
        · exact h6 z hz
  refine (key xs k s h0).mono ?_
  rintro r t ⟨ys, rfl, h1, h2, h3⟩
  exact q ys t h1 h2 h3
variable {c : Cc} {τ : Tau} {Q : VQ}
theorem W_allC {xs : List α} (p : α → Bool) (k : ∀ x ∈ xs, (f (e x) s).W (isQ (some (.bl (p x))) s)) (q : Q (.bl (xs.all p)) s) : (loopC f (xs.map e) s).W (kCompEnd false (kEs c τ .nil (kBi .all Q))) := by
  refine W_map (fun x => .bl (p x)) k ?_
  simp only [↓wE, ↓wC, wX]
  exact q
theorem W_anyC {xs : List α} (p : α → Bool) (k : ∀ x ∈ xs, (f (e x) s).W (isQ (some (.bl (p x))) s)) (q : Q (.bl (xs.any p)) s) : (loopC f (xs.map e) s).W (kCompEnd false (kEs c τ .nil (kBi .any Q))) := by
  refine W_map (fun x => .bl (p x)) k ?_
  simp only [↓wE, ↓wC, wX]
  exact q
theorem all_tt {γ : Type} {xs : List γ} : (xs.all fun _ => true) = true := by simp
/-- all, where each is -/
theorem W_allT {xs : List α} (k : ∀ x ∈ xs, (f (e x) s).W (isQ (some (.bl true)) s)) (q : Q (.bl true) s) : (loopC f (xs.map e) s).W (kCompEnd false (kEs c τ .nil (kBi .all Q))) :=
  W_allC (fun _ => true) k (by rw [all_tt]; exact q)
theorem filter_map {γ δ : Type} {xs : List α} (p : α → Bool) (h : α → γ) (g : γ → δ) : (xs.filter p).map (fun x => g (h x)) = ((xs.filter p).map h).map g := by rw [List.map_map]; rfl
theorem filter_empty {xs : List α} {p : α → Bool} : (xs.filter p).isEmpty = !xs.any p := by
  induction xs with
  | nil => rfl
  | cons x xs ih =>
    rw [List.filter_cons, List.any_cons]
    cases p x <;> simp [ih]
/-- [.. if ..] == [] -/
theorem W_eqN [DecidableEq β] [En β] [Sh β] {xs : List α} (p : α → Bool) (h : α → β) (k : ∀ x ∈ xs, (f (e x) s).W (isQ (if p x = true then some (enc (h x)) else none) s)) (q : Q (.bl (!xs.any p)) s) : (loopC f (xs.map e) s).W (kCompEnd false (kCmp1 c τ .eq (.lst .nil) Q)) := by
  refine W_filter p (fun x => enc (h x)) k ?_
  rw [filter_map p h enc]
  simp only [↓wE, ↓wC, wV, wM]
  rw [List.isEmpty_map, filter_empty]
  exact q
theorem W_neN [DecidableEq β] [En β] [Sh β] {xs : List α} (p : α → Bool) (h : α → β) (k : ∀ x ∈ xs, (f (e x) s).W (isQ (if p x = true then some (enc (h x)) else none) s)) (q : Q (.bl (xs.any p)) s) : (loopC f (xs.map e) s).W (kCompEnd false (kCmp1 c τ .ne (.lst .nil) Q)) := by
  refine W_filter p (fun x => enc (h x)) k ?_
  rw [filter_map p h enc]
  simp only [↓wE, ↓wC, wV, wM]
  rw [List.isEmpty_map, filter_empty, Bool.not_not]
  exact q
end
section
variable {c : Cc} {τ : Tau} {s : S} {Q : VQ}
/-- a test of a filter -/
theorem brT_if {p q : Bool} {e : ME} {d : D} (hp : p = q) (k : q = true → (evE c e τ s).W (isQ d s)) : brT c τ p e s (isQ (if q = true then some d else none) s) := by
  subst hp
  cases p with
  | true =>
    show (evE c e τ s).W (kSome (isQ (some d) s))
    refine (k rfl).mono ?_
    rintro a t ⟨rfl, rfl⟩
    exact ⟨rfl, rfl⟩
  | false => exact ⟨rfl, rfl⟩
theorem brAnd_pure {p : Bool} (r : Bool) {b : ME} (h : p = true → (evE c b τ s).W (isQ (.bl r) s)) (q : Q (.bl (p && r)) s) : brAnd c τ p b s Q := by
  cases p with
  | true =>
    refine (h rfl).mono ?_
    rintro a t ⟨rfl, rfl⟩
    exact q
  | false => exact q
theorem brOr_pure {p : Bool} (r : Bool) {b : ME} (h : p = false → (evE c b τ s).W (isQ (.bl r) s)) (q : Q (.bl (p || r)) s) : brOr c τ p b s Q := by
  cases p with
  | false =>
    refine (h rfl).mono ?_
    rintro a t ⟨rfl, rfl⟩
    exact q
  | true => exact q
theorem brCh_pure {o : Bool} (r : Bool) {p : Co} {e : ME} {y : D} (h : o = true → (evE c e τ s).W (kCmp2 p y (isQ (.bl r) s))) (q : Q (.bl (o && r)) s) : brCh c τ o p e y s Q := by
  cases o with
  | true =>
    have h := h rfl
    obtain ⟨a, t, e1, e2⟩ := h.ex
    refine Res.W.of e1 ?_
    refine Res.W.mono e2 ?_
    rintro a t ⟨rfl, rfl⟩
    exact q
  | false => exact q
/-- a branch by its test -/
theorem brS_by {p : Bool} {a b : MSs} {N K B : TQ} {R : VQ} (h1 : p = true → (evSs c a τ s).W N R K B) (h2 : p = false → (evSs c b τ s).W N R K B) : brS c τ p a b s N R K B := by
  cases p with
  | true => exact h1 rfl
  | false => exact h2 rfl
theorem brE_by {p : Bool} {a b : ME} (h1 : p = true → (evE c a τ s).W Q) (h2 : p = false → (evE c b τ s).W Q) : brE c τ p a b s Q := by
  cases p with
  | true => exact h1 rfl
  | false => exact h2 rfl
theorem brE_pure {p : Bool} {a b : ME} {x y : D} (h1 : p = true → (evE c a τ s).W (isQ x s)) (h2 : p = false → (evE c b τ s).W (isQ y s)) (q : Q (if p = true then x else y) s) : brE c τ p a b s Q := by
  cases p with
  | true => exact (h1 rfl).mono (by rintro a t ⟨rfl, rfl⟩; exact q)
  | false => exact (h2 rfl).mono (by rintro a t ⟨rfl, rfl⟩; exact q)
end
section
variable {α : Type} {c : Cc} {g : MG} {b : MSs} {e : α → D} {N : TQ} {R : VQ}
theorem W_for_aux {xs : List α} (I : List α → Tau → S → Prop) (k : ∀ pre x post τ s, xs = pre ++ x :: post → I pre τ s → (evG c g (e x) τ s).W fun τ1 s1 => (evSs c b τ1 s1).W (I (pre ++ [x])) R (I (pre ++ [x])) N) (q : ∀ τ s, I xs τ s → N τ s) :
    ∀ (post pre : List α) (τ : Tau) (s : S), xs = pre ++ post → I pre τ s → (loopF (evG c g) (evSs c b) (post.map e) τ s).W N R noT noT
  | [], pre, τ, s, h, i => q τ s (by rw [h, List.append_nil]; exact i)
  | x :: post, pre, τ, s, h, i => by
    obtain ⟨τ1, s1, h1, h2⟩ := (k pre x post τ s h i).ex
    have ih := W_for_aux I k q post (pre ++ [x])
    rw [List.map_cons, loopF, h1]
    show Fl.W (match evSs c b τ1 s1 with | .nx τ2 s2 => _ | .ct τ2 s2 => _ | .bk τ2 s2 => _ | .rt d s2 => _ | .exc x τ2 s2 => _ | .stuck => _) N R noT noT
    cases e1 : evSs c b τ1 s1 with
    | nx τ2 s2 => rw [e1] at h2; exact ih τ2 s2 (by rw [h, List.append_assoc]; rfl) h2
    | ct τ2 s2 => rw [e1] at h2; exact ih τ2 s2 (by rw [h, List.append_assoc]; rfl) h2
    | bk τ2 s2 => rw [e1] at h2; exact h2
    | rt d s2 => rw [e1] at h2; exact h2
    | exc x τ2 s2 => rw [e1] at h2; exact h2
    | stuck => rw [e1] at h2; exact h2
/-- for: I holds of what is behind it -/
theorem W_for {xs : List α} {τ : Tau} {s : S} (I : List α → Tau → S → Prop) (h : I [] τ s) (k : ∀ pre x post τ s, xs = pre ++ x :: post → I pre τ s → (evG c g (e x) τ s).W fun τ1 s1 => (evSs c b τ1 s1).W (I (pre ++ [x])) R (I (pre ++ [x])) N) (q : ∀ τ s, I xs τ s → N τ s) :
    (loopF (evG c g) (evSs c b) (xs.map e) τ s).W N R noT noT := W_for_aux I k q xs [] τ s rfl h
theorem W_whl_aux {t : ME} (I : Nat → Tau → S → Prop) (k : ∀ m τ s, I m τ s → (evE c t τ s).W fun d s1 => ∃ p, d = .bl p ∧ if p = true then (evSs c b τ s1).W (fun τ2 s2 => ∃ m', m' < m ∧ I m' τ2 s2) R (fun τ2 s2 => ∃ m', m' < m ∧ I m' τ2 s2) N else N τ s1) :
    ∀ (f m : Nat) (τ : Tau) (s : S), m < f → I m τ s → (loopW (evE c t) (evSs c b) f τ s).W N R noT noT
  | 0, m, _, _, h, _ => by omega
  | f + 1, m, τ, s, h, i => by
    obtain ⟨d, s1, h1, p, rfl, h2⟩ := (k m τ s i).ex
    have ih := W_whl_aux I k f
    rw [loopW, h1]
    cases p with
    | false => exact h2
    | true =>
      rw [if_pos rfl] at h2
      show Fl.W (match evSs c b τ s1 with | .nx τ2 s2 => _ | .ct τ2 s2 => _ | .bk τ2 s2 => _ | .rt d s2 => _ | .exc x τ2 s2 => _ | .stuck => _) N R noT noT
      cases e1 : evSs c b τ s1 with
      | nx τ2 s2 => rw [e1] at h2; obtain ⟨m', h3, h4⟩ := h2; exact ih m' τ2 s2 (by omega) h4
      | ct τ2 s2 => rw [e1] at h2; obtain ⟨m', h3, h4⟩ := h2; exact ih m' τ2 s2 (by omega) h4
      | bk τ2 s2 => rw [e1] at h2; exact h2
      | rt d s2 => rw [e1] at h2; exact h2
      | exc x τ2 s2 => rw [e1] at h2; exact h2
      | stuck => rw [e1] at h2; exact h2
/-- while: m is what is left at most -/
theorem W_whl {t : ME} {τ : Tau} {s : S} (I : Nat → Tau → S → Prop) (m : Nat) (hm : m < c.wf) (h : I m τ s) (k : ∀ m τ s, I m τ s → (evE c t τ s).W fun d s1 => ∃ p, d = .bl p ∧ if p = true then (evSs c b τ s1).W (fun τ2 s2 => ∃ m', m' < m ∧ I m' τ2 s2) R (fun τ2 s2 => ∃ m', m' < m ∧ I m' τ2 s2) N else N τ s1) :
    wWhl c τ t b s N R := W_whl_aux I k c.wf m τ s hm h
end
/-! ### calls -/
section
variable {tab : Nat → Option Fd} {wf n f : Nat} {ps ns : Nat} {b : MSs} {ds : List D} {s t : S}
theorem call_W {d : D} (ht : tab f = some ⟨ps, ns, b⟩) (hl : ds.length = ps) (W : Wf s) (hd : below s.nx d = true) (h : (evSs (cc tab wf n) b (startT ns ds) s).W (fun _ t => D.non = d ∧ Over s t) (fun x t => x = d ∧ Over s t) noT noT) : callN tab wf (n + 1) f ds s = .ok d s := by
  rw [call_eq ht hl]
  cases e : evSs (cc tab wf n) b (startT ns ds) s with
  | nx τ t =>
    rw [e] at h
    obtain ⟨rfl, o⟩ := h
    simp only [endOf, clean_over W o hd]
  | rt x t =>
    rw [e] at h
    obtain ⟨rfl, o⟩ := h
    simp only [endOf, clean_over W o hd]
  | ct => rw [e] at h; exact h.elim
  | bk => rw [e] at h; exact h.elim
  | exc => rw [e] at h; exact h.elim
  | stuck => rw [e] at h; exact h.elim
/-- hands back some value of a kind; the old part of the state may have moved -/
theorem call_Wex {P : D → S → Prop} (ht : tab f = some ⟨ps, ns, b⟩) (hl : ds.length = ps)
    (h : (evSs (cc tab wf n) b (startT ns ds) s).W (fun _ t => ∃ u, u.nx = s.nx ∧ Wf u ∧ Over u t ∧ P .non u) (fun d t => ∃ u, u.nx = s.nx ∧ Wf u ∧ Over u t ∧ below s.nx d = true ∧ P d u) noT noT) : (callN tab wf (n + 1) f ds s).W P := by
  rw [call_eq ht hl]
  cases e : evSs (cc tab wf n) b (startT ns ds) s with
  | nx τ t =>
    rw [e] at h
    obtain ⟨u, h1, W, o, p⟩ := h
    simp only [endOf]
    rw [← h1, clean_over W o rfl]
    exact p
  | rt x t =>
    rw [e] at h
    obtain ⟨u, h1, W, o, hd, p⟩ := h
    simp only [endOf]
    rw [← h1] at hd ⊢
    rw [clean_over W o hd]
    exact p
  | ct => rw [e] at h; exact h.elim
  | bk => rw [e] at h; exact h.elim
  | exc => rw [e] at h; exact h.elim
  | stuck => rw [e] at h; exact h.elim
/-- hands back a cell of its own -/
theorem call_Wcell {c : Cl} (ht : tab f = some ⟨ps, ns, b⟩) (hl : ds.length = ps) (W : Wf s) (hc : belowC s.nx c = true) (h : (evSs (cc tab wf n) b (startT ns ds) s).W noT (fun x t => ∃ k, x = .ref k ∧ s.nx ≤ k ∧ t.get k = some c ∧ Over s t) noT noT) : callN tab wf (n + 1) f ds s = .ok (.ref s.nx) (s.add c) := by
  rw [call_eq ht hl]
  cases e : evSs (cc tab wf n) b (startT ns ds) s with
  | rt x t =>
    rw [e] at h
    obtain ⟨k, rfl, h1, h2, o⟩ := h
    simp only [endOf, clean_cell W o h1 h2 hc]
  | nx => rw [e] at h; exact h.elim
  | ct => rw [e] at h; exact h.elim
  | bk => rw [e] at h; exact h.elim
  | exc => rw [e] at h; exact h.elim
  | stuck => rw [e] at h; exact h.elim
end
/-- the names at a def's start -/
theorem wT :
    (∀ {n : Nat} {as : List D}, startT n as = as.map some ++ List.replicate (n - as.length) none) ∧ (∀ {a : D}, [a].length = 1) ∧ (∀ {a b : D}, [a, b].length = 2) ∧ (∀ {a b c : D}, [a, b, c].length = 3) ∧ (∀ {a b c d : D}, [a, b, c, d].length = 4) ∧ (∀ {a b c d e : D}, [a, b, c, d, e].length = 5) ∧ (∀ {a b c d e f : D}, [a, b, c, d, e, f].length = 6) ∧ (([] : List D).length = 0) ∧
    (∀ {a : D} {as : List D}, (a :: as).map some = some a :: as.map some) ∧ (([] : List D).map some = []) ∧ (∀ {as : Tau}, ([] : Tau) ++ as = as) ∧ (∀ {a : Option D} {as bs : Tau}, (a :: as) ++ bs = a :: (as ++ bs)) ∧ (∀ {n : Nat} {a : Option D}, List.replicate (n + 1) a = a :: List.replicate n a) ∧ (∀ {a : Option D}, List.replicate 0 a = []) :=
  ⟨rfl, rfl, rfl, rfl, rfl, rfl, rfl, rfl, rfl, rfl, rfl, rfl, rfl, rfl⟩
theorem over_refl {s : S} : Over s s = True := eq_true (Over.refl s)
theorem over_add {s : S} {c : Cl} : Over s (s.add c) = True := eq_true (Over.add (Over.refl s))
theorem over_add2 {s : S} {c d : Cl} : Over s ((s.add c).add d) = True := eq_true (Over.add (Over.add (Over.refl s)))
theorem over_add3 {s : S} {c d e : Cl} : Over s (((s.add c).add d).add e) = True := eq_true (Over.add (Over.add (Over.add (Over.refl s))))
theorem wO : (∀ {s : S}, Over s s = True) ∧ (∀ {s : S} {c : Cl}, Over s (s.add c) = True) ∧ (∀ {s : S} {c d : Cl}, Over s ((s.add c).add d) = True) ∧ (∀ {s : S} {c d e : Cl}, Over s (((s.add c).add d).add e) = True) ∧ (∀ {p : Prop}, (p ∧ True) = p) ∧ (∀ {a : D}, (a = a) = True) := ⟨over_refl, over_add, over_add2, over_add3, by simp, by simp⟩
end Mi
set_option Elab.async false
set_option linter.all false
set_option maxRecDepth 100000
set_option maxHeartbeats 400000
/-! W6: dicts whose keys are of one type. -/
namespace Mi
open PySem PySem.W
open Mi.En (enc)
class Ky (κ : Type) [DecidableEq κ] [En κ] where
  key : κ → NestedKey
  keyT : ∀ a : κ, keyT (enc a) = some (key a)
  inj : ∀ {a b : κ}, key a = key b → a = b
instance : Sh (Int × Tup Int) := ⟨by decide⟩
instance : TupE (Int × Tup Int) := ⟨fun a => ⟨_, rfl⟩, fun a => rfl⟩
instance : Sh (List (Int × Tup Int)) := ⟨by decide⟩
def kP (p : Int × Tup Int) : NestedKey := .tup [.num p.1, .tup (p.2.items.map .num)]
theorem toKeys_ints : ∀ xs : List Int, toKeys (xs.map enc) = some (xs.map .num)
  | [] => rfl
  | x :: xs => by
    rw [List.map_cons, toKeys, toKeys_ints xs]
    rfl
theorem depth_nums : ∀ xs : List Int, NestedKey.depthAll (xs.map .num) ≤ 0
  | [] => by simp [NestedKey.depthAll]
  | x :: xs => by
    have := depth_nums xs
    simp [NestedKey.depthAll, NestedKey.depth]
    omega
theorem keyT_pl (p : Int × Tup Int) : keyT (enc p) = some (kP p) := by
  have e3 : (enc p : D) = .tup [.int p.1, .tup (p.2.items.map enc)] := rfl
  have h1 : toKeys [.int p.1, .tup (p.2.items.map enc)] = some [.num p.1, .tup (p.2.items.map .num)] := by
    simp [toKeys, toKey, toKeys_ints]
  have h2 : (NestedKey.tup [.num p.1, .tup (p.2.items.map .num)]).depth ≤ 8 := by
    have := depth_nums p.2.items
    simp [NestedKey.depth, NestedKey.depthAll]
    omega
  rw [e3]
  simp only [keyT, h1]
  rw [if_pos h2]
  rfl
theorem kP_inj {p q : Int × Tup Int} (h : kP p = kP q) : p = q := by
  obtain ⟨a, ⟨xs⟩⟩ := p
  obtain ⟨b, ⟨ys⟩⟩ := q
  unfold kP at h
  simp at h
  obtain ⟨h1, h2⟩ := h
  have : xs = ys := by
    have := congrArg (List.map fun k : NestedKey => match k with | .num i => i | _ => 0) h2
    simpa [List.map_map, Function.comp_def] using this
  rw [h1, this]
instance : Ky (Int × Tup Int) := ⟨kP, keyT_pl, kP_inj⟩
section
variable {κ β : Type} [DecidableEq κ] [En κ] [Ky κ] {f : β → D} {s : S} {Q : VQ}
def lk (p : κ) : List (κ × β) → Option β
  | [] => none
  | (q, b) :: l => if p = q then some b else lk p l
def kD (l : List (κ × β)) : List D := (l.map (·.1)).map enc
def vD (f : β → D) (l : List (κ × β)) : List D := l.map fun q => f q.2
theorem dget_ky (p : κ) : ∀ l : List (κ × β), dget (Ky.key p) (kD l) (vD f l) = (lk p l).map f
  | [] => rfl
  | (q, b) :: l => by
    show (if keyT (enc q) = some (Ky.key p) then some (f b) else dget (Ky.key p) (kD l) (vD f l)) = _
    rw [Ky.keyT, dget_ky p l, lk]
    by_cases h : p = q
    · subst h
      simp
    · rw [if_neg h, if_neg fun z => h (Ky.inj (Option.some.inj z)).symm]
theorem lookup_isSome {p : κ} : ∀ {l : List (κ × β)}, (lk p l).isSome = decide (p ∈ l.map (·.1))
  | [] => by simp [lk]
  | (q, b) :: l => by
    rw [lk]
    by_cases h : p = q
    · subst h
      simp
    · rw [if_neg h]
      simp only [List.map_cons, List.mem_cons, h, false_or]
      exact lookup_isSome
theorem lookup_out {p : κ} {l : List (κ × β)} (h : p ∉ l.map (·.1)) : lk p l = none := by
  have e : (lk p l).isSome = false := by rw [lookup_isSome]; simpa using h
  cases q : lk p l with
  | none => rfl
  | some x => rw [q] at e; cases e
theorem kd_lookup {p : κ} {b : β} : ∀ {l : List (κ × β)}, (l.map (·.1)).Nodup → (p, b) ∈ l → lk p l = some b
  | [], _, h => by cases h
  | (q, c) :: l, hn, h => by
    rw [List.map_cons, List.nodup_cons] at hn
    rw [lk]
    rcases List.mem_cons.mp h with h | h
    · cases h
      simp
    · have h2 : p ≠ q := fun z => hn.1 (by rw [← z]; exact List.mem_map.mpr ⟨_, h, rfl⟩)
      rw [if_neg h2]
      exact kd_lookup hn.2 h
theorem kd_mem {p : κ} {b : β} : ∀ {l : List (κ × β)}, lk p l = some b → (p, b) ∈ l
  | [], h => by cases h
  | (q, c) :: l, h => by
    rw [lk] at h
    by_cases e : p = q
    · subst e
      simp at h
      subst h
      exact List.mem_cons_self
    · rw [if_neg e] at h
      exact List.mem_cons_of_mem _ (kd_mem h)
theorem lookup_mapK (g : κ → β) {p : κ} : ∀ {ps : List κ}, p ∈ ps → lk p (ps.map fun q => (q, g q)) = some (g p)
  | [], h => by cases h
  | q :: ps, h => by
    rw [List.map_cons, lk]
    by_cases e : p = q
    · subst e
      simp
    · rw [if_neg e]
      exact lookup_mapK g ((List.mem_cons.mp h).resolve_left e)
theorem kD_len {l : List (κ × β)} : (kD l).length = l.length := by simp [kD]
theorem vD_len {l : List (κ × β)} : (vD f l).length = l.length := by simp [vD]
theorem kD_snoc {l : List (κ × β)} {p : κ} {b : β} : kD (l ++ [(p, b)]) = kD l ++ [enc p] := by simp [kD]
theorem vD_snoc {l : List (κ × β)} {p : κ} {b : β} : vD f (l ++ [(p, b)]) = vD f l ++ [f b] := by simp [vD]
theorem dput_new {p : κ} {l : List (κ × β)} {b : β} (h : p ∉ l.map (·.1)) : dput (Ky.key p) (enc p) (f b) (kD l) (vD f l) = (kD (l ++ [(p, b)]), vD f (l ++ [(p, b)])) := by
  unfold dput
  rw [dget_ky, lookup_out h, kD_snoc, vD_snoc]
  rfl
theorem d_in {p : κ} {l : List (κ × β)} : (evCmp .isin (enc p) (.dic (kD l) (vD f l)) s).W Q = Q (.bl (isin p (l.map (·.1)))) s := by
  show Res.W (match (keyT (enc p)).map fun k => (dget k (kD l) (vD f l)).isSome with | some r => .ok (.bl r) s | none => .stuck) Q = _
  rw [Ky.keyT]
  simp only [Option.map_some, dget_ky, Option.isSome_map, lookup_isSome]
  rfl
theorem d_notin {p : κ} {l : List (κ × β)} : (evCmp .notin (enc p) (.dic (kD l) (vD f l)) s).W Q = Q (.bl (!isin p (l.map (·.1)))) s := by
  show Res.W (match (keyT (enc p)).map fun k => (dget k (kD l) (vD f l)).isSome with | some r => .ok (.bl (!r)) s | none => .stuck) Q = _
  rw [Ky.keyT]
  simp only [Option.map_some, dget_ky, Option.isSome_map, lookup_isSome]
  rfl
def wInC (o : Option Cl) (neg : Bool) (d : D) (s : S) (Q : VQ) : Prop := match o with
  | some (.lst _ ds) => (evCmp (if neg then .notin else .isin) d (.lst ds) s).W Q
  | some (.dic _ ks vs) => (evCmp (if neg then .notin else .isin) d (.dic ks vs) s).W Q
  | none => False
theorem in_ref {n : Nat} {d : D} : (evCmp .isin d (.ref n) s).W Q = wInC (s.get n) false d s Q := by
  have e : evCmp .isin d (.ref n) s = match s.isIn d (.ref n) with | some r => .ok (.bl r) s | none => .stuck := rfl
  rw [e]
  unfold S.isIn
  simp only
  cases h : s.get n with
  | none => rfl
  | some c => cases c <;> rfl
theorem notin_ref {n : Nat} {d : D} : (evCmp .notin d (.ref n) s).W Q = wInC (s.get n) true d s Q := by
  have e : evCmp .notin d (.ref n) s = match s.isIn d (.ref n) with | some r => .ok (.bl (!r)) s | none => .stuck := rfl
  rw [e]
  unfold S.isIn
  simp only
  cases h : s.get n with
  | none => rfl
  | some c => cases c <;> rfl
theorem inC_lst {b : Bool} {ds : List D} {d : D} : wInC (some (.lst b ds)) false d s Q = (evCmp .isin d (.lst ds) s).W Q := rfl
theorem inC_dic {b : Bool} {ks vs : List D} {d : D} : wInC (some (.dic b ks vs)) false d s Q = (evCmp .isin d (.dic ks vs) s).W Q := rfl
theorem inC_lstn {b : Bool} {ds : List D} {d : D} : wInC (some (.lst b ds)) true d s Q = (evCmp .notin d (.lst ds) s).W Q := rfl
theorem inC_dicn {b : Bool} {ks vs : List D} {d : D} : wInC (some (.dic b ks vs)) true d s Q = (evCmp .notin d (.dic ks vs) s).W Q := rfl
theorem d_ix {p : κ} {l : List (κ × β)} : (evIx (.dic (kD l) (vD f l)) (enc p) s).W Q = wAt (lk p l) f s Q := by
  rw [x_dic (Ky.keyT p), dget_ky]
  cases lk p l <;> rfl
def wSetD (o : Option Cl) (n : Nat) (k : D) (v : D) (s : S) (P : S → S → Prop) : Prop := match o with
  | some (.dic false ks vs) => match keyT k with
    | some q => ks.length < 16777216 ∧ P (s.put n (.dic false (dput q k v ks vs).1 (dput q k v ks vs).2)) s
    | none => False
  | some (.lst false ds) => match k with
    | .int i => wSome ((L2.ixN ds.length i).map fun j => s.put n (.lst false (ds.set j v))) s P
    | _ => False
  | _ => False
theorem set_ref {n : Nat} {k v : D} {P : S → S → Prop} : wSome (setIx (.ref n) k v s) s P = wSetD (s.get n) n k v s P := by
  cases h : s.get n with
  | none => cases k <;> simp only [setIx, h] <;> rfl
  | some c => cases c with
    | lst b ds => cases b <;> cases k <;> simp only [setIx, h] <;> rfl
    | dic b ks vs =>
      cases b with
      | true => cases k <;> simp only [setIx, h] <;> rfl
      | false =>
        have e : setIx (.ref n) k v s = match keyT k with | some q => (if ks.length < sizeLine then some (s.put n (.dic false (dput q k v ks vs).1 (dput q k v ks vs).2)) else none) | none => none := by
          cases k <;> simp only [setIx, h] <;> rfl
        rw [e]
        show _ = (match keyT k with | some q => ks.length < 16777216 ∧ P (s.put n (.dic false (dput q k v ks vs).1 (dput q k v ks vs).2)) s | none => False)
        cases keyT k with
        | none => rfl
        | some q =>
          show wSome (if ks.length < sizeLine then some _ else none) s P = _
          rw [PySem.sizeLine_eq]
          by_cases h2 : ks.length < 16777216
          · rw [if_pos h2]
            simp only [h2, true_and]
            rfl
          · rw [if_neg h2]
            simp only [h2, false_and]
            rfl
theorem set_new {n : Nat} {p : κ} {b : β} {l : List (κ × β)} {P : S → S → Prop} (h : p ∉ l.map (·.1)) (hl : l.length < 16777216) (q : P (s.put n (.dic false (kD (l ++ [(p, b)])) (vD f (l ++ [(p, b)])))) s) : wSetD (some (.dic false (kD l) (vD f l))) n (enc p) (f b) s P := by
  show (match keyT (enc p) with | some q => _ | none => False)
  rw [Ky.keyT]
  refine ⟨by rw [kD_len]; exact hl, ?_⟩
  rw [dput_new h]
  exact q
theorem set_l0 {n : Nat} {a b v : D} {P : S → S → Prop} : wSetD (some (.lst false [a, b])) n (.int 0) v s P = P (s.put n (.lst false [v, b])) s := rfl
theorem set_l1 {n : Nat} {a b v : D} {P : S → S → Prop} : wSetD (some (.lst false [a, b])) n (.int 1) v s P = P (s.put n (.lst false [a, v])) s := rfl
theorem walk_kD {l : List (κ × β)} {vs : List D} : s.walk (.dic (kD l) vs) = some ((l.map (·.1)).map enc) := rfl
theorem sort_kD [Sh κ] [TupE κ] {l : List (κ × β)} {vs : List D} : (evBi .sorted [.dic (kD l) vs] s).W Q = Q (.lst (((l.map (·.1)).mergeSort leE).map enc)) s := v_sortK
theorem kD_nil : kD ([] : List (κ × β)) = [] := rfl
theorem vD_nil : vD f ([] : List (κ × β)) = [] := rfl
theorem kD_low {m : Nat} {l : List (κ × β)} : belows m (kD l) = true := lows_map m _
theorem vD_low {m : Nat} (hf : ∀ b, below m (f b) = true) : ∀ {l : List (κ × β)}, belows m (vD f l) = true
  | [] => rfl
  | q :: l => by
    show (below m (f q.2) && belows m (vD f l)) = true
    rw [hf, vD_low hf]
    rfl
theorem dic_low {m : Nat} {l : List (κ × β)} (hf : ∀ b, below m (f b) = true) : below m (.dic (kD l) (vD f l)) = true := by
  show (belows m (kD l) && belows m (vD f l)) = true
  rw [kD_low, vD_low hf]
  rfl
theorem dicC_low {m : Nat} {l : List (κ × β)} {z : Bool} (hf : ∀ b, below m (f b) = true) : belowC m (.dic z (kD l) (vD f l)) = true := dic_low hf
variable {α : Type} {e : α → D}
theorem W_dmap {g : D → S → Res (Option (D × D))} {P : List D × List D → S → Prop} {xs : List α} (k : α → κ) (v : α → β) (f : β → D) (hn : (xs.map k).Nodup) (h : ∀ x ∈ xs, (g (e x) s).W (isQ (some (enc (k x), f (v x))) s))
    (q : P (kD (xs.map fun x => (k x, v x)), vD f (xs.map fun x => (k x, v x))) s) : (loopK g (xs.map e) [] [] s).W P := by
  have key : ∀ (post pre : List α), xs = pre ++ post → (∀ x ∈ xs, g (e x) s = .ok (some (enc (k x), f (v x))) s) → loopK g (post.map e) (kD (pre.map fun x => (k x, v x))) (vD f (pre.map fun x => (k x, v x))) s = .ok (kD (xs.map fun x => (k x, v x)), vD f (xs.map fun x => (k x, v x))) s := by
    intro post
    induction post with
    | nil => intro pre hx _; rw [List.append_nil] at hx; subst hx; rfl
    | cons x post ih =>
      intro pre hx hg
      rw [List.map_cons, loopK, hg x (by rw [hx]; simp)]
      simp only
      rw [Ky.keyT]
      simp only
      have hp : k x ∉ (pre.map fun x => (k x, v x)).map (·.1) := by
        rw [hx, List.map_append, List.nodup_append] at hn
        intro hm
        rw [List.map_map] at hm
        exact hn.2.2 (k x) hm (k x) (by simp) rfl
      rw [dput_new hp]
      have e2 : (pre.map fun x => (k x, v x)) ++ [(k x, v x)] = (pre ++ [x]).map fun x => (k x, v x) := by simp
      rw [e2]
      exact ih (pre ++ [x]) (by rw [hx]; simp) hg
  exact Res.W.of (key xs [] rfl fun x hx => (h x hx).eq) q
/-- with a test -/
theorem W_dfilter {g : D → S → Res (Option (D × D))} {P : List D × List D → S → Prop} {xs : List α} (p : α → Bool) (k : α → κ) (v : α → β) (f : β → D) (hn : (xs.map k).Nodup) (h : ∀ x ∈ xs, (g (e x) s).W (isQ (if p x = true then some (enc (k x), f (v x)) else none) s))
    (q : P (kD ((xs.filter p).map fun x => (k x, v x)), vD f ((xs.filter p).map fun x => (k x, v x))) s) : (loopK g (xs.map e) [] [] s).W P := by
  have key : ∀ (post pre : List α), xs = pre ++ post → (∀ x ∈ xs, g (e x) s = .ok (if p x = true then some (enc (k x), f (v x)) else none) s) → loopK g (post.map e) (kD ((pre.filter p).map fun x => (k x, v x))) (vD f ((pre.filter p).map fun x => (k x, v x))) s = .ok (kD ((xs.filter p).map fun x => (k x, v x)), vD f ((xs.filter p).map fun x => (k x, v x))) s := by
    intro post
    induction post with
    | nil => intro pre hx _; rw [List.append_nil] at hx; subst hx; rfl
    | cons x post ih =>
      intro pre hx hg
      rw [List.map_cons, loopK, hg x (by rw [hx]; simp)]
      have ih := ih (pre ++ [x]) (by rw [hx]; simp) hg
      rw [List.filter_append, List.filter_cons] at ih
      by_cases hpx : p x = true
      · rw [if_pos hpx] at ih ⊢
        simp only
        rw [Ky.keyT]
        simp only
        have hp : k x ∉ ((pre.filter p).map fun x => (k x, v x)).map (·.1) := by
          rw [hx, List.map_append, List.nodup_append] at hn
          intro hm
          rw [List.map_map] at hm
          obtain ⟨z, hz, ez⟩ := List.mem_map.mp hm
          exact hn.2.2 (k z) (List.mem_map.mpr ⟨z, (List.mem_filter.mp hz).1, rfl⟩) (k x) (by simp) ez
        rw [dput_new hp]
        simpa using ih
      · rw [if_neg hpx] at ih ⊢
        simpa using ih
  exact Res.W.of (key xs [] rfl fun x hx => (h x hx).eq) q
theorem brK_if {c : Cc} {τ : Tau} {p q : Bool} {ke ve : ME} {x y : D} (hp : p = q) (k : q = true → (evE c ke τ s).W (kTK2 c τ ve (isQ (some (x, y)) s))) : brK c τ p ke ve s (isQ (if q = true then some (x, y) else none) s) := by
  subst hp
  cases p with
  | true => exact k rfl
  | false => exact ⟨rfl, rfl⟩
end
/-- dicts -/
theorem wK :
    (∀ {κ β : Type} [DecidableEq κ] [En κ] [Ky κ] {f : β → D} {s Q} {p : κ} {l : List (κ × β)}, (evCmp .isin (enc p) (.dic (kD l) (vD f l)) s).W Q = Q (.bl (isin p (l.map (·.1)))) s) ∧
    (∀ {κ β : Type} [DecidableEq κ] [En κ] [Ky κ] {f : β → D} {s Q} {p : κ} {l : List (κ × β)}, (evCmp .notin (enc p) (.dic (kD l) (vD f l)) s).W Q = Q (.bl (!isin p (l.map (·.1)))) s) ∧
    (∀ {s Q} {n : Nat} {d : D}, (evCmp .isin d (.ref n) s).W Q = wInC (s.get n) false d s Q) ∧ (∀ {s Q} {n : Nat} {d : D}, (evCmp .notin d (.ref n) s).W Q = wInC (s.get n) true d s Q) ∧
    (∀ {s Q} {b : Bool} {ds : List D} {d : D}, wInC (some (.lst b ds)) false d s Q = (evCmp .isin d (.lst ds) s).W Q) ∧ (∀ {s Q} {b : Bool} {ks vs : List D} {d : D}, wInC (some (.dic b ks vs)) false d s Q = (evCmp .isin d (.dic ks vs) s).W Q) ∧
    (∀ {s Q} {b : Bool} {ds : List D} {d : D}, wInC (some (.lst b ds)) true d s Q = (evCmp .notin d (.lst ds) s).W Q) ∧ (∀ {s Q} {b : Bool} {ks vs : List D} {d : D}, wInC (some (.dic b ks vs)) true d s Q = (evCmp .notin d (.dic ks vs) s).W Q) ∧
    (∀ {κ β : Type} [DecidableEq κ] [En κ] [Ky κ] {f : β → D} {s Q} {p : κ} {l : List (κ × β)}, (evIx (.dic (kD l) (vD f l)) (enc p) s).W Q = wAt (lk p l) f s Q) ∧
    (∀ {s} {n : Nat} {k v : D} {P : S → S → Prop}, wSome (setIx (.ref n) k v s) s P = wSetD (s.get n) n k v s P) ∧
    (∀ {s} {n : Nat} {a b v : D} {P : S → S → Prop}, wSetD (some (.lst false [a, b])) n (.int 0) v s P = P (s.put n (.lst false [v, b])) s) ∧ (∀ {s} {n : Nat} {a b v : D} {P : S → S → Prop}, wSetD (some (.lst false [a, b])) n (.int 1) v s P = P (s.put n (.lst false [a, v])) s) ∧
    (∀ {κ β : Type} [DecidableEq κ] [En κ] [Ky κ] {s : S} {l : List (κ × β)} {vs : List D}, s.walk (.dic (kD l) vs) = some ((l.map (·.1)).map enc)) ∧
    (∀ {κ β : Type} [DecidableEq κ] [En κ] [Ky κ] [Sh κ] [TupE κ] {s Q} {l : List (κ × β)} {vs : List D}, (evBi .sorted [.dic (kD l) vs] s).W Q = Q (.lst (((l.map (·.1)).mergeSort leE).map enc)) s) ∧
    (∀ {α : Type} {d : α} {f : α → D} {s Q}, wAt (some d) f s Q = Q (f d) s) ∧ (∀ {d : D}, id d = d) :=
  ⟨d_in, d_notin, in_ref, notin_ref, inC_lst, inC_dic, inC_lstn, inC_dicn, d_ix, set_ref, set_l0, set_l1, walk_kD, sort_kD, w_at, rfl⟩
end Mi
set_option Elab.async false
set_option linter.all false
set_option maxRecDepth 100000
/-! Tabk76: the defs of k76 in the small language (printed by genlaw.py). -/
namespace Mi.L76
open PySem
/-- is_list(value) -/
def b_is_list : MSs := (.cons (.ret (.isi (.slot 0) [.lst, .tup])) .nil)
/-- is_integer(value) -/
def b_is_integer : MSs := (.cons (.ret (.and (.isi (.slot 0) [.int]) (.no (.isi (.slot 0) [.bl])))) .nil)
/-- is_count(value) -/
def b_is_count : MSs := (.cons (.ret (.and (.call 2 (.cons (.slot 0) .nil)) (.cmp .ge (.slot 0) (.cst (.int 0))))) .nil)
/-- is_position(value, many) -/
def b_is_position : MSs := (.cons (.ret (.and (.call 2 (.cons (.slot 0) .nil)) (.chain .le .lt (.cst (.int 0)) (.slot 0) (.slot 1)))) .nil)
/-- wants_are_right(stocks, wants, effects, one, want, more) -/
def b_farms_wants_are_right : MSs := (.cons (.ifs (.or (.no (.isi (.slot 1) [.tup])) (.or (.no (.isi (.slot 2) [.tup])) (.no (.chain .eq .eq (.bi .len (.cons (.slot 1) .nil)) (.bi .len (.cons (.slot 2) .nil)) (.slot 0))))) (.cons (.ret (.cst (.bl false))) .nil) .nil) (.cons (.ifs (.no (.bi .all (.cons (.comp false (.nm 3) (.it (.slot 1)) .no (.and (.call 3 (.cons (.slot 3) .nil)) (.cmp .le (.slot 3) (.cst (.int 9)))) [3]) .nil))) (.cons (.ret (.cst (.bl false))) .nil) .nil) (.cons (.ifs (.no (.bi .all (.cons (.comp false (.nm 3) (.it (.slot 2)) .no (.and (.call 2 (.cons (.slot 3) .nil)) (.cmp .le (.bi .abs (.cons (.slot 3) .nil)) (.cst (.int 9)))) [3]) .nil))) (.cons (.ret (.cst (.bl false))) .nil) .nil) (.cons (.ret (.bi .all (.cons (.comp false (.tp (.cons (.nm 4) (.cons (.nm 5) .nil))) (.zip2 (.slot 1) (.slot 2)) .no (.cmp .ge (.bin .add (.slot 4) (.slot 5)) (.cst (.int 0))) [4, 5]) .nil))) .nil))))
/-- step_is_right(standings, stocks, value) -/
def b_farms_step_is_right : MSs := (.cons (.ifs (.or (.no (.isi (.slot 2) [.tup])) (.or (.cmp .ne (.bi .len (.cons (.slot 2) .nil)) (.cst (.int 6))) (.or (.no (.isi (.ix (.slot 2) (.cst (.int 0))) [.str])) (.cmp .ne (.ix (.slot 2) (.cst (.int 0))) (.cst (.str "step")))))) (.cons (.ret (.cst (.bl false))) .nil) .nil) (.cons (.ifs (.or (.no (.call 4 (.cons (.ix (.slot 2) (.cst (.int 1))) (.cons (.slot 0) .nil)))) (.no (.call 4 (.cons (.ix (.slot 2) (.cst (.int 2))) (.cons (.slot 0) .nil))))) (.cons (.ret (.cst (.bl false))) .nil) .nil) (.cons (.ret (.and (.call 292 (.cons (.slot 1) (.cons (.ix (.slot 2) (.cst (.int 3))) (.cons (.ix (.slot 2) (.cst (.int 4))) .nil)))) (.and (.call 3 (.cons (.ix (.slot 2) (.cst (.int 5))) .nil)) (.cmp .le (.ix (.slot 2) (.cst (.int 5))) (.cst (.int 99)))))) .nil)))
/-- flaw_of(value, step) -/
def b_farms_flaw_of : MSs := (.cons (.ifs (.or (.no (.isi (.slot 0) [.tup])) (.or (.cmp .ne (.bi .len (.cons (.slot 0) .nil)) (.cst (.int 4))) (.or (.no (.isi (.ix (.slot 0) (.cst (.int 0))) [.str])) (.cmp .ne (.ix (.slot 0) (.cst (.int 0))) (.cst (.str "farm")))))) (.cons (.ret (.cst (.str "form"))) .nil) .nil) (.cons (.ifs (.or (.no (.call 2 (.cons (.ix (.slot 0) (.cst (.int 1))) .nil))) (.no (.chain .le .le (.cst (.int 1)) (.ix (.slot 0) (.cst (.int 1))) (.cst (.int 6))))) (.cons (.ret (.cst (.str "standings"))) .nil) .nil) (.cons (.ifs (.or (.no (.call 2 (.cons (.ix (.slot 0) (.cst (.int 2))) .nil))) (.no (.chain .le .le (.cst (.int 1)) (.ix (.slot 0) (.cst (.int 2))) (.cst (.int 3))))) (.cons (.ret (.cst (.str "stocks"))) .nil) .nil) (.cons (.ifs (.or (.no (.isi (.ix (.slot 0) (.cst (.int 3))) [.tup])) (.cmp .gt (.bi .len (.cons (.ix (.slot 0) (.cst (.int 3))) .nil)) (.cst (.int 12)))) (.cons (.ret (.cst (.str "steps"))) .nil) .nil) (.cons (.ret (.ife (.bi .all (.cons (.comp false (.nm 1) (.it (.ix (.slot 0) (.cst (.int 3)))) .no (.call 293 (.cons (.ix (.slot 0) (.cst (.int 1))) (.cons (.ix (.slot 0) (.cst (.int 2))) (.cons (.slot 1) .nil)))) [1]) .nil)) (.cst .non) (.cst (.str "steps")))) .nil)))))
/-- check_farm(farm) -/
def b_farms_check_farm : MSs := (.cons (.ifs (.cmp .isnt (.call 294 (.cons (.slot 0) .nil)) (.cst .non)) (.cons .never .nil) .nil) .nil)
/-- check_step(farm, step) -/
def b_farms_check_step : MSs := (.cons (.ifs (.no (.call 4 (.cons (.slot 1) (.cons (.bi .len (.cons (.ix (.slot 0) (.cst (.int 3))) .nil)) .nil)))) (.cons .never .nil) .nil) .nil)
/-- is_least(row, other, one, its) -/
def b_is_least : MSs := (.cons (.ret (.bi .all (.cons (.comp false (.tp (.cons (.nm 2) (.cons (.nm 3) .nil))) (.zip2 (.slot 0) (.slot 1)) .no (.cmp .ge (.slot 2) (.slot 3)) [2, 3]) .nil))) .nil)
/-- added(row, effects, one, more) -/
def b_farms_added : MSs := (.cons (.ret (.bi .tuple (.cons (.comp false (.tp (.cons (.nm 2) (.cons (.nm 3) .nil))) (.zip2 (.slot 0) (.slot 1)) .no (.bin .add (.slot 2) (.slot 3)) [2, 3]) .nil))) .nil)
/-- is_let(farm, place, step) -/
def b_farms_is_let : MSs := (.cons (.ret (.and (.cmp .eq (.ix (.ix (.ix (.slot 0) (.cst (.int 3))) (.slot 2)) (.cst (.int 1))) (.ix (.slot 1) (.cst (.int 0)))) (.call 5 (.cons (.ix (.slot 1) (.cst (.int 1))) (.cons (.ix (.ix (.ix (.slot 0) (.cst (.int 3))) (.slot 2)) (.cst (.int 3))) .nil))))) .nil)
/-- let_at(farm, place, step) -/
def b_farms_let_at : MSs := (.cons (.ret (.comp false (.nm 2) (.rng (.bi .len (.cons (.ix (.slot 0) (.cst (.int 3))) .nil))) (.so (.call 298 (.cons (.slot 0) (.cons (.slot 1) (.cons (.slot 2) .nil))))) (.slot 2) [2])) .nil)
/-- way_is_right(farm, value, step, one, other) -/
def b_ways_way_is_right : MSs := (.cons (.ifs (.or (.no (.isi (.slot 1) [.tup])) (.no (.bi .all (.cons (.comp false (.nm 2) (.it (.slot 1)) .no (.call 4 (.cons (.slot 2) (.cons (.bi .len (.cons (.ix (.slot 0) (.cst (.int 3))) .nil)) .nil))) [2]) .nil)))) (.cons (.ret (.cst (.bl false))) .nil) .nil) (.cons (.ret (.bi .all (.cons (.comp false (.tp (.cons (.nm 3) (.cons (.nm 4) .nil))) (.zip2 (.slot 1) (.sl (.slot 1) (.so (.cst (.int 1))) .no)) .no (.cmp .eq (.ix (.ix (.ix (.slot 0) (.cst (.int 3))) (.slot 3)) (.cst (.int 2))) (.ix (.ix (.ix (.slot 0) (.cst (.int 3))) (.slot 4)) (.cst (.int 1)))) [3, 4]) .nil))) .nil))
/-- check_way(farm, way) -/
def b_ways_check_way : MSs := (.cons (.ifs (.or (.no (.call 300 (.cons (.slot 0) (.cons (.slot 1) .nil)))) (.cmp .gt (.bi .len (.cons (.slot 1) .nil)) (.cst (.int 5000)))) (.cons .never .nil) .nil) .nil)
/-- rows_within(caps, found, cap, longer, row, number) -/
def b_caps_rows_within : MSs := (.cons (.set 1 (.lst (.cons (.tup .nil) .nil))) (.cons (.fors (.nm 2) (.it (.slot 0)) (.cons (.set 3 (.cell .nil)) (.cons (.fors (.nm 4) (.it (.slot 1)) (.cons (.ex (.mt .extend (.slot 3) (.cons (.comp false (.nm 5) (.rng (.bin .add (.slot 2) (.cst (.int 1)))) .no (.bin .add (.slot 4) (.tup (.cons (.slot 5) .nil))) [5]) .nil))) .nil)) (.cons (.gfrz 3) (.cons (.set 1 (.frz (.slot 3))) .nil))))) (.cons (.ret (.slot 1)) .nil)))
/-- places_within(farm, caps, found, rows, standing, row) -/
def b_caps_places_within : MSs := (.cons (.par2 2 3 (.cell .nil) (.call 302 (.cons (.slot 1) .nil))) (.cons (.fors (.nm 4) (.rng (.ix (.slot 0) (.cst (.int 1)))) (.cons (.ex (.mt .extend (.slot 2) (.cons (.comp false (.nm 5) (.it (.slot 3)) .no (.tup (.cons (.slot 4) (.cons (.slot 5) .nil))) [5]) .nil))) .nil)) (.cons (.ret (.frz (.slot 2))) .nil)))
/-- how_many_places(farm, caps, found, cap) -/
def b_caps_how_many_places : MSs := (.cons (.set 2 (.ix (.slot 0) (.cst (.int 1)))) (.cons (.fors (.nm 3) (.it (.slot 1)) (.cons (.set 2 (.bin .mul (.slot 2) (.bin .add (.slot 3) (.cst (.int 1))))) .nil)) (.cons (.ret (.slot 2)) .nil)))
/-- cut(caps, row, number, cap) -/
def b_caps_cut : MSs := (.cons (.ret (.bi .tuple (.cons (.comp false (.tp (.cons (.nm 2) (.cons (.nm 3) .nil))) (.zip2 (.slot 1) (.slot 0)) .no (.bi .min2 (.cons (.slot 2) (.cons (.slot 3) .nil))) [2, 3]) .nil))) .nil)
/-- capped_by(farm, caps, place, step) -/
def b_caps_capped_by : MSs := (.cons (.ret (.tup (.cons (.ix (.ix (.ix (.slot 0) (.cst (.int 3))) (.slot 3)) (.cst (.int 2))) (.cons (.call 305 (.cons (.slot 1) (.cons (.call 297 (.cons (.ix (.slot 2) (.cst (.int 1))) (.cons (.ix (.ix (.ix (.slot 0) (.cst (.int 3))) (.slot 3)) (.cst (.int 4))) .nil))) .nil))) .nil)))) .nil)
/-- nexts_of(farm, caps, places, spots, at, place, step) -/
def b_caps_nexts_of : MSs := (.cons (.set 3 (.dcomp false (.tp (.cons (.nm 4) (.cons (.nm 5) .nil))) (.enu (.slot 2)) .no (.slot 5) (.slot 4) [4, 5])) (.cons (.ret (.comp false (.nm 5) (.it (.slot 2)) .no (.comp false (.nm 6) (.it (.frz (.call 299 (.cons (.slot 0) (.cons (.slot 5) .nil))))) .no (.tup (.cons (.slot 6) (.cons (.ix (.slot 3) (.call 306 (.cons (.slot 0) (.cons (.slot 1) (.cons (.slot 5) (.cons (.slot 6) .nil)))))) .nil))) [6]) [5])) .nil))
/-- ranks_by(nexts, left, heads, at, some, step, there, found, line, turn, here, many) -/
def b_caps_ranks_by : MSs := (.cons (.set 1 (.comp true (.nm 4) (.it (.slot 0)) .no (.bi .len (.cons (.slot 4) .nil)) [4])) (.cons (.set 2 (.comp false (.nm 4) (.it (.slot 0)) .no (.cell .nil) [4])) (.cons (.fors (.tp (.cons (.nm 3) (.cons (.nm 4) .nil))) (.enu (.slot 0)) (.cons (.fors (.tp (.cons (.nm 5) (.cons (.nm 6) .nil))) (.it (.slot 4)) (.cons (.ex (.mt .append (.ix (.slot 2) (.slot 6)) (.cons (.slot 3) .nil))) .nil)) .nil)) (.cons (.set 7 (.binc .mul (.lst (.cons (.cst .non) .nil)) (.bi .len (.cons (.slot 0) .nil)))) (.cons (.par2 8 9 (.comp true (.tp (.cons (.nm 3) (.cons (.nm 11) .nil))) (.lve (.slot 1)) (.so (.cmp .eq (.slot 11) (.cst (.int 0)))) (.slot 3) [3, 11]) (.cst (.int 0))) (.cons (.whl (.cmp .lt (.slot 9) (.bi .len (.cons (.slot 8) .nil))) (.cons (.set 10 (.ix (.slot 8) (.slot 9))) (.cons (.aug 9 .add (.cst (.int 1))) (.cons (.asg (.sub (.slot 7) (.slot 10)) (.bi .max2 (.cons (.bin .add (.lst (.cons (.cst (.int 0)) .nil)) (.comp false (.tp (.cons (.nm 5) (.cons (.nm 6) .nil))) (.it (.ix (.slot 0) (.slot 10))) .no (.bin .add (.ix (.slot 7) (.slot 6)) (.cst (.int 1))) [5, 6])) .nil))) (.cons (.fors (.nm 3) (.it (.frz (.ix (.slot 2) (.slot 10)))) (.cons (.augS (.slot 1) (.slot 3) .sub (.cst (.int 1))) (.cons (.ifs (.cmp .eq (.ix (.slot 1) (.slot 3)) (.cst (.int 0))) (.cons (.ex (.mt .append (.slot 8) (.cons (.slot 3) .nil))) .nil) .nil) .nil))) .nil))))) (.cons (.gfrz 1) (.cons (.gfrz 8) (.cons (.ret (.slot 7)) .nil)))))))))
/-- web_of(farm, caps, places, nexts) -/
def b_caps_web_of : MSs := (.cons (.set 2 (.call 303 (.cons (.slot 0) (.cons (.slot 1) .nil)))) (.cons (.set 3 (.call 307 (.cons (.slot 0) (.cons (.slot 1) (.cons (.slot 2) .nil))))) (.cons (.ret (.tup (.cons (.slot 2) (.cons (.slot 3) (.cons (.call 308 (.cons (.slot 3) .nil)) .nil))))) .nil)))
/-- capped_along(farm, caps, place, way, found, step) -/
def b_caps_capped_along : MSs := (.cons (.set 4 (.cell (.cons (.slot 2) .nil))) (.cons (.fors (.nm 5) (.it (.slot 3)) (.cons (.ifs (.no (.call 298 (.cons (.slot 0) (.cons (.ix (.slot 4) (.neg (.cst (.int 1)))) (.cons (.slot 5) .nil))))) (.cons (.ret (.cst .non)) .nil) .nil) (.cons (.ex (.mt .append (.slot 4) (.cons (.call 306 (.cons (.slot 0) (.cons (.slot 1) (.cons (.ix (.slot 4) (.neg (.cst (.int 1)))) (.cons (.slot 5) .nil))))) .nil))) .nil))) (.cons (.ret (.frz (.slot 4))) .nil)))
/-- caps_are_right(farm, value, cap) -/
def b_caps_caps_are_right : MSs := (.cons (.ifs (.or (.no (.isi (.slot 1) [.tup])) (.cmp .ne (.bi .len (.cons (.slot 1) .nil)) (.ix (.slot 0) (.cst (.int 2))))) (.cons (.ret (.cst (.bl false))) .nil) .nil) (.cons (.ret (.bi .all (.cons (.comp false (.nm 2) (.it (.slot 1)) .no (.and (.call 3 (.cons (.slot 2) .nil)) (.cmp .le (.slot 2) (.cst (.int 9)))) [2]) .nil))) .nil))
/-- row_is_within(caps, value, number, cap) -/
def b_caps_row_is_within : MSs := (.cons (.ifs (.or (.no (.isi (.slot 1) [.tup])) (.cmp .ne (.bi .len (.cons (.slot 1) .nil)) (.bi .len (.cons (.slot 0) .nil)))) (.cons (.ret (.cst (.bl false))) .nil) .nil) (.cons (.ret (.bi .all (.cons (.comp false (.tp (.cons (.nm 2) (.cons (.nm 3) .nil))) (.zip2 (.slot 1) (.slot 0)) .no (.and (.call 3 (.cons (.slot 2) .nil)) (.cmp .le (.slot 2) (.slot 3))) [2, 3]) .nil))) .nil))
/-- here_is_right(farm, caps, value) -/
def b_caps_here_is_right : MSs := (.cons (.ifs (.or (.no (.isi (.slot 2) [.tup])) (.or (.cmp .ne (.bi .len (.cons (.slot 2) .nil)) (.cst (.int 2))) (.no (.call 4 (.cons (.ix (.slot 2) (.cst (.int 0))) (.cons (.ix (.slot 0) (.cst (.int 1))) .nil)))))) (.cons (.ret (.cst (.bl false))) .nil) .nil) (.cons (.ret (.call 312 (.cons (.slot 1) (.cons (.ix (.slot 2) (.cst (.int 1))) .nil)))) .nil))
/-- rank_is_right(ranks, rank, some, step, there) -/
def b_caps_rank_is_right : MSs := (.cons (.ifs (.cmp .is (.slot 1) (.cst .non)) (.cons (.ret (.bi .any (.cons (.comp false (.tp (.cons (.nm 3) (.cons (.nm 4) .nil))) (.it (.slot 2)) .no (.cmp .is (.ix (.slot 0) (.slot 4)) (.cst .non)) [3, 4]) .nil))) .nil) .nil) (.cons (.ret (.bi .all (.cons (.comp false (.tp (.cons (.nm 3) (.cons (.nm 4) .nil))) (.it (.slot 2)) .no (.and (.cmp .isnt (.ix (.slot 0) (.slot 4)) (.cst .non)) (.cmp .lt (.ix (.slot 0) (.slot 4)) (.slot 1))) [3, 4]) .nil))) .nil))
/-- ranks_are_right(value, nexts, rank, some) -/
def b_caps_ranks_are_right : MSs := (.cons (.ifs (.or (.no (.call 1 (.cons (.slot 0) .nil))) (.cmp .ne (.bi .len (.cons (.slot 0) .nil)) (.bi .len (.cons (.slot 1) .nil)))) (.cons (.ret (.cst (.bl false))) .nil) .nil) (.cons (.ifs (.no (.bi .all (.cons (.comp false (.nm 2) (.it (.slot 0)) .no (.or (.cmp .is (.slot 2) (.cst .non)) (.call 3 (.cons (.slot 2) .nil))) [2]) .nil))) (.cons (.ret (.cst (.bl false))) .nil) .nil) (.cons (.ret (.bi .all (.cons (.comp false (.tp (.cons (.nm 2) (.cons (.nm 3) .nil))) (.zip2 (.slot 0) (.slot 1)) .no (.call 314 (.cons (.slot 0) (.cons (.slot 2) (.cons (.slot 3) .nil)))) [2, 3]) .nil))) .nil)))
/-- check_caps(farm, caps) -/
def b_caps_check_caps : MSs := (.cons (.ex (.call 295 (.cons (.slot 0) .nil))) (.cons (.ifs (.no (.call 311 (.cons (.slot 0) (.cons (.slot 1) .nil)))) (.cons .never .nil) .nil) .nil))
/-- check_here(farm, caps, here) -/
def b_caps_check_here : MSs := (.cons (.ex (.call 316 (.cons (.slot 0) (.cons (.slot 1) .nil)))) (.cons (.ifs (.no (.call 313 (.cons (.slot 0) (.cons (.slot 1) (.cons (.slot 2) .nil))))) (.cons .never .nil) .nil) .nil))
/-- check_few(farm, caps, most) -/
def b_caps_check_few : MSs := (.cons (.ifs (.cmp .gt (.call 304 (.cons (.slot 0) (.cons (.slot 1) .nil))) (.slot 2)) (.cons .never .nil) .nil) .nil)
/-- places(farm, caps) -/
def b_caps_places : MSs := (.cons (.ex (.call 316 (.cons (.slot 0) (.cons (.slot 1) .nil)))) (.cons (.ex (.call 318 (.cons (.slot 0) (.cons (.slot 1) (.cons (.cst (.int 600)) .nil))))) (.cons (.ret (.call 303 (.cons (.slot 0) (.cons (.slot 1) .nil)))) .nil)))
/-- led_capped(farm, caps, here, step) -/
def b_caps_led_capped : MSs := (.cons (.ex (.call 317 (.cons (.slot 0) (.cons (.slot 1) (.cons (.slot 2) .nil))))) (.cons (.ex (.call 296 (.cons (.slot 0) (.cons (.slot 3) .nil)))) (.cons (.ex (.call 318 (.cons (.slot 0) (.cons (.slot 1) (.cons (.cst (.int 600)) .nil))))) (.cons (.ret (.ife (.call 298 (.cons (.slot 0) (.cons (.slot 2) (.cons (.slot 3) .nil)))) (.call 306 (.cons (.slot 0) (.cons (.slot 1) (.cons (.slot 2) (.cons (.slot 3) .nil))))) (.cst .non))) .nil))))
/-- is_capped_run(farm, caps, here, way) -/
def b_caps_is_capped_run : MSs := (.cons (.ret (.cmp .isnt (.call 322 (.cons (.slot 0) (.cons (.slot 1) (.cons (.slot 2) (.cons (.slot 3) .nil))))) (.cst .non))) .nil)
/-- capped_places(farm, caps, here, way) -/
def b_caps_capped_places : MSs := (.cons (.ex (.call 317 (.cons (.slot 0) (.cons (.slot 1) (.cons (.slot 2) .nil))))) (.cons (.ex (.call 301 (.cons (.slot 0) (.cons (.slot 3) .nil)))) (.cons (.ex (.call 318 (.cons (.slot 0) (.cons (.slot 1) (.cons (.cst (.int 600)) .nil))))) (.cons (.ret (.call 310 (.cons (.slot 0) (.cons (.slot 1) (.cons (.slot 2) (.cons (.slot 3) .nil)))))) .nil))))
/-- lasting(farm, caps, some, nexts, own, place, rank) -/
def b_caps_lasting : MSs := (.cons (.ex (.call 316 (.cons (.slot 0) (.cons (.slot 1) .nil)))) (.cons (.ex (.call 318 (.cons (.slot 0) (.cons (.slot 1) (.cons (.cst (.int 600)) .nil))))) (.cons (.asg (.tp (.cons (.nm 2) (.cons (.nm 3) (.cons (.nm 4) .nil)))) (.call 309 (.cons (.slot 0) (.cons (.slot 1) .nil)))) (.cons (.ret (.comp false (.tp (.cons (.nm 5) (.cons (.nm 6) .nil))) (.zip2 (.slot 2) (.frz (.slot 4))) (.so (.cmp .is (.slot 6) (.cst .non))) (.slot 5) [5, 6])) .nil))))
/-- ranks(farm, caps) -/
def b_caps_ranks : MSs := (.cons (.ex (.call 316 (.cons (.slot 0) (.cons (.slot 1) .nil)))) (.cons (.ex (.call 318 (.cons (.slot 0) (.cons (.slot 1) (.cons (.cst (.int 600)) .nil))))) (.cons (.ret (.ix (.call 309 (.cons (.slot 0) (.cons (.slot 1) .nil))) (.cst (.int 2)))) .nil)))
/-- are_ranks(farm, caps, value) -/
def b_caps_are_ranks : MSs := (.cons (.ex (.call 316 (.cons (.slot 0) (.cons (.slot 1) .nil)))) (.cons (.ex (.call 318 (.cons (.slot 0) (.cons (.slot 1) (.cons (.cst (.int 600)) .nil))))) (.cons (.ret (.call 315 (.cons (.slot 2) (.cons (.call 307 (.cons (.slot 0) (.cons (.slot 1) (.cons (.call 303 (.cons (.slot 0) (.cons (.slot 1) .nil))) .nil)))) .nil)))) .nil)))
/-- _law_pot(script, k, cell, mixed) -/
def b__law_pot : MSs := (.cons (.set 2 (.ife (.cmp .lt (.slot 1) (.bi .len (.cons (.slot 0) .nil))) (.bi .abs (.cons (.ix (.slot 0) (.slot 1)) .nil)) (.bin .add (.bin .mul (.cst (.int 887)) (.slot 1)) (.cst (.int 219))))) (.cons (.set 3 (.bin .add (.bin .mod (.bi .int (.cons (.bin .add (.bin .add (.bin .mul (.bin .mod (.bi .int (.cons (.slot 2) .nil)) (.cst (.int 2147483549))) (.cst (.int 40692))) (.bin .mul (.cst (.int 4909)) (.slot 1))) (.cst (.int 137))) .nil)) (.cst (.int 2147483563))) (.cst (.int 1)))) (.cons (.ret (.cell (.cons (.bi .max2 (.cons (.cst (.int 0)) (.cons (.bin .sub (.slot 2) (.bin .pow (.cst (.int 10)) (.cst (.int 18)))) .nil))) (.cons (.slot 3) .nil)))) .nil)))
/-- _law_draw(pot, many, digit) -/
def b__law_draw : MSs := (.cons (.ifs (.cmp .gt (.ix (.slot 0) (.cst (.int 0))) (.cst (.int 0))) (.cons (.asg (.tp (.cons (.sub (.slot 0) (.cst (.int 0))) (.cons (.nm 2) .nil))) (.bi .divmod (.cons (.ix (.slot 0) (.cst (.int 0))) (.cons (.slot 1) .nil)))) (.cons (.ret (.slot 2)) .nil)) .nil) (.cons (.asg (.sub (.slot 0) (.cst (.int 1))) (.bin .mod (.bi .int (.cons (.bin .add (.bin .mul (.ix (.slot 0) (.cst (.int 1))) (.cst (.int 40692))) (.cst (.int 4909))) .nil)) (.cst (.int 2147483587)))) (.cons (.ret (.bin .mod (.bi .int (.cons (.bin .fdiv (.bin .mod (.bi .int (.cons (.bin .mul (.ix (.slot 0) (.cst (.int 1))) (.ix (.slot 0) (.cst (.int 1)))) .nil)) (.cst (.int 2147483563))) (.cst (.int 19))) .nil)) (.slot 1))) .nil)))
/-- _law_pick(pot, some) -/
def b__law_pick : MSs := (.cons (.ret (.ix (.slot 1) (.call 38 (.cons (.slot 0) (.cons (.bi .len (.cons (.slot 1) .nil)) .nil))))) .nil)
/-- _law_step(pot, standings, stocks, most, effects, wants, stock, effect) -/
def b__law_step : MSs := (.cons (.set 4 (.bi .tuple (.cons (.comp false (.nm 6) (.rng (.slot 2)) .no (.bin .sub (.call 38 (.cons (.slot 0) (.cons (.bin .add (.bin .mul (.cst (.int 2)) (.slot 3)) (.cst (.int 1))) .nil))) (.slot 3)) [6]) .nil))) (.cons (.set 5 (.bi .tuple (.cons (.comp false (.nm 7) (.it (.slot 4)) .no (.bin .add (.bi .max2 (.cons (.cst (.int 0)) (.cons (.bin .sub (.cst (.int 0)) (.slot 7)) .nil))) (.bi .int (.cons (.cmp .eq (.call 38 (.cons (.slot 0) (.cons (.cst (.int 5)) .nil))) (.cst (.int 0))) .nil))) [7]) .nil))) (.cons (.ret (.tup (.cons (.cst (.str "step")) (.cons (.call 38 (.cons (.slot 0) (.cons (.slot 1) .nil))) (.cons (.call 38 (.cons (.slot 0) (.cons (.slot 1) .nil))) (.cons (.slot 5) (.cons (.slot 4) (.cons (.call 38 (.cons (.slot 0) (.cons (.cst (.int 7)) .nil))) .nil)))))))) .nil)))
/-- _law_farm(pot, standings, stocks, many, most, step) -/
def b__law_farm : MSs := (.cons (.ret (.tup (.cons (.cst (.str "farm")) (.cons (.slot 1) (.cons (.slot 2) (.cons (.bi .tuple (.cons (.comp false (.nm 5) (.rng (.slot 3)) .no (.call 123 (.cons (.slot 0) (.cons (.slot 1) (.cons (.slot 2) (.cons (.slot 4) .nil))))) [5]) .nil)) .nil)))))) .nil)
/-- _law_ring_farm(pot, standings, stocks, many, most, found, standing, step) -/
def b__law_ring_farm : MSs := (.cons (.set 5 (.cell .nil)) (.cons (.fors (.nm 6) (.rng (.slot 1)) (.cons (.set 7 (.call 123 (.cons (.slot 0) (.cons (.slot 1) (.cons (.slot 2) (.cons (.slot 4) .nil)))))) (.cons (.ex (.mt .append (.slot 5) (.cons (.bin .add (.bin .add (.sl (.slot 7) .no (.so (.cst (.int 1)))) (.tup (.cons (.slot 6) (.cons (.bin .mod (.bin .add (.slot 6) (.cst (.int 1))) (.slot 1)) .nil)))) (.sl (.slot 7) (.so (.cst (.int 3))) .no)) .nil))) .nil))) (.cons (.ex (.mt .extend (.slot 5) (.cons (.comp false (.nm 7) (.rng (.slot 3)) .no (.call 123 (.cons (.slot 0) (.cons (.slot 1) (.cons (.slot 2) (.cons (.slot 4) .nil))))) [7]) .nil))) (.cons (.gfrz 5) (.cons (.ret (.tup (.cons (.cst (.str "farm")) (.cons (.slot 1) (.cons (.slot 2) (.cons (.bi .tuple (.cons (.slot 5) .nil)) .nil)))))) .nil)))))
/-- _law_rows(caps, found, cap, later, row, number) -/
def b__law_rows : MSs := (.cons (.set 1 (.lst (.cons (.tup .nil) .nil))) (.cons (.fors (.nm 2) (.it (.slot 0)) (.cons (.set 3 (.cell .nil)) (.cons (.fors (.nm 4) (.it (.slot 1)) (.cons (.ex (.mt .extend (.slot 3) (.cons (.comp false (.nm 5) (.rng (.bin .add (.slot 2) (.cst (.int 1)))) .no (.bin .add (.slot 4) (.tup (.cons (.slot 5) .nil))) [5]) .nil))) .nil)) (.cons (.gfrz 3) (.cons (.set 1 (.frz (.slot 3))) .nil))))) (.cons (.ret (.slot 1)) .nil)))
/-- _law_places(farm, caps, rows, found, standing, row) -/
def b__law_places : MSs := (.cons (.par2 2 3 (.call 163 (.cons (.slot 1) .nil)) (.cell .nil)) (.cons (.fors (.nm 4) (.rng (.ix (.slot 0) (.cst (.int 1)))) (.cons (.ex (.mt .extend (.slot 3) (.cons (.comp false (.nm 5) (.it (.slot 2)) .no (.tup (.cons (.slot 4) (.cons (.slot 5) .nil))) [5]) .nil))) .nil)) (.cons (.ret (.frz (.slot 3))) .nil)))
/-- _law_led(farm, caps, here, step, standing, row, word, start, goal, wants, effects, more, number, want, cap, effect) -/
def b__law_led : MSs := (.cons (.asg (.tp (.cons (.nm 4) (.cons (.nm 5) .nil))) (.slot 2)) (.cons (.asg (.tp (.cons (.nm 6) (.cons (.nm 7) (.cons (.nm 8) (.cons (.nm 9) (.cons (.nm 10) (.cons (.nm 11) .nil))))))) (.ix (.ix (.slot 0) (.cst (.int 3))) (.slot 3))) (.cons (.ifs (.or (.cmp .ne (.slot 7) (.slot 4)) (.bi .any (.cons (.comp false (.tp (.cons (.nm 12) (.cons (.nm 13) .nil))) (.zip2 (.slot 5) (.slot 9)) .no (.cmp .lt (.slot 12) (.slot 13)) [12, 13]) .nil))) (.cons (.ret (.cst .non)) .nil) .nil) (.cons (.ret (.tup (.cons (.slot 8) (.cons (.bi .tuple (.cons (.comp false (.tp (.cons (.nm 14) (.cons (.nm 12) (.cons (.nm 15) .nil)))) (.zip3 (.slot 1) (.slot 5) (.slot 10)) .no (.bi .min2 (.cons (.slot 14) (.cons (.bin .add (.slot 12) (.slot 15)) .nil))) [14, 12, 15]) .nil)) .nil)))) .nil))))
/-- _law_next(farm, caps, here, found, step, place) -/
def b__law_next : MSs := (.cons (.set 3 (.comp false (.nm 4) (.rng (.bi .len (.cons (.ix (.slot 0) (.cst (.int 3))) .nil))) .no (.tup (.cons (.slot 4) (.cons (.call 164 (.cons (.slot 0) (.cons (.slot 1) (.cons (.slot 2) (.cons (.slot 4) .nil))))) .nil))) [4])) (.cons (.ret (.comp false (.tp (.cons (.nm 4) (.cons (.nm 5) .nil))) (.it (.slot 3)) (.so (.cmp .isnt (.slot 5) (.cst .non))) (.tup (.cons (.slot 4) (.cons (.slot 5) .nil))) [4, 5])) .nil))
/-- _law_ranks(farm, caps, every, found, turn, place, some, step, there) -/
def b__law_ranks : MSs := (.cons (.set 2 (.call 43 (.cons (.slot 0) (.cons (.slot 1) .nil)))) (.cons (.set 3 .dic0) (.cons (.fors (.nm 4) (.rng (.bin .add (.bi .len (.cons (.slot 2) .nil)) (.cst (.int 1)))) (.cons (.fors (.nm 5) (.it (.slot 2)) (.cons (.set 6 (.comp false (.tp (.cons (.nm 7) (.cons (.nm 8) .nil))) (.it (.frz (.call 165 (.cons (.slot 0) (.cons (.slot 1) (.cons (.slot 5) .nil)))))) .no (.slot 8) [7, 8])) (.cons (.ifs (.and (.cmp .notin (.slot 5) (.slot 3)) (.bi .all (.cons (.comp false (.nm 8) (.it (.slot 6)) .no (.cmp .isin (.slot 8) (.slot 3)) [8]) .nil))) (.cons (.asg (.sub (.slot 3) (.slot 5)) (.bi .max2 (.cons (.bin .add (.lst (.cons (.cst (.int 0)) .nil)) (.comp false (.nm 8) (.it (.slot 6)) .no (.bin .add (.ix (.slot 3) (.slot 8)) (.cst (.int 1))) [8])) .nil))) .nil) .nil) .nil))) .nil)) (.cons (.gfrz 3) (.cons (.ret (.comp false (.nm 5) (.it (.slot 2)) .no (.dget (.slot 3) (.slot 5)) [5])) .nil)))))
/-- _law_drawn(pot, way, standings, stocks, farm, stock) -/
def b__law_drawn : MSs := (.cons (.par2 2 3 (.bin .add (.cst (.int 1)) (.call 38 (.cons (.slot 0) (.cons (.cst (.int 3)) .nil)))) (.bin .add (.cst (.int 1)) (.call 38 (.cons (.slot 0) (.cons (.cst (.int 2)) .nil))))) (.cons (.ifs (.cmp .eq (.slot 1) (.cst (.int 0))) (.cons (.set 4 (.call 161 (.cons (.slot 0) (.cons (.slot 2) (.cons (.slot 3) (.cons (.bin .add (.cst (.int 2)) (.call 38 (.cons (.slot 0) (.cons (.cst (.int 5)) .nil)))) (.cons (.cst (.int 3)) .nil))))))) .nil) (.cons (.set 4 (.call 162 (.cons (.slot 0) (.cons (.slot 2) (.cons (.slot 3) (.cons (.call 38 (.cons (.slot 0) (.cons (.cst (.int 3)) .nil))) (.cons (.cst (.int 3)) .nil))))))) .nil)) (.cons (.ret (.tup (.cons (.slot 4) (.cons (.bi .tuple (.cons (.comp false (.nm 5) (.rng (.slot 3)) .no (.call 38 (.cons (.slot 0) (.cons (.cst (.int 5)) .nil))) [5]) .nil)) .nil)))) .nil)))
/-- _law_are_ranks(farm, caps, value, every, one, place, rank, some, step, there) -/
def b__law_are_ranks : MSs := (.cons (.set 3 (.call 43 (.cons (.slot 0) (.cons (.slot 1) .nil)))) (.cons (.ifs (.or (.no (.isi (.slot 2) [.lst, .tup])) (.cmp .ne (.bi .len (.cons (.slot 2) .nil)) (.bi .len (.cons (.slot 3) .nil)))) (.cons (.ret (.cst (.bl false))) .nil) .nil) (.cons (.fors (.nm 4) (.it (.slot 2)) (.cons (.ifs (.and (.cmp .isnt (.slot 4) (.cst .non)) (.or (.isi (.slot 4) [.bl]) (.or (.no (.isi (.slot 4) [.int])) (.cmp .lt (.slot 4) (.cst (.int 0)))))) (.cons (.ret (.cst (.bl false))) .nil) .nil) .nil)) (.cons (.fors (.tp (.cons (.nm 5) (.cons (.nm 6) .nil))) (.zip2 (.slot 3) (.slot 2)) (.cons (.set 7 (.comp false (.tp (.cons (.nm 8) (.cons (.nm 9) .nil))) (.it (.frz (.call 165 (.cons (.slot 0) (.cons (.slot 1) (.cons (.slot 5) .nil)))))) .no (.ix (.slot 2) (.mt .index (.slot 3) (.cons (.slot 9) .nil))) [8, 9])) (.cons (.ifs (.or (.and (.cmp .is (.slot 6) (.cst .non)) (.cmp .notin (.cst .non) (.slot 7))) (.and (.cmp .isnt (.slot 6) (.cst .non)) (.bi .any (.cons (.comp false (.nm 4) (.it (.slot 7)) .no (.or (.cmp .is (.slot 4) (.cst .non)) (.cmp .ge (.slot 4) (.slot 6))) [4]) .nil)))) (.cons (.ret (.cst (.bl false))) .nil) .nil) .nil))) (.cons (.ret (.cst (.bl true))) .nil)))))
/-- _law_run_right(pot, farm, caps, every, here, way, came, at, turn, some, step, told, due, more, fits) -/
def b__law_run_right : MSs := (.cons (.set 4 (.call 39 (.cons (.slot 0) (.cons (.slot 3) .nil)))) (.cons (.par3 5 6 7 (.cell .nil) (.cell (.cons (.slot 4) .nil)) (.slot 4)) (.cons (.fors (.nm 8) (.rng (.call 38 (.cons (.slot 0) (.cons (.cst (.int 6)) .nil)))) (.cons (.set 9 (.call 165 (.cons (.slot 1) (.cons (.slot 2) (.cons (.slot 7) .nil))))) (.cons (.ifs (.cmp .ne (.slot 9) (.lst .nil)) (.cons (.asg (.tp (.cons (.nm 10) (.cons (.nm 7) .nil))) (.call 39 (.cons (.slot 0) (.cons (.slot 9) .nil)))) (.cons (.ex (.mt .append (.slot 5) (.cons (.slot 10) .nil))) (.cons (.ex (.mt .append (.slot 6) (.cons (.slot 7) .nil))) .nil))) .nil) .nil))) (.cons (.gfrz 6) (.cons (.gfrz 5) (.cons (.set 11 (.lst (.cons (.call 321 (.cons (.slot 1) (.cons (.slot 2) (.cons (.slot 4) (.cons (.bi .tuple (.cons (.slot 5) .nil)) .nil))))) (.cons (.call 322 (.cons (.slot 1) (.cons (.slot 2) (.cons (.slot 4) (.cons (.bi .tuple (.cons (.slot 5) .nil)) .nil))))) .nil)))) (.cons (.ifs (.cmp .ne (.bi .repr (.cons (.slot 11) .nil)) (.bi .repr (.cons (.lst (.cons (.cst (.bl true)) (.cons (.slot 6) .nil))) .nil))) (.cons (.ret (.cst (.bl false))) .nil) .nil) (.cons (.ifs (.cmp .eq (.bi .len (.cons (.ix (.slot 1) (.cst (.int 3))) .nil)) (.cst (.int 0))) (.cons (.ret (.cst (.bl true))) .nil) .nil) (.cons (.set 10 (.call 38 (.cons (.slot 0) (.cons (.bi .len (.cons (.ix (.slot 1) (.cst (.int 3))) .nil)) .nil)))) (.cons (.set 12 (.call 164 (.cons (.slot 1) (.cons (.slot 2) (.cons (.slot 4) (.cons (.slot 10) .nil)))))) (.cons (.ifs (.cmp .ne (.bi .repr (.cons (.lst (.cons (.call 320 (.cons (.slot 1) (.cons (.slot 2) (.cons (.slot 4) (.cons (.slot 10) .nil))))) (.cons (.callK 320 (.cons (.slot 10) (.cons (.slot 4) (.cons (.slot 2) (.cons (.slot 1) .nil)))) [3, 2, 1, 0]) .nil))) .nil)) (.bi .repr (.cons (.lst (.cons (.slot 12) (.cons (.slot 12) .nil))) .nil))) (.cons (.ret (.cst (.bl false))) .nil) .nil) (.cons (.set 13 (.bin .add (.bi .tuple (.cons (.slot 5) .nil)) (.tup (.cons (.slot 10) .nil)))) (.cons (.set 14 (.call 164 (.cons (.slot 1) (.cons (.slot 2) (.cons (.slot 7) (.cons (.slot 10) .nil)))))) (.cons (.ifs (.cmp .ne (.ix (.ix (.ix (.slot 1) (.cst (.int 3))) (.slot 10)) (.cst (.int 1))) (.ix (.slot 7) (.cst (.int 0)))) (.cons (.ret (.cst (.bl true))) .nil) .nil) (.cons (.ret (.cmp .eq (.bi .repr (.cons (.callK 321 (.cons (.slot 13) (.cons (.slot 4) (.cons (.slot 2) (.cons (.slot 1) .nil)))) [3, 2, 1, 0]) .nil)) (.bi .repr (.cons (.cmp .isnt (.slot 14) (.cst .non)) .nil)))) .nil)))))))))))))))
/-- _law_one_right(pot, farm, caps, shown, every, due, open_ones, told, at, some, value, says, place, rank, one) -/
def b__law_one_right : MSs := (.cons (.par2 3 4 (.bi .repr (.cons (.lst (.cons (.slot 1) (.cons (.slot 2) .nil))) .nil)) (.call 43 (.cons (.slot 1) (.cons (.slot 2) .nil)))) (.cons (.set 5 (.call 166 (.cons (.slot 1) (.cons (.slot 2) .nil)))) (.cons (.set 6 (.comp false (.tp (.cons (.nm 12) (.cons (.nm 13) .nil))) (.zip2 (.slot 4) (.slot 5)) (.so (.cmp .is (.slot 13) (.cst .non))) (.slot 12) [12, 13])) (.cons (.set 7 (.lst (.cons (.call 319 (.cons (.slot 1) (.cons (.slot 2) .nil))) (.cons (.call 324 (.cons (.slot 1) (.cons (.slot 2) .nil))) (.cons (.call 323 (.cons (.slot 1) (.cons (.slot 2) .nil))) (.cons (.callK 324 (.cons (.slot 2) (.cons (.slot 1) .nil)) [1, 0]) .nil)))))) (.cons (.ifs (.cmp .ne (.bi .repr (.cons (.slot 7) .nil)) (.bi .repr (.cons (.lst (.cons (.slot 4) (.cons (.slot 5) (.cons (.slot 6) (.cons (.slot 5) .nil))))) .nil))) (.cons (.ret (.cst (.bl false))) .nil) .nil) (.cons (.ex (.mt .append (.ix (.slot 7) (.cst (.int 1))) (.cons (.cst .non) .nil))) (.cons (.ifs (.cmp .ne (.bi .repr (.cons (.call 324 (.cons (.slot 1) (.cons (.slot 2) .nil))) .nil)) (.bi .repr (.cons (.slot 5) .nil))) (.cons (.ret (.cst (.bl false))) .nil) .nil) (.cons (.set 8 (.call 38 (.cons (.slot 0) (.cons (.bi .len (.cons (.slot 4) .nil)) .nil)))) (.cons (.set 9 (.cell (.cons (.slot 5) (.cons (.bi .tuple (.cons (.slot 5) .nil)) (.cons (.sl (.slot 5) .no (.so (.neg (.cst (.int 1))))) (.cons (.bin .add (.slot 5) (.lst (.cons (.cst (.int 0)) .nil))) (.cons (.comp false (.nm 14) (.it (.slot 5)) .no (.ife (.cmp .is (.slot 14) (.cst .non)) (.cst .non) (.bin .add (.slot 14) (.cst (.int 1)))) [14]) (.cons (.cst .non) (.cons (.bin .mul (.lst (.cons (.cst (.int 0)) .nil)) (.bi .len (.cons (.slot 5) .nil))) (.cons (.bin .mul (.lst (.cons (.cst .non) .nil)) (.bi .len (.cons (.slot 5) .nil))) .nil)))))))))) (.cons (.ex (.mt .append (.slot 9) (.cons (.comp false (.tp (.cons (.nm 12) (.cons (.nm 14) .nil))) (.enu (.slot 5)) .no (.ife (.cmp .ne (.slot 12) (.slot 8)) (.slot 14) (.ife (.cmp .is (.slot 14) (.cst .non)) (.cst (.int 5)) (.cst .non))) [12, 14]) .nil))) (.cons (.ex (.mt .append (.slot 9) (.cons (.comp false (.tp (.cons (.nm 12) (.cons (.nm 14) .nil))) (.enu (.slot 5)) .no (.ife (.or (.cmp .ne (.slot 12) (.slot 8)) (.cmp .is (.slot 14) (.cst .non))) (.slot 14) (.bin .add (.slot 14) (.cst (.int 3)))) [12, 14]) .nil))) (.cons (.ex (.mt .append (.slot 9) (.cons (.comp false (.tp (.cons (.nm 12) (.cons (.nm 14) .nil))) (.enu (.slot 5)) .no (.ife (.cmp .ne (.slot 12) (.slot 8)) (.slot 14) (.cst (.bl true))) [12, 14]) .nil))) (.cons (.gfrz 9) (.cons (.fors (.nm 10) (.it (.slot 9)) (.cons (.set 11 (.call 50 (.cons (.slot 1) (.cons (.slot 2) (.cons (.slot 10) .nil))))) (.cons (.ifs (.cmp .ne (.bi .repr (.cons (.lst (.cons (.call 325 (.cons (.slot 1) (.cons (.slot 2) (.cons (.slot 10) .nil)))) (.cons (.callK 325 (.cons (.slot 10) (.cons (.slot 2) (.cons (.slot 1) .nil))) [2, 1, 0]) .nil))) .nil)) (.bi .repr (.cons (.lst (.cons (.slot 11) (.cons (.slot 11) .nil))) .nil))) (.cons (.ret (.cst (.bl false))) .nil) .nil) .nil))) (.cons (.ret (.and (.call 168 (.cons (.slot 0) (.cons (.slot 1) (.cons (.slot 2) (.cons (.slot 4) .nil))))) (.cmp .eq (.bi .repr (.cons (.lst (.cons (.slot 1) (.cons (.slot 2) .nil))) .nil)) (.slot 3)))) .nil)))))))))))))))
/-- law(script, pot, late, way, farm, caps) -/
def b_law : MSs := (.cons (.par2 1 2 (.call 37 (.cons (.slot 0) (.cons (.cst (.int 0)) .nil))) (.call 37 (.cons (.slot 0) (.cons (.cst (.int 1)) .nil)))) (.cons (.fors (.nm 3) (.rng (.cst (.int 4))) (.cons (.asg (.tp (.cons (.nm 4) (.cons (.nm 5) .nil))) (.call 167 (.cons (.slot 1) (.cons (.bin .mod (.slot 3) (.cst (.int 2))) .nil)))) (.cons (.ifs (.no (.call 169 (.cons (.slot 2) (.cons (.slot 4) (.cons (.slot 5) .nil))))) (.cons (.ret (.cst (.bl false))) .nil) .nil) .nil))) (.cons (.ret (.cst (.bl true))) .nil)))
def d_is_list : Dd := ⟨1, "is_list", "is_list", 1, ["value"], ["value"], b_is_list⟩
def d_is_integer : Dd := ⟨2, "is_integer", "is_integer", 2, ["value"], ["value"], b_is_integer⟩
def d_is_count : Dd := ⟨3, "is_count", "is_count", 3, ["value"], ["value"], b_is_count⟩
def d_is_position : Dd := ⟨4, "is_position", "is_position", 4, ["value", "many"], ["value", "many"], b_is_position⟩
def d_farms_wants_are_right : Dd := ⟨292, "wants_are_right", "wants_are_right", 20, ["stocks", "wants", "effects"], ["stocks", "wants", "effects", "one", "want", "more"], b_farms_wants_are_right⟩
def d_farms_step_is_right : Dd := ⟨293, "step_is_right", "step_is_right", 21, ["standings", "stocks", "value"], ["standings", "stocks", "value"], b_farms_step_is_right⟩
def d_farms_flaw_of : Dd := ⟨294, "flaw_of", "flaw_of", 22, ["value"], ["value", "step"], b_farms_flaw_of⟩
def d_farms_check_farm : Dd := ⟨295, "check_farm", "check_farm", 23, ["farm"], ["farm"], b_farms_check_farm⟩
def d_farms_check_step : Dd := ⟨296, "check_step", "check_step", 24, ["farm", "step"], ["farm", "step"], b_farms_check_step⟩
def d_is_least : Dd := ⟨5, "is_least", "is_least", 25, ["row", "other"], ["row", "other", "one", "its"], b_is_least⟩
def d_farms_added : Dd := ⟨297, "added", "added", 26, ["row", "effects"], ["row", "effects", "one", "more"], b_farms_added⟩
def d_farms_is_let : Dd := ⟨298, "is_let", "is_let", 27, ["farm", "place", "step"], ["farm", "place", "step"], b_farms_is_let⟩
def d_farms_let_at : Dd := ⟨299, "let_at", "let_at", 28, ["farm", "place"], ["farm", "place", "step"], b_farms_let_at⟩
def d_ways_way_is_right : Dd := ⟨300, "way_is_right", "way_is_right", 31, ["farm", "value"], ["farm", "value", "step", "one", "other"], b_ways_way_is_right⟩
def d_ways_check_way : Dd := ⟨301, "check_way", "check_way", 32, ["farm", "way"], ["farm", "way"], b_ways_check_way⟩
def d_caps_rows_within : Dd := ⟨302, "rows_within", "rows_within", 36, ["caps"], ["caps", "found", "cap", "longer", "row", "number"], b_caps_rows_within⟩
def d_caps_places_within : Dd := ⟨303, "places_within", "places_within", 37, ["farm", "caps"], ["farm", "caps", "found", "rows", "standing", "row"], b_caps_places_within⟩
def d_caps_how_many_places : Dd := ⟨304, "how_many_places", "how_many_places", 38, ["farm", "caps"], ["farm", "caps", "found", "cap"], b_caps_how_many_places⟩
def d_caps_cut : Dd := ⟨305, "cut", "cut", 39, ["caps", "row"], ["caps", "row", "number", "cap"], b_caps_cut⟩
def d_caps_capped_by : Dd := ⟨306, "capped_by", "capped_by", 40, ["farm", "caps", "place", "step"], ["farm", "caps", "place", "step"], b_caps_capped_by⟩
def d_caps_nexts_of : Dd := ⟨307, "nexts_of", "nexts_of", 41, ["farm", "caps", "places"], ["farm", "caps", "places", "spots", "at", "place", "step"], b_caps_nexts_of⟩
def d_caps_ranks_by : Dd := ⟨308, "ranks_by", "ranks_by", 42, ["nexts"], ["nexts", "left", "heads", "at", "some", "step", "there", "found", "line", "turn", "here", "many"], b_caps_ranks_by⟩
def d_caps_web_of : Dd := ⟨309, "web_of", "web_of", 43, ["farm", "caps"], ["farm", "caps", "places", "nexts"], b_caps_web_of⟩
def d_caps_capped_along : Dd := ⟨310, "capped_along", "capped_along", 44, ["farm", "caps", "place", "way"], ["farm", "caps", "place", "way", "found", "step"], b_caps_capped_along⟩
def d_caps_caps_are_right : Dd := ⟨311, "caps_are_right", "caps_are_right", 45, ["farm", "value"], ["farm", "value", "cap"], b_caps_caps_are_right⟩
def d_caps_row_is_within : Dd := ⟨312, "row_is_within", "row_is_within", 46, ["caps", "value"], ["caps", "value", "number", "cap"], b_caps_row_is_within⟩
def d_caps_here_is_right : Dd := ⟨313, "here_is_right", "here_is_right", 47, ["farm", "caps", "value"], ["farm", "caps", "value"], b_caps_here_is_right⟩
def d_caps_rank_is_right : Dd := ⟨314, "rank_is_right", "rank_is_right", 48, ["ranks", "rank", "some"], ["ranks", "rank", "some", "step", "there"], b_caps_rank_is_right⟩
def d_caps_ranks_are_right : Dd := ⟨315, "ranks_are_right", "ranks_are_right", 49, ["value", "nexts"], ["value", "nexts", "rank", "some"], b_caps_ranks_are_right⟩
def d_caps_check_caps : Dd := ⟨316, "check_caps", "check_caps", 50, ["farm", "caps"], ["farm", "caps"], b_caps_check_caps⟩
def d_caps_check_here : Dd := ⟨317, "check_here", "check_here", 51, ["farm", "caps", "here"], ["farm", "caps", "here"], b_caps_check_here⟩
def d_caps_check_few : Dd := ⟨318, "check_few", "check_few", 52, ["farm", "caps", "most"], ["farm", "caps", "most"], b_caps_check_few⟩
def d_caps_places : Dd := ⟨319, "places", "places", 53, ["farm", "caps"], ["farm", "caps"], b_caps_places⟩
def d_caps_led_capped : Dd := ⟨320, "led_capped", "led_capped", 54, ["farm", "caps", "here", "step"], ["farm", "caps", "here", "step"], b_caps_led_capped⟩
def d_caps_is_capped_run : Dd := ⟨321, "is_capped_run", "is_capped_run", 55, ["farm", "caps", "here", "way"], ["farm", "caps", "here", "way"], b_caps_is_capped_run⟩
def d_caps_capped_places : Dd := ⟨322, "capped_places", "capped_places", 56, ["farm", "caps", "here", "way"], ["farm", "caps", "here", "way"], b_caps_capped_places⟩
def d_caps_lasting : Dd := ⟨323, "lasting", "lasting", 57, ["farm", "caps"], ["farm", "caps", "some", "nexts", "own", "place", "rank"], b_caps_lasting⟩
def d_caps_ranks : Dd := ⟨324, "ranks", "ranks", 58, ["farm", "caps"], ["farm", "caps"], b_caps_ranks⟩
def d_caps_are_ranks : Dd := ⟨325, "are_ranks", "are_ranks", 59, ["farm", "caps", "value"], ["farm", "caps", "value"], b_caps_are_ranks⟩
def d__law_pot : Dd := ⟨37, "_law_pot", "_law_pot", 61, ["script", "k"], ["script", "k", "cell", "mixed"], b__law_pot⟩
def d__law_draw : Dd := ⟨38, "_law_draw", "_law_draw", 62, ["pot", "many"], ["pot", "many", "digit"], b__law_draw⟩
def d__law_pick : Dd := ⟨39, "_law_pick", "_law_pick", 63, ["pot", "some"], ["pot", "some"], b__law_pick⟩
def d__law_step : Dd := ⟨123, "_law_step", "_law_step", 64, ["pot", "standings", "stocks", "most"], ["pot", "standings", "stocks", "most", "effects", "wants", "stock", "effect"], b__law_step⟩
def d__law_farm : Dd := ⟨161, "_law_farm", "_law_farm", 65, ["pot", "standings", "stocks", "many", "most"], ["pot", "standings", "stocks", "many", "most", "step"], b__law_farm⟩
def d__law_ring_farm : Dd := ⟨162, "_law_ring_farm", "_law_ring_farm", 66, ["pot", "standings", "stocks", "many", "most"], ["pot", "standings", "stocks", "many", "most", "found", "standing", "step"], b__law_ring_farm⟩
def d__law_rows : Dd := ⟨163, "_law_rows", "_law_rows", 67, ["caps"], ["caps", "found", "cap", "later", "row", "number"], b__law_rows⟩
def d__law_places : Dd := ⟨43, "_law_places", "_law_places", 68, ["farm", "caps"], ["farm", "caps", "rows", "found", "standing", "row"], b__law_places⟩
def d__law_led : Dd := ⟨164, "_law_led", "_law_led", 69, ["farm", "caps", "here", "step"], ["farm", "caps", "here", "step", "standing", "row", "word", "start", "goal", "wants", "effects", "more", "number", "want", "cap", "effect"], b__law_led⟩
def d__law_next : Dd := ⟨165, "_law_next", "_law_next", 70, ["farm", "caps", "here"], ["farm", "caps", "here", "found", "step", "place"], b__law_next⟩
def d__law_ranks : Dd := ⟨166, "_law_ranks", "_law_ranks", 71, ["farm", "caps"], ["farm", "caps", "every", "found", "turn", "place", "some", "step", "there"], b__law_ranks⟩
def d__law_drawn : Dd := ⟨167, "_law_drawn", "_law_drawn", 72, ["pot", "way"], ["pot", "way", "standings", "stocks", "farm", "stock"], b__law_drawn⟩
def d__law_are_ranks : Dd := ⟨50, "_law_are_ranks", "_law_are_ranks", 73, ["farm", "caps", "value"], ["farm", "caps", "value", "every", "one", "place", "rank", "some", "step", "there"], b__law_are_ranks⟩
def d__law_run_right : Dd := ⟨168, "_law_run_right", "_law_run_right", 74, ["pot", "farm", "caps", "every"], ["pot", "farm", "caps", "every", "here", "way", "came", "at", "turn", "some", "step", "told", "due", "more", "fits"], b__law_run_right⟩
def d__law_one_right : Dd := ⟨169, "_law_one_right", "_law_one_right", 75, ["pot", "farm", "caps"], ["pot", "farm", "caps", "shown", "every", "due", "open_ones", "told", "at", "some", "value", "says", "place", "rank", "one"], b__law_one_right⟩
def d_law : Dd := ⟨53, "law", "law", 76, ["script"], ["script", "pot", "late", "way", "farm", "caps"], b_law⟩
def defs : List Dd := [d_is_list, d_is_integer, d_is_count, d_is_position, d_farms_wants_are_right, d_farms_step_is_right, d_farms_flaw_of, d_farms_check_farm, d_farms_check_step, d_is_least, d_farms_added, d_farms_is_let, d_farms_let_at, d_ways_way_is_right, d_ways_check_way, d_caps_rows_within, d_caps_places_within, d_caps_how_many_places, d_caps_cut, d_caps_capped_by, d_caps_nexts_of, d_caps_ranks_by, d_caps_web_of, d_caps_capped_along, d_caps_caps_are_right, d_caps_row_is_within, d_caps_here_is_right, d_caps_rank_is_right, d_caps_ranks_are_right, d_caps_check_caps, d_caps_check_here, d_caps_check_few, d_caps_places, d_caps_led_capped, d_caps_is_capped_run, d_caps_capped_places, d_caps_lasting, d_caps_ranks, d_caps_are_ranks, d__law_pot, d__law_draw, d__law_pick, d__law_step, d__law_farm, d__law_ring_farm, d__law_rows, d__law_places, d__law_led, d__law_next, d__law_ranks, d__law_drawn, d__law_are_ranks, d__law_run_right, d__law_one_right, d_law]
def free : List Str := ["abs", "all", "any", "bool", "divmod", "enumerate", "int", "isinstance", "len", "list", "max", "min", "range", "repr", "str", "tuple", "zip"]
def con : List (Str × D) := [("MOST_STANDINGS", .int 6), ("MOST_STOCKS", .int 3), ("MOST_STEPS_farms", .int 12), ("MOST_WANT", .int 9), ("MOST_YIELD", .int 99), ("MOST_STEPS_ways", .int 5000), ("MOST_CAP", .int 9), ("MOST_PLACES", .int 600)]
def kw : Kws := [(321, ["way", "here", "caps", "farm"], [3, 2, 1, 0]), (320, ["step", "here", "caps", "farm"], [3, 2, 1, 0]), (324, ["caps", "farm"], [1, 0]), (325, ["value", "caps", "farm"], [2, 1, 0])]
abbrev tab : Nat → Option Fd := tabL defs
theorem t_is_list : tab 1 = some ⟨1, 1, b_is_list⟩ := rfl
theorem t_is_integer : tab 2 = some ⟨1, 1, b_is_integer⟩ := rfl
theorem t_is_count : tab 3 = some ⟨1, 1, b_is_count⟩ := rfl
theorem t_is_position : tab 4 = some ⟨2, 2, b_is_position⟩ := rfl
theorem t_farms_wants_are_right : tab 292 = some ⟨3, 6, b_farms_wants_are_right⟩ := rfl
theorem t_farms_step_is_right : tab 293 = some ⟨3, 3, b_farms_step_is_right⟩ := rfl
theorem t_farms_flaw_of : tab 294 = some ⟨1, 2, b_farms_flaw_of⟩ := rfl
theorem t_farms_check_farm : tab 295 = some ⟨1, 1, b_farms_check_farm⟩ := rfl
theorem t_farms_check_step : tab 296 = some ⟨2, 2, b_farms_check_step⟩ := rfl
theorem t_is_least : tab 5 = some ⟨2, 4, b_is_least⟩ := rfl
theorem t_farms_added : tab 297 = some ⟨2, 4, b_farms_added⟩ := rfl
theorem t_farms_is_let : tab 298 = some ⟨3, 3, b_farms_is_let⟩ := rfl
theorem t_farms_let_at : tab 299 = some ⟨2, 3, b_farms_let_at⟩ := rfl
theorem t_ways_way_is_right : tab 300 = some ⟨2, 5, b_ways_way_is_right⟩ := rfl
theorem t_ways_check_way : tab 301 = some ⟨2, 2, b_ways_check_way⟩ := rfl
theorem t_caps_rows_within : tab 302 = some ⟨1, 6, b_caps_rows_within⟩ := rfl
theorem t_caps_places_within : tab 303 = some ⟨2, 6, b_caps_places_within⟩ := rfl
theorem t_caps_how_many_places : tab 304 = some ⟨2, 4, b_caps_how_many_places⟩ := rfl
theorem t_caps_cut : tab 305 = some ⟨2, 4, b_caps_cut⟩ := rfl
theorem t_caps_capped_by : tab 306 = some ⟨4, 4, b_caps_capped_by⟩ := rfl
theorem t_caps_nexts_of : tab 307 = some ⟨3, 7, b_caps_nexts_of⟩ := rfl
theorem t_caps_ranks_by : tab 308 = some ⟨1, 12, b_caps_ranks_by⟩ := rfl
theorem t_caps_web_of : tab 309 = some ⟨2, 4, b_caps_web_of⟩ := rfl
theorem t_caps_capped_along : tab 310 = some ⟨4, 6, b_caps_capped_along⟩ := rfl
theorem t_caps_caps_are_right : tab 311 = some ⟨2, 3, b_caps_caps_are_right⟩ := rfl
theorem t_caps_row_is_within : tab 312 = some ⟨2, 4, b_caps_row_is_within⟩ := rfl
theorem t_caps_here_is_right : tab 313 = some ⟨3, 3, b_caps_here_is_right⟩ := rfl
theorem t_caps_rank_is_right : tab 314 = some ⟨3, 5, b_caps_rank_is_right⟩ := rfl
theorem t_caps_ranks_are_right : tab 315 = some ⟨2, 4, b_caps_ranks_are_right⟩ := rfl
theorem t_caps_check_caps : tab 316 = some ⟨2, 2, b_caps_check_caps⟩ := rfl
theorem t_caps_check_here : tab 317 = some ⟨3, 3, b_caps_check_here⟩ := rfl
theorem t_caps_check_few : tab 318 = some ⟨3, 3, b_caps_check_few⟩ := rfl
theorem t_caps_places : tab 319 = some ⟨2, 2, b_caps_places⟩ := rfl
theorem t_caps_led_capped : tab 320 = some ⟨4, 4, b_caps_led_capped⟩ := rfl
theorem t_caps_is_capped_run : tab 321 = some ⟨4, 4, b_caps_is_capped_run⟩ := rfl
theorem t_caps_capped_places : tab 322 = some ⟨4, 4, b_caps_capped_places⟩ := rfl
theorem t_caps_lasting : tab 323 = some ⟨2, 7, b_caps_lasting⟩ := rfl
theorem t_caps_ranks : tab 324 = some ⟨2, 2, b_caps_ranks⟩ := rfl
theorem t_caps_are_ranks : tab 325 = some ⟨3, 3, b_caps_are_ranks⟩ := rfl
theorem t__law_pot : tab 37 = some ⟨2, 4, b__law_pot⟩ := rfl
theorem t__law_draw : tab 38 = some ⟨2, 3, b__law_draw⟩ := rfl
theorem t__law_pick : tab 39 = some ⟨2, 2, b__law_pick⟩ := rfl
theorem t__law_step : tab 123 = some ⟨4, 8, b__law_step⟩ := rfl
theorem t__law_farm : tab 161 = some ⟨5, 6, b__law_farm⟩ := rfl
theorem t__law_ring_farm : tab 162 = some ⟨5, 8, b__law_ring_farm⟩ := rfl
theorem t__law_rows : tab 163 = some ⟨1, 6, b__law_rows⟩ := rfl
theorem t__law_places : tab 43 = some ⟨2, 6, b__law_places⟩ := rfl
theorem t__law_led : tab 164 = some ⟨4, 16, b__law_led⟩ := rfl
theorem t__law_next : tab 165 = some ⟨3, 6, b__law_next⟩ := rfl
theorem t__law_ranks : tab 166 = some ⟨2, 9, b__law_ranks⟩ := rfl
theorem t__law_drawn : tab 167 = some ⟨2, 6, b__law_drawn⟩ := rfl
theorem t__law_are_ranks : tab 50 = some ⟨3, 10, b__law_are_ranks⟩ := rfl
theorem t__law_run_right : tab 168 = some ⟨4, 15, b__law_run_right⟩ := rfl
theorem t__law_one_right : tab 169 = some ⟨3, 15, b__law_one_right⟩ := rfl
theorem t_law : tab 53 = some ⟨1, 6, b_law⟩ := rfl
end Mi.L76
set_option Elab.async false
set_option linter.all false
set_option maxRecDepth 100000
set_option maxHeartbeats 0
/-! Headk76: the head of k76 (printed by genlaw.py). -/
namespace Mi.L76
open PySem PySem.Spec PyProof.Rows L2
def top (i : Nat) : Stmt := PySem.Challenge.pw_neverspent_k76_whole_places_that_last.main.body.getD i (.Pass ⟨0, 0, 0, 0⟩)
def lw : Lw := ⟨top, defs, free, con, kw⟩
theorem k_is_list : lw.DOk d_is_list := ⟨fun _ _ _ _ _ _ us hl => match us, hl with | [_], _ => rfl, C8.fnScope_by (by kernel_rfl), by kernel_rfl⟩
theorem k_is_integer : lw.DOk d_is_integer := ⟨fun _ _ _ _ _ _ us hl => match us, hl with | [_], _ => rfl, C8.fnScope_by (by kernel_rfl), by kernel_rfl⟩
theorem k_is_count : lw.DOk d_is_count := ⟨fun _ _ _ _ _ _ us hl => match us, hl with | [_], _ => rfl, C8.fnScope_by (by kernel_rfl), by kernel_rfl⟩
theorem k_is_position : lw.DOk d_is_position := ⟨fun _ _ _ _ _ _ us hl => match us, hl with | [_, _], _ => rfl, C8.fnScope_by (by kernel_rfl), by kernel_rfl⟩
theorem k_farms_wants_are_right : lw.DOk d_farms_wants_are_right := ⟨fun _ _ _ _ _ _ us hl => match us, hl with | [_, _, _], _ => rfl, C8.fnScope_by (by kernel_rfl), by kernel_rfl⟩
theorem k_farms_step_is_right : lw.DOk d_farms_step_is_right := ⟨fun _ _ _ _ _ _ us hl => match us, hl with | [_, _, _], _ => rfl, C8.fnScope_by (by kernel_rfl), by kernel_rfl⟩
theorem k_farms_flaw_of : lw.DOk d_farms_flaw_of := ⟨fun _ _ _ _ _ _ us hl => match us, hl with | [_], _ => rfl, C8.fnScope_by (by kernel_rfl), by kernel_rfl⟩
theorem k_farms_check_farm : lw.DOk d_farms_check_farm := ⟨fun _ _ _ _ _ _ us hl => match us, hl with | [_], _ => rfl, C8.fnScope_by (by kernel_rfl), by kernel_rfl⟩
theorem k_farms_check_step : lw.DOk d_farms_check_step := ⟨fun _ _ _ _ _ _ us hl => match us, hl with | [_, _], _ => rfl, C8.fnScope_by (by kernel_rfl), by kernel_rfl⟩
theorem k_is_least : lw.DOk d_is_least := ⟨fun _ _ _ _ _ _ us hl => match us, hl with | [_, _], _ => rfl, C8.fnScope_by (by kernel_rfl), by kernel_rfl⟩
theorem k_farms_added : lw.DOk d_farms_added := ⟨fun _ _ _ _ _ _ us hl => match us, hl with | [_, _], _ => rfl, C8.fnScope_by (by kernel_rfl), by kernel_rfl⟩
theorem k_farms_is_let : lw.DOk d_farms_is_let := ⟨fun _ _ _ _ _ _ us hl => match us, hl with | [_, _, _], _ => rfl, C8.fnScope_by (by kernel_rfl), by kernel_rfl⟩
theorem k_farms_let_at : lw.DOk d_farms_let_at := ⟨fun _ _ _ _ _ _ us hl => match us, hl with | [_, _], _ => rfl, C8.fnScope_by (by kernel_rfl), by kernel_rfl⟩
theorem k_ways_way_is_right : lw.DOk d_ways_way_is_right := ⟨fun _ _ _ _ _ _ us hl => match us, hl with | [_, _], _ => rfl, C8.fnScope_by (by kernel_rfl), by kernel_rfl⟩
theorem k_ways_check_way : lw.DOk d_ways_check_way := ⟨fun _ _ _ _ _ _ us hl => match us, hl with | [_, _], _ => rfl, C8.fnScope_by (by kernel_rfl), by kernel_rfl⟩
theorem k_caps_rows_within : lw.DOk d_caps_rows_within := ⟨fun _ _ _ _ _ _ us hl => match us, hl with | [_], _ => rfl, C8.fnScope_by (by kernel_rfl), by kernel_rfl⟩
theorem k_caps_places_within : lw.DOk d_caps_places_within := ⟨fun _ _ _ _ _ _ us hl => match us, hl with | [_, _], _ => rfl, C8.fnScope_by (by kernel_rfl), by kernel_rfl⟩
theorem k_caps_how_many_places : lw.DOk d_caps_how_many_places := ⟨fun _ _ _ _ _ _ us hl => match us, hl with | [_, _], _ => rfl, C8.fnScope_by (by kernel_rfl), by kernel_rfl⟩
theorem k_caps_cut : lw.DOk d_caps_cut := ⟨fun _ _ _ _ _ _ us hl => match us, hl with | [_, _], _ => rfl, C8.fnScope_by (by kernel_rfl), by kernel_rfl⟩
theorem k_caps_capped_by : lw.DOk d_caps_capped_by := ⟨fun _ _ _ _ _ _ us hl => match us, hl with | [_, _, _, _], _ => rfl, C8.fnScope_by (by kernel_rfl), by kernel_rfl⟩
theorem k_caps_nexts_of : lw.DOk d_caps_nexts_of := ⟨fun _ _ _ _ _ _ us hl => match us, hl with | [_, _, _], _ => rfl, C8.fnScope_by (by kernel_rfl), by kernel_rfl⟩
theorem k_caps_ranks_by : lw.DOk d_caps_ranks_by := ⟨fun _ _ _ _ _ _ us hl => match us, hl with | [_], _ => rfl, C8.fnScope_by (by kernel_rfl), by kernel_rfl⟩
theorem k_caps_web_of : lw.DOk d_caps_web_of := ⟨fun _ _ _ _ _ _ us hl => match us, hl with | [_, _], _ => rfl, C8.fnScope_by (by kernel_rfl), by kernel_rfl⟩
theorem k_caps_capped_along : lw.DOk d_caps_capped_along := ⟨fun _ _ _ _ _ _ us hl => match us, hl with | [_, _, _, _], _ => rfl, C8.fnScope_by (by kernel_rfl), by kernel_rfl⟩
theorem k_caps_caps_are_right : lw.DOk d_caps_caps_are_right := ⟨fun _ _ _ _ _ _ us hl => match us, hl with | [_, _], _ => rfl, C8.fnScope_by (by kernel_rfl), by kernel_rfl⟩
theorem k_caps_row_is_within : lw.DOk d_caps_row_is_within := ⟨fun _ _ _ _ _ _ us hl => match us, hl with | [_, _], _ => rfl, C8.fnScope_by (by kernel_rfl), by kernel_rfl⟩
theorem k_caps_here_is_right : lw.DOk d_caps_here_is_right := ⟨fun _ _ _ _ _ _ us hl => match us, hl with | [_, _, _], _ => rfl, C8.fnScope_by (by kernel_rfl), by kernel_rfl⟩
theorem k_caps_rank_is_right : lw.DOk d_caps_rank_is_right := ⟨fun _ _ _ _ _ _ us hl => match us, hl with | [_, _, _], _ => rfl, C8.fnScope_by (by kernel_rfl), by kernel_rfl⟩
theorem k_caps_ranks_are_right : lw.DOk d_caps_ranks_are_right := ⟨fun _ _ _ _ _ _ us hl => match us, hl with | [_, _], _ => rfl, C8.fnScope_by (by kernel_rfl), by kernel_rfl⟩
theorem k_caps_check_caps : lw.DOk d_caps_check_caps := ⟨fun _ _ _ _ _ _ us hl => match us, hl with | [_, _], _ => rfl, C8.fnScope_by (by kernel_rfl), by kernel_rfl⟩
theorem k_caps_check_here : lw.DOk d_caps_check_here := ⟨fun _ _ _ _ _ _ us hl => match us, hl with | [_, _, _], _ => rfl, C8.fnScope_by (by kernel_rfl), by kernel_rfl⟩
theorem k_caps_check_few : lw.DOk d_caps_check_few := ⟨fun _ _ _ _ _ _ us hl => match us, hl with | [_, _, _], _ => rfl, C8.fnScope_by (by kernel_rfl), by kernel_rfl⟩
theorem k_caps_places : lw.DOk d_caps_places := ⟨fun _ _ _ _ _ _ us hl => match us, hl with | [_, _], _ => rfl, C8.fnScope_by (by kernel_rfl), by kernel_rfl⟩
theorem k_caps_led_capped : lw.DOk d_caps_led_capped := ⟨fun _ _ _ _ _ _ us hl => match us, hl with | [_, _, _, _], _ => rfl, C8.fnScope_by (by kernel_rfl), by kernel_rfl⟩
theorem k_caps_is_capped_run : lw.DOk d_caps_is_capped_run := ⟨fun _ _ _ _ _ _ us hl => match us, hl with | [_, _, _, _], _ => rfl, C8.fnScope_by (by kernel_rfl), by kernel_rfl⟩
theorem k_caps_capped_places : lw.DOk d_caps_capped_places := ⟨fun _ _ _ _ _ _ us hl => match us, hl with | [_, _, _, _], _ => rfl, C8.fnScope_by (by kernel_rfl), by kernel_rfl⟩
theorem k_caps_lasting : lw.DOk d_caps_lasting := ⟨fun _ _ _ _ _ _ us hl => match us, hl with | [_, _], _ => rfl, C8.fnScope_by (by kernel_rfl), by kernel_rfl⟩
theorem k_caps_ranks : lw.DOk d_caps_ranks := ⟨fun _ _ _ _ _ _ us hl => match us, hl with | [_, _], _ => rfl, C8.fnScope_by (by kernel_rfl), by kernel_rfl⟩
theorem k_caps_are_ranks : lw.DOk d_caps_are_ranks := ⟨fun _ _ _ _ _ _ us hl => match us, hl with | [_, _, _], _ => rfl, C8.fnScope_by (by kernel_rfl), by kernel_rfl⟩
theorem k__law_pot : lw.DOk d__law_pot := ⟨fun _ _ _ _ _ _ us hl => match us, hl with | [_, _], _ => rfl, C8.fnScope_by (by kernel_rfl), by kernel_rfl⟩
theorem k__law_draw : lw.DOk d__law_draw := ⟨fun _ _ _ _ _ _ us hl => match us, hl with | [_, _], _ => rfl, C8.fnScope_by (by kernel_rfl), by kernel_rfl⟩
theorem k__law_pick : lw.DOk d__law_pick := ⟨fun _ _ _ _ _ _ us hl => match us, hl with | [_, _], _ => rfl, C8.fnScope_by (by kernel_rfl), by kernel_rfl⟩
theorem k__law_step : lw.DOk d__law_step := ⟨fun _ _ _ _ _ _ us hl => match us, hl with | [_, _, _, _], _ => rfl, C8.fnScope_by (by kernel_rfl), by kernel_rfl⟩
theorem k__law_farm : lw.DOk d__law_farm := ⟨fun _ _ _ _ _ _ us hl => match us, hl with | [_, _, _, _, _], _ => rfl, C8.fnScope_by (by kernel_rfl), by kernel_rfl⟩
theorem k__law_ring_farm : lw.DOk d__law_ring_farm := ⟨fun _ _ _ _ _ _ us hl => match us, hl with | [_, _, _, _, _], _ => rfl, C8.fnScope_by (by kernel_rfl), by kernel_rfl⟩
theorem k__law_rows : lw.DOk d__law_rows := ⟨fun _ _ _ _ _ _ us hl => match us, hl with | [_], _ => rfl, C8.fnScope_by (by kernel_rfl), by kernel_rfl⟩
theorem k__law_places : lw.DOk d__law_places := ⟨fun _ _ _ _ _ _ us hl => match us, hl with | [_, _], _ => rfl, C8.fnScope_by (by kernel_rfl), by kernel_rfl⟩
theorem k__law_led : lw.DOk d__law_led := ⟨fun _ _ _ _ _ _ us hl => match us, hl with | [_, _, _, _], _ => rfl, C8.fnScope_by (by kernel_rfl), by kernel_rfl⟩
theorem k__law_next : lw.DOk d__law_next := ⟨fun _ _ _ _ _ _ us hl => match us, hl with | [_, _, _], _ => rfl, C8.fnScope_by (by kernel_rfl), by kernel_rfl⟩
theorem k__law_ranks : lw.DOk d__law_ranks := ⟨fun _ _ _ _ _ _ us hl => match us, hl with | [_, _], _ => rfl, C8.fnScope_by (by kernel_rfl), by kernel_rfl⟩
theorem k__law_drawn : lw.DOk d__law_drawn := ⟨fun _ _ _ _ _ _ us hl => match us, hl with | [_, _], _ => rfl, C8.fnScope_by (by kernel_rfl), by kernel_rfl⟩
theorem k__law_are_ranks : lw.DOk d__law_are_ranks := ⟨fun _ _ _ _ _ _ us hl => match us, hl with | [_, _, _], _ => rfl, C8.fnScope_by (by kernel_rfl), by kernel_rfl⟩
theorem k__law_run_right : lw.DOk d__law_run_right := ⟨fun _ _ _ _ _ _ us hl => match us, hl with | [_, _, _, _], _ => rfl, C8.fnScope_by (by kernel_rfl), by kernel_rfl⟩
theorem k__law_one_right : lw.DOk d__law_one_right := ⟨fun _ _ _ _ _ _ us hl => match us, hl with | [_, _, _], _ => rfl, C8.fnScope_by (by kernel_rfl), by kernel_rfl⟩
theorem k_law : lw.DOk d_law := ⟨fun _ _ _ _ _ _ us hl => match us, hl with | [_], _ => rfl, C8.fnScope_by (by kernel_rfl), by kernel_rfl⟩
theorem defs_ok : ∀ d ∈ defs, lw.DOk d := by
  unfold defs
  refine List.forall_mem_cons.mpr ⟨k_is_list, ?_⟩
  refine List.forall_mem_cons.mpr ⟨k_is_integer, ?_⟩
  refine List.forall_mem_cons.mpr ⟨k_is_count, ?_⟩
  refine List.forall_mem_cons.mpr ⟨k_is_position, ?_⟩
  refine List.forall_mem_cons.mpr ⟨k_farms_wants_are_right, ?_⟩
  refine List.forall_mem_cons.mpr ⟨k_farms_step_is_right, ?_⟩
  refine List.forall_mem_cons.mpr ⟨k_farms_flaw_of, ?_⟩
  refine List.forall_mem_cons.mpr ⟨k_farms_check_farm, ?_⟩
  refine List.forall_mem_cons.mpr ⟨k_farms_check_step, ?_⟩
  refine List.forall_mem_cons.mpr ⟨k_is_least, ?_⟩
  refine List.forall_mem_cons.mpr ⟨k_farms_added, ?_⟩
  refine List.forall_mem_cons.mpr ⟨k_farms_is_let, ?_⟩
  refine List.forall_mem_cons.mpr ⟨k_farms_let_at, ?_⟩
  refine List.forall_mem_cons.mpr ⟨k_ways_way_is_right, ?_⟩
  refine List.forall_mem_cons.mpr ⟨k_ways_check_way, ?_⟩
  refine List.forall_mem_cons.mpr ⟨k_caps_rows_within, ?_⟩
  refine List.forall_mem_cons.mpr ⟨k_caps_places_within, ?_⟩
  refine List.forall_mem_cons.mpr ⟨k_caps_how_many_places, ?_⟩
  refine List.forall_mem_cons.mpr ⟨k_caps_cut, ?_⟩
  refine List.forall_mem_cons.mpr ⟨k_caps_capped_by, ?_⟩
  refine List.forall_mem_cons.mpr ⟨k_caps_nexts_of, ?_⟩
  refine List.forall_mem_cons.mpr ⟨k_caps_ranks_by, ?_⟩
  refine List.forall_mem_cons.mpr ⟨k_caps_web_of, ?_⟩
  refine List.forall_mem_cons.mpr ⟨k_caps_capped_along, ?_⟩
  refine List.forall_mem_cons.mpr ⟨k_caps_caps_are_right, ?_⟩
  refine List.forall_mem_cons.mpr ⟨k_caps_row_is_within, ?_⟩
  refine List.forall_mem_cons.mpr ⟨k_caps_here_is_right, ?_⟩
  refine List.forall_mem_cons.mpr ⟨k_caps_rank_is_right, ?_⟩
  refine List.forall_mem_cons.mpr ⟨k_caps_ranks_are_right, ?_⟩
  refine List.forall_mem_cons.mpr ⟨k_caps_check_caps, ?_⟩
  refine List.forall_mem_cons.mpr ⟨k_caps_check_here, ?_⟩
  refine List.forall_mem_cons.mpr ⟨k_caps_check_few, ?_⟩
  refine List.forall_mem_cons.mpr ⟨k_caps_places, ?_⟩
  refine List.forall_mem_cons.mpr ⟨k_caps_led_capped, ?_⟩
  refine List.forall_mem_cons.mpr ⟨k_caps_is_capped_run, ?_⟩
  refine List.forall_mem_cons.mpr ⟨k_caps_capped_places, ?_⟩
  refine List.forall_mem_cons.mpr ⟨k_caps_lasting, ?_⟩
  refine List.forall_mem_cons.mpr ⟨k_caps_ranks, ?_⟩
  refine List.forall_mem_cons.mpr ⟨k_caps_are_ranks, ?_⟩
  refine List.forall_mem_cons.mpr ⟨k__law_pot, ?_⟩
  refine List.forall_mem_cons.mpr ⟨k__law_draw, ?_⟩
  refine List.forall_mem_cons.mpr ⟨k__law_pick, ?_⟩
  refine List.forall_mem_cons.mpr ⟨k__law_step, ?_⟩
  refine List.forall_mem_cons.mpr ⟨k__law_farm, ?_⟩
  refine List.forall_mem_cons.mpr ⟨k__law_ring_farm, ?_⟩
  refine List.forall_mem_cons.mpr ⟨k__law_rows, ?_⟩
  refine List.forall_mem_cons.mpr ⟨k__law_places, ?_⟩
  refine List.forall_mem_cons.mpr ⟨k__law_led, ?_⟩
  refine List.forall_mem_cons.mpr ⟨k__law_next, ?_⟩
  refine List.forall_mem_cons.mpr ⟨k__law_ranks, ?_⟩
  refine List.forall_mem_cons.mpr ⟨k__law_drawn, ?_⟩
  refine List.forall_mem_cons.mpr ⟨k__law_are_ranks, ?_⟩
  refine List.forall_mem_cons.mpr ⟨k__law_run_right, ?_⟩
  refine List.forall_mem_cons.mpr ⟨k__law_one_right, ?_⟩
  refine List.forall_mem_cons.mpr ⟨k_law, ?_⟩
  exact fun _ h => nomatch h
theorem w_0 : lw.KwOk 321 ["way", "here", "caps", "farm"] [3, 2, 1, 0] := ⟨d_caps_is_capped_run, rfl, fun _ _ _ _ _ _ us ws hl hw => match us, hl, hw with | [a0, a1, a2, a3], _, hw => by cases hw; rfl⟩
theorem w_1 : lw.KwOk 320 ["step", "here", "caps", "farm"] [3, 2, 1, 0] := ⟨d_caps_led_capped, rfl, fun _ _ _ _ _ _ us ws hl hw => match us, hl, hw with | [a0, a1, a2, a3], _, hw => by cases hw; rfl⟩
theorem w_2 : lw.KwOk 324 ["caps", "farm"] [1, 0] := ⟨d_caps_ranks, rfl, fun _ _ _ _ _ _ us ws hl hw => match us, hl, hw with | [a0, a1], _, hw => by cases hw; rfl⟩
theorem w_3 : lw.KwOk 325 ["value", "caps", "farm"] [2, 1, 0] := ⟨d_caps_are_ranks, rfl, fun _ _ _ _ _ _ us ws hl hw => match us, hl, hw with | [a0, a1, a2], _, hw => by cases hw; rfl⟩
theorem lw_ok : lw.Ok := by
  refine ⟨defs_ok, fun f ks perm h => ?_, by unfold lw con; decide⟩
  have h : (f, ks, perm) ∈ kw := h
  unfold kw at h
  simp only [List.mem_cons, Prod.mk.injEq, List.not_mem_nil, or_false] at h
  rcases h with ⟨rfl, rfl, rfl⟩ | ⟨rfl, rfl, rfl⟩ | ⟨rfl, rfl, rfl⟩ | ⟨rfl, rfl, rfl⟩
  · exact w_0
  · exact w_1
  · exact w_2
  · exact w_3
abbrev R : PySem.W.OpenRow := PySem.W.OpenLaw.row PySem.Challenge.rw_neverspent_k76_whole_places_that_last
def fa : List He.Fa := lw.fa
def fn : List He.DefD := lw.fn
abbrev hk : PySem.W.Hook := He.hookD 4 fa fn
def ob (s : PySem.W.SharedT) : He.AlD := He.obsDG 4 fa fn (HandSHeadRun.getT s)
theorem ob_eq (s : PySem.W.SharedT) : ob s = hk.obs s.abs := He.obsDG_eq (HandSHeadRun.getT_eq s)
def names : List PySem.Str := (["is_list", "is_integer", "is_count", "is_position", "GroundError", "LimitError", "InvalidFarm", "InvalidWay", "InvalidCaps", "InvalidHere", "InvalidStep", "TooMany", "MOST_STANDINGS", "MOST_STOCKS", "MOST_STEPS_farms", "MOST_WANT", "MOST_YIELD", "wants_are_right", "step_is_right", "flaw_of", "check_farm", "check_step", "is_least", "added", "is_let", "let_at", "MOST_STEPS_ways", "way_is_right", "check_way", "MOST_CAP"] : List PySem.Str) ++ (["MOST_PLACES", "rows_within", "places_within", "how_many_places", "cut", "capped_by", "nexts_of", "ranks_by", "web_of", "capped_along", "caps_are_right", "row_is_within", "here_is_right", "rank_is_right", "ranks_are_right", "check_caps", "check_here", "check_few", "places", "led_capped", "is_capped_run", "capped_places", "lasting", "ranks", "are_ranks", "_law_pot", "_law_draw", "_law_pick", "_law_step", "_law_farm"] : List PySem.Str) ++ (["_law_ring_farm", "_law_rows", "_law_places", "_law_led", "_law_next", "_law_ranks", "_law_drawn", "_law_are_ranks", "_law_run_right", "_law_one_right"] : List PySem.Str)
theorem run (w : World) : HandSHeadRun.RunEq R (PySem.W.view R.prog [76]) hk ob 6000 names w := by
  intro os
  kernel_rfl
end Mi.L76
set_option Elab.async false
set_option linter.all false
set_option maxRecDepth 100000
set_option maxHeartbeats 400000
/-! Gr: layer by layer. -/
namespace Mi
section
variable {κ : Type} [DecidableEq κ] (keys : List κ) (lost : List κ → κ → Bool)
def fsts (F : List (κ × Int)) : List κ := F.map (·.1)
def newL (F : List (κ × Int)) : List κ := keys.filter fun p => !isin p (fsts F) && lost (fsts F) p
def grow : Nat → List (κ × Int) → Int → List (κ × Int)
  | 0, F, _ => F
  | k + 1, F, n => if newL keys lost F = [] then F else grow k (F ++ (newL keys lost F).map fun p => (p, n)) (n + 1)
/-- what it comes to -/
def final : List (κ × Int) := grow keys lost (keys.length + 1) [] 0
structure GoodF (F : List (κ × Int)) (n : Int) : Prop where
  nd : (fsts F).Nodup
  sub : ∀ p ∈ fsts F, p ∈ keys
  num : ∀ q ∈ F, 0 ≤ q.2 ∧ q.2 < n
  rank : ∀ q ∈ F, lost (fsts (F.filter fun r => decide (r.2 < q.2))) q.1 = true
  len : n ≤ F.length
variable {keys lost}
theorem fsts_app {F G : List (κ × Int)} : fsts (F ++ G) = fsts F ++ fsts G := by simp [fsts]
theorem fsts_new {xs : List κ} {n : Int} : fsts (xs.map fun p => (p, n)) = xs := by simp [fsts, Function.comp_def]
theorem good_nil : GoodF keys lost [] 0 := ⟨by simp [fsts], by simp [fsts], by simp, by simp, by simp⟩
theorem good_next (hk : keys.Nodup) {F : List (κ × Int)} {n : Int} (g : GoodF keys lost F n) (h0 : 0 ≤ n) (hne : newL keys lost F ≠ []) : GoodF keys lost (F ++ (newL keys lost F).map fun p => (p, n)) (n + 1) := by
  have hfl : ∀ i, i ≤ n → (F ++ (newL keys lost F).map fun p => (p, n)).filter (fun r => decide (r.2 < i)) = F.filter fun r => decide (r.2 < i) := by
    intro i hi
    rw [List.filter_append]
    have : ((newL keys lost F).map fun p => (p, n)).filter (fun r => decide (r.2 < i)) = [] := by
      rw [List.filter_eq_nil_iff]
      intro r hr
      obtain ⟨p, _, rfl⟩ := List.mem_map.mp hr
      simp
      exact hi
    rw [this, List.append_nil]
  refine ⟨?_, ?_, ?_, ?_, ?_⟩
  · rw [fsts_app, fsts_new, List.nodup_append]
    refine ⟨g.nd, hk.filter _, ?_⟩
    intro a ha b hb e
    subst e
    have := (List.mem_filter.mp hb).2
    simp [isin, ha] at this
  · intro p hp
    rw [fsts_app, fsts_new] at hp
    rcases List.mem_append.mp hp with hp | hp
    · exact g.sub p hp
    · exact (List.mem_filter.mp hp).1
  · intro q hq
    rcases List.mem_append.mp hq with hq | hq
    · have := g.num q hq
      omega
    · obtain ⟨p, _, rfl⟩ := List.mem_map.mp hq
      exact ⟨h0, by show n < n + 1; omega⟩
  · intro q hq
    rcases List.mem_append.mp hq with hq | hq
    · rw [hfl q.2 (by have := (g.num q hq).2; omega)]
      exact g.rank q hq
    · obtain ⟨p, hp, rfl⟩ := List.mem_map.mp hq
      rw [hfl n (Int.le_refl _)]
      have e : F.filter (fun r => decide (r.2 < n)) = F := by
        rw [List.filter_eq_self]
        intro r hr
        simpa using (g.num r hr).2
      show lost (fsts (F.filter fun r => decide (r.2 < n))) p = true
      rw [e]
      have := (List.mem_filter.mp hp).2
      rw [Bool.and_eq_true] at this
      exact this.2
  · have h1 := g.len
    have h2 : 1 ≤ (newL keys lost F).length := by
      cases e : newL keys lost F with
      | nil => exact absurd e hne
      | cons => simp
    rw [List.length_append, List.length_map]
    omega
theorem nodup_len : ∀ {xs ys : List κ}, xs.Nodup → (∀ p ∈ xs, p ∈ ys) → xs.length ≤ ys.length
  | [], _, _, _ => Nat.zero_le _
  | x :: xs, ys, h, k => by
    obtain ⟨h1, h2⟩ := List.nodup_cons.mp h
    have h3 := nodup_len (ys := ys.erase x) h2 fun p hp => (List.mem_erase_of_ne (fun z => h1 (by rw [← z]; exact hp))).mpr (k p (List.mem_cons_of_mem _ hp))
    have hx := k x List.mem_cons_self
    rw [List.length_erase_of_mem hx] at h3
    have := List.length_pos_of_mem hx
    simp
    omega
theorem good_len {F : List (κ × Int)} {n : Int} (g : GoodF keys lost F n) : F.length ≤ keys.length := by
  have h1 : (fsts F).length ≤ keys.length := nodup_len g.nd g.sub
  simpa [fsts] using h1
theorem newL_pos {F : List (κ × Int)} (h : newL keys lost F ≠ []) : 1 ≤ (newL keys lost F).length := by
  cases e : newL keys lost F with
  | nil => exact absurd e h
  | cons => simp
theorem grow_spec (hk : keys.Nodup) : ∀ (k : Nat) (F : List (κ × Int)) (n : Int), GoodF keys lost F n → 0 ≤ n → keys.length < k + F.length → newL keys lost (grow keys lost k F n) = [] ∧ ∃ m, 0 ≤ m ∧ GoodF keys lost (grow keys lost k F n) m
  | 0, F, n, g, h0, hl => by have := good_len g; omega
  | k + 1, F, n, g, h0, hl => by
    unfold grow
    by_cases h : newL keys lost F = []
    · rw [if_pos h]
      exact ⟨h, n, h0, g⟩
    · rw [if_neg h]
      have := newL_pos h
      exact grow_spec hk k _ _ (good_next hk g h0 h) (by omega) (by rw [List.length_append, List.length_map]; omega)
/-- enough turns -/
theorem grow_stop {k : Nat} {F : List (κ × Int)} {n : Int} (h : newL keys lost F = []) (hk : 1 ≤ k) : grow keys lost k F n = F := by
  cases k with
  | zero => omega
  | succ k => unfold grow; rw [if_pos h]
theorem grow_step {k : Nat} {F : List (κ × Int)} {n : Int} (h : newL keys lost F ≠ []) : grow keys lost (k + 1) F n = grow keys lost k (F ++ (newL keys lost F).map fun p => (p, n)) (n + 1) := by
  rw [grow, if_neg h]
/-- where a loop stands: so many turns are left -/
structure Turn (keys : List κ) (lost : List κ → κ → Bool) (m : Nat) (F : List (κ × Int)) (n : Int) : Prop where
  g : GoodF keys lost F n
  h0 : 0 ≤ n
  len : keys.length < m + F.length
  fin : grow keys lost m F n = final keys lost
theorem turn_start : Turn keys lost (keys.length + 1) [] 0 := ⟨good_nil, Int.le_refl _, by simp, rfl⟩
theorem turn_end {m : Nat} {F : List (κ × Int)} {n : Int} (t : Turn keys lost m F n) (h : newL keys lost F = []) : F = final keys lost := by
  have := good_len t.g
  have hl := t.len
  rw [← t.fin, grow_stop h (by omega)]
theorem turn_next (hk : keys.Nodup) {m : Nat} {F : List (κ × Int)} {n : Int} (t : Turn keys lost m F n) (h : newL keys lost F ≠ []) : ∃ m', m = m' + 1 ∧ Turn keys lost m' (F ++ (newL keys lost F).map fun p => (p, n)) (n + 1) := by
  have h1 := newL_pos h
  have h2 := good_len t.g
  have h3 := t.len
  cases m with
  | zero => omega
  | succ m => exact ⟨m, rfl, good_next hk t.g t.h0 h, by have := t.h0; omega, by rw [List.length_append, List.length_map]; omega, by rw [← grow_step h]; exact t.fin⟩
theorem final_spec (hk : keys.Nodup) : newL keys lost (final keys lost) = [] ∧ ∃ m, 0 ≤ m ∧ GoodF keys lost (final keys lost) m :=
  grow_spec hk _ _ _ good_nil (Int.le_refl _) (by simp)
theorem final_closed (hk : keys.Nodup) {p : κ} (h : p ∈ keys) (hl : lost (fsts (final keys lost)) p = true) : p ∈ fsts (final keys lost) := by
  have h1 := (final_spec (lost := lost) hk).1
  unfold newL at h1
  rw [List.filter_eq_nil_iff] at h1
  have := h1 p h
  simp [isin, hl] at this
  exact this
theorem final_nodup (hk : keys.Nodup) : (fsts (final keys lost)).Nodup := by
  obtain ⟨_, m, _, g⟩ := final_spec (lost := lost) hk
  exact g.nd
theorem final_sub (hk : keys.Nodup) {p : κ} (h : p ∈ fsts (final keys lost)) : p ∈ keys := by
  obtain ⟨_, m, _, g⟩ := final_spec (lost := lost) hk
  exact g.sub p h
theorem final_num (hk : keys.Nodup) {q : κ × Int} (h : q ∈ final keys lost) : 0 ≤ q.2 := by
  obtain ⟨_, m, _, g⟩ := final_spec (lost := lost) hk
  exact (g.num q h).1
theorem final_lt (hk : keys.Nodup) {q : κ × Int} (h : q ∈ final keys lost) : q.2 < keys.length := by
  obtain ⟨_, m, _, g⟩ := final_spec (lost := lost) hk
  have h1 := (g.num q h).2
  have h2 := g.len
  have h3 := good_len g
  omega
theorem final_rank (hk : keys.Nodup) {q : κ × Int} (h : q ∈ final keys lost) : lost (fsts ((final keys lost).filter fun r => decide (r.2 < q.2))) q.1 = true := by
  obtain ⟨_, m, _, g⟩ := final_spec (lost := lost) hk
  exact g.rank q h
/-- the one that loses less -/
theorem final_le (hk : keys.Nodup) {lost' : List κ → κ → Bool} (h1 : ∀ F p, lost F p = true → p ∈ keys → lost' F p = true) (h2 : ∀ F G p, (∀ q ∈ F, q ∈ G) → lost' F p = true → lost' G p = true) : ∀ p ∈ fsts (final keys lost), p ∈ fsts (final keys lost') := by
  have key : ∀ (i : Nat) (q : κ × Int), q ∈ final keys lost → q.2 < i → q.1 ∈ fsts (final keys lost') := by
    intro i
    induction i with
    | zero => intro q hq hi; have := final_num hk hq; omega
    | succ i ih =>
      intro q hq hi
      have hm : q.1 ∈ keys := final_sub hk (List.mem_map.mpr ⟨q, hq, rfl⟩)
      refine final_closed hk hm ?_
      refine h2 _ _ _ ?_ (h1 _ _ (final_rank hk hq) hm)
      intro r hr
      obtain ⟨x, hx, rfl⟩ := List.mem_map.mp hr
      obtain ⟨hx, hlt⟩ := List.mem_filter.mp hx
      simp at hlt
      exact ih x hx (by omega)
  intro p hp
  obtain ⟨q, hq, rfl⟩ := List.mem_map.mp hp
  have := final_num hk hq
  exact key (q.2.toNat + 1) q hq (by omega)
end
end Mi
set_option Elab.async false
set_option linter.all false
set_option maxRecDepth 100000
set_option maxHeartbeats 400000
/-! Rp: what repr gives: how long, and that places' texts differ. -/
namespace Mi
open PySem PySem.W PyProof.Rows
open Mi.En (enc)
def tx (x : Str) : List Nat := x.cps.toList
theorem tx_ext {x y : Str} (h : tx x = tx y) : x = y := by
  cases x; cases y
  simp [tx] at h
  simp [h]
theorem tx_app (x y : Str) : tx (x ++ y) = tx x ++ tx y := by
  show (x.cps ++ y.cps).toList = _
  rw [Array.toList_append]
  rfl
theorem tx_len (x : Str) : (tx x).length = x.length := by
  show x.cps.toList.length = x.cps.size
  simp
def itx (i : Int) : List Nat := tx (Str.ofString (toString i))
theorem itx_sign (i : Int) : ∀ c ∈ itx i, c = 45 ∨ (48 ≤ c ∧ c ≤ 57) := by
  intro c hc
  by_cases h : c = 45
  · exact .inl h
  · refine .inr ?_
    by_cases h2 : c < 48 ∨ 57 < c
    · exact absurd hc (int_text_free' c ⟨h, h2⟩ i)
    · omega
theorem itx_inj {i j : Int} (h : itx i = itx j) : i = j := by
  unfold itx tx at h
  rw [signs_ofString, signs_ofString] at h
  have h2 : (toString i).toList = (toString j).toList := by
    have inj : ∀ (a b : List Char), a.map Char.toNat = b.map Char.toNat → a = b := by
      intro a
      induction a with
      | nil => intro b hb; cases b with | nil => rfl | cons => cases hb
      | cons x a ih =>
        intro b hb
        cases b with
        | nil => cases hb
        | cons y b =>
          simp only [List.map_cons, List.cons.injEq] at hb
          have : x = y := by
            apply Char.ext
            apply UInt32.toNat.inj
            exact hb.1
          rw [this, ih b hb.2]
    exact inj _ _ h
  rw [Int.toString_eq_repr, Int.toString_eq_repr] at h2
  exact Int.repr_injective (String.ext h2)
theorem itx_ne (i : Int) : itx i ≠ [] := by
  unfold itx tx
  rw [signs_ofString]
  intro h
  have h : (toString i).toList = [] := by simpa using h
  rw [Int.toString_eq_repr, Int.repr_eq_if] at h
  split at h
  · rw [Nat.toList_repr] at h
    exact Nat.toDigits_ne_nil h
  · rw [String.toList_append] at h
    have := (List.append_eq_nil_iff.mp h).1
    cases this
def isSg (c : Nat) : Prop := c = 45 ∨ (48 ≤ c ∧ c ≤ 57)
theorem cut_sg {u v r r' : List Nat} {c d : Nat} (hu : ∀ x ∈ u, isSg x) (hv : ∀ x ∈ v, isSg x) (hc : ¬ isSg c) (hd : ¬ isSg d) (h : u ++ c :: r = v ++ d :: r') : u = v ∧ c :: r = d :: r' := by
  induction u generalizing v with
  | nil =>
    cases v with
    | nil => exact ⟨rfl, h⟩
    | cons y v =>
      simp only [List.nil_append, List.cons_append, List.cons.injEq] at h
      exact absurd (by rw [h.1]; exact hv y List.mem_cons_self) hc
  | cons x u ih =>
    cases v with
    | nil =>
      simp only [List.nil_append, List.cons_append, List.cons.injEq] at h
      exact absurd (by rw [← h.1]; exact hu x List.mem_cons_self) hd
    | cons y v =>
      simp only [List.cons_append, List.cons.injEq] at h
      obtain ⟨rfl, h⟩ := h
      obtain ⟨rfl, h2⟩ := ih (fun z hz => hu z (List.mem_cons_of_mem _ hz)) (fun z hz => hv z (List.mem_cons_of_mem _ hz)) h
      exact ⟨rfl, h2⟩
/-- a tuple's text, from its second item on -/
def tailT : List Int → List Nat
  | [] => [41]
  | y :: r => 44 :: 32 :: (itx y ++ tailT r)
theorem sg41 : ¬ isSg 41 := by unfold isSg; omega
theorem sg44 : ¬ isSg 44 := by unfold isSg; omega
theorem tailT_head (xs : List Int) : ∃ c r, tailT xs = c :: r ∧ ¬ isSg c := by
  cases xs with
  | nil => exact ⟨41, [], rfl, sg41⟩
  | cons y r => exact ⟨44, _, rfl, sg44⟩
theorem tailT_inj : ∀ {xs ys : List Int} {u v : List Nat}, tailT xs ++ u = tailT ys ++ v → xs = ys ∧ u = v
  | [], [], u, v, h => ⟨rfl, by simpa [tailT] using h⟩
  | [], y :: ys, u, v, h => by simp [tailT] at h
  | x :: xs, [], u, v, h => by simp [tailT] at h
  | x :: xs, y :: ys, u, v, h => by
    simp only [tailT, List.cons_append, List.append_assoc, List.cons.injEq, true_and] at h
    obtain ⟨c, r, e1, h1⟩ := tailT_head xs
    obtain ⟨d, r', e2, h2⟩ := tailT_head ys
    have h3 := h
    rw [e1, e2] at h3
    simp only [List.cons_append] at h3
    obtain ⟨e, h4⟩ := cut_sg (itx_sign x) (itx_sign y) h1 h2 h3
    have hx := itx_inj e
    subst hx
    obtain ⟨rfl, h6⟩ := tailT_inj (List.append_cancel_left h)
    exact ⟨rfl, h6⟩
def tupT : List Int → List Nat
  | [] => [40, 41]
  | [x] => 40 :: (itx x ++ [44, 41])
  | x :: y :: r => 40 :: (itx x ++ tailT (y :: r))
theorem tx_comma : tx (", " : Str) = [44, 32] := by decide +kernel
theorem join_tail : ∀ (x : Int) (xs : List Int), tx (Str.join ", " ((x :: xs).map fun n => ((toString n : String) : Str))) ++ [41] = itx x ++ tailT xs
  | x, [] => rfl
  | x, y :: r => by
    have ih := join_tail y r
    show tx (((toString x : String) : Str) ++ ", " ++ Str.join ", " ((y :: r).map fun n => ((toString n : String) : Str))) ++ [41] = _
    rw [tx_app, tx_app, tx_comma, List.append_assoc, ih]
    simp [itx, tailT]
theorem shown_tup (xs : List Int) : tx (PyData.shown (.tuple (xs.map .int))) = tupT xs := by
  simp only [PyData.shown, PyData.shownAll_ints]
  unfold tupleText
  cases xs with
  | nil => decide +kernel
  | cons x xs =>
    cases xs with
    | nil =>
      show tx (("(" : Str) ++ ((toString x : String) : Str) ++ ((",)" : String) : Str)) = _
      rw [tx_app, tx_app, show tx ("(" : Str) = [40] by decide +kernel, show tx (((",)" : String) : Str)) = [44, 41] by decide +kernel]
      rfl
    | cons y r =>
      have hl : (((x :: y :: r).map fun n => ((toString n : String) : Str)).length == 1) = false := by simp
      rw [hl]
      simp only [Bool.false_eq_true, if_false]
      rw [tx_app, tx_app, show tx ("(" : Str) = [40] by decide +kernel, show tx (((")" : String) : Str)) = [41] by decide +kernel, List.append_assoc, join_tail]
      rfl
theorem shown_pl (p : Int × Tup Int) : tx (PyData.shown (Datum.toD p)) = 40 :: (itx p.1 ++ (44 :: 32 :: (tupT p.2.items ++ [41]))) := by
  have e : (Datum.toD p : PyData) = .tuple [.int p.1, .tuple (p.2.items.map .int)] := rfl
  rw [e]
  have h2 := shown_tup p.2.items
  simp only [PyData.shown, PyData.shownAll] at h2 ⊢
  unfold tupleText
  show tx (("(" : Str) ++ (((toString p.1 : String) : Str) ++ ", " ++ tupleText (PyData.shownAll (p.2.items.map .int))) ++ ((")" : String) : Str)) = _
  rw [tx_app, tx_app, tx_app, tx_app, h2, tx_comma, show tx ("(" : Str) = [40] by decide +kernel, show tx (((")" : String) : Str)) = [41] by decide +kernel]
  simp [itx]
theorem tupT_inj {xs ys : List Int} {u v : List Nat} (h : tupT xs ++ 41 :: u = tupT ys ++ 41 :: v) : xs = ys := by
  have sg_head : ∀ (x : Int) {r : List Nat} {l : List Nat}, itx x ++ r = 41 :: l → False := by
    intro x r l h
    cases e : itx x with
    | nil => exact itx_ne x e
    | cons c s =>
      rw [e] at h
      simp only [List.cons_append, List.cons.injEq] at h
      have := itx_sign x c (by rw [e]; simp)
      omega
  match xs, ys, h with
  | [], [], _ => rfl
  | [], [y], h => simp [tupT] at h; exact (sg_head y h.symm).elim
  | [], y :: z :: r, h => simp [tupT] at h; exact (sg_head y h.symm).elim
  | [x], [], h => simp [tupT] at h; exact (sg_head x h).elim
  | x :: z :: r, [], h => simp [tupT] at h; exact (sg_head x h).elim
  | [x], [y], h =>
    simp [tupT] at h
    obtain ⟨e, _⟩ := cut_sg (itx_sign x) (itx_sign y) sg44 sg44 h
    rw [itx_inj e]
  | [x], y :: z :: r, h =>
    simp [tupT, tailT] at h
    obtain ⟨_, h⟩ := cut_sg (itx_sign x) (itx_sign y) sg44 sg44 h
    simp at h
  | x :: z :: r, [y], h =>
    simp [tupT, tailT] at h
    obtain ⟨_, h⟩ := cut_sg (itx_sign x) (itx_sign y) sg44 sg44 h
    simp at h
  | x :: z :: r, y :: z' :: r', h =>
    simp only [tupT, List.cons_append, List.append_assoc, List.cons.injEq, true_and] at h
    have h3 := h
    simp only [tailT, List.cons_append] at h3
    obtain ⟨e, _⟩ := cut_sg (itx_sign x) (itx_sign y) sg44 sg44 h3
    have hx := itx_inj e
    subst hx
    have h4 := List.append_cancel_left h
    rw [(tailT_inj h4).1]
theorem shown_pl_inj {p q : Int × Tup Int} (h : PyData.shown (Datum.toD p) = PyData.shown (Datum.toD q)) : p = q := by
  have h := congrArg tx h
  rw [shown_pl, shown_pl] at h
  simp only [List.cons.injEq, true_and] at h
  obtain ⟨e, h⟩ := cut_sg (itx_sign p.1) (itx_sign q.1) sg44 sg44 h
  have h1 := itx_inj e
  simp only [List.cons.injEq, true_and] at h
  have h2 := tupT_inj h
  obtain ⟨a, ⟨xs⟩⟩ := p
  obtain ⟨b, ⟨ys⟩⟩ := q
  simp at h1 h2
  rw [h1, h2]
theorem tup_ne_pl (xs : List Int) (p : Int × Tup Int) : PyData.shown (.tuple (xs.map .int)) ≠ PyData.shown (Datum.toD p) := by
  intro h
  have h := congrArg tx h
  rw [shown_pl, shown_tup] at h
  match xs, h with
  | [], h =>
    simp only [tupT, List.cons.injEq, true_and] at h
    cases e : itx p.1 with
    | nil => exact itx_ne _ e
    | cons c s =>
      rw [e] at h
      simp only [List.cons_append, List.cons.injEq] at h
      have := itx_sign p.1 c (by rw [e]; simp)
      omega
  | [x], h =>
    simp only [tupT, List.cons.injEq, true_and] at h
    obtain ⟨_, h⟩ := cut_sg (itx_sign x) (itx_sign p.1) sg44 sg44 h
    simp at h
  | x :: y :: r, h =>
    have e2 : ∃ l, tupT p.2.items ++ [41] = 40 :: l := by
      cases p.2.items with
      | nil => exact ⟨_, rfl⟩
      | cons a l => cases l <;> exact ⟨_, rfl⟩
    obtain ⟨l, e2⟩ := e2
    rw [e2] at h
    simp only [tupT, tailT, List.cons.injEq, true_and] at h
    obtain ⟨_, h⟩ := cut_sg (itx_sign x) (itx_sign p.1) sg44 sg44 h
    simp only [List.cons.injEq, true_and] at h
    cases e : itx y with
    | nil => exact itx_ne _ e
    | cons c s =>
      rw [e] at h
      simp only [List.cons_append, List.cons.injEq] at h
      have := itx_sign y c (by rw [e]; simp)
      omega
/-- a text that does not open as a tuple's -/
theorem head_ne_pl {x : Str} {c : Nat} {l : List Nat} (h : tx x = c :: l) (hc : c ≠ 40) (p : Int × Tup Int) : x ≠ PyData.shown (Datum.toD p) := by
  intro z
  have z := congrArg tx z
  rw [shown_pl, h] at z
  simp at z
  exact hc z.1
/-! ### how long -/
structure Fit (n d : Nat) (p : PyData) : Prop where
  sh : p.showable = true
  nd : p.hasDict = false
  ln : p.shown.length ≤ n
  dp : p.depth ≤ d
  ok : PyData.strOk p.shown = true
theorem strOk_tx {x : Str} (h : ∀ c ∈ tx x, c < 1114112) : PyData.strOk x = true := by
  unfold PyData.strOk
  rw [Array.all_eq_true']
  intro c hc
  simpa using h c (by simpa [tx] using hc)
theorem tx_of {x : Str} (h : PyData.strOk x = true) : ∀ c ∈ tx x, c < 1114112 := by
  unfold PyData.strOk at h
  rw [Array.all_eq_true'] at h
  intro c hc
  simpa using h c (by simpa [tx] using hc)
theorem strOk_app {x y : Str} (hx : PyData.strOk x = true) (hy : PyData.strOk y = true) : PyData.strOk (x ++ y) = true := strOk_tx fun c hc => by
  rw [tx_app] at hc
  rcases List.mem_append.mp hc with hc | hc
  · exact tx_of hx c hc
  · exact tx_of hy c hc
theorem strOk_join : ∀ {xs : List Str}, (∀ x ∈ xs, PyData.strOk x = true) → PyData.strOk (Str.join ", " xs) = true
  | [], _ => by decide +kernel
  | [x], h => h x List.mem_cons_self
  | x :: y :: r, h => strOk_app (strOk_app (h x List.mem_cons_self) (by decide +kernel)) (strOk_join fun z hz => h z (List.mem_cons_of_mem _ hz))
theorem join_len_le {m : Nat} : ∀ {xs : List Str}, (∀ x ∈ xs, x.length ≤ m) → (Str.join ", " xs).length ≤ xs.length * (m + 2)
  | [], _ => Nat.zero_le _
  | [x], h => by
    have := h x List.mem_cons_self
    show x.length ≤ 1 * (m + 2)
    omega
  | x :: y :: r, h => by
    have h1 := h x List.mem_cons_self
    have ih := join_len_le (m := m) (xs := y :: r) fun z hz => h z (List.mem_cons_of_mem _ hz)
    show (x ++ ", " ++ Str.join ", " (y :: r)).length ≤ _
    rw [← tx_len, tx_app, tx_app, List.length_append, List.length_append, tx_len, tx_len, tx_len]
    have : (", " : Str).length = 2 := by decide +kernel
    rw [this]
    rw [List.length_cons, Nat.succ_mul]
    omega
theorem shownAll_map : ∀ ps : List PyData, PyData.shownAll ps = ps.map PyData.shown
  | [] => rfl
  | p :: ps => by rw [PyData.shownAll, shownAll_map ps]; rfl
theorem showableAll_of : ∀ {ps : List PyData}, (∀ p ∈ ps, p.showable = true) → PyData.showableAll ps = true
  | [], _ => rfl
  | p :: ps, h => by rw [PyData.showableAll, h p List.mem_cons_self, showableAll_of fun q hq => h q (List.mem_cons_of_mem _ hq)]; rfl
theorem hasDictAll_of : ∀ {ps : List PyData}, (∀ p ∈ ps, p.hasDict = false) → PyData.hasDictAll ps = false
  | [], _ => rfl
  | p :: ps, h => by rw [PyData.hasDictAll, h p List.mem_cons_self, hasDictAll_of fun q hq => h q (List.mem_cons_of_mem _ hq)]; rfl
theorem depthAll_of {d : Nat} : ∀ {ps : List PyData}, (∀ p ∈ ps, p.depth ≤ d) → PyData.depthAll ps ≤ d
  | [], _ => by simp [PyData.depthAll]
  | p :: ps, h => by
    have h1 := h p List.mem_cons_self
    have h2 := depthAll_of (d := d) fun q hq => h q (List.mem_cons_of_mem _ hq)
    simp only [PyData.depthAll]
    omega
variable {n d k m : Nat} {ps : List PyData}
theorem Fit.list (h : ∀ p ∈ ps, Fit n d p) (hl : ps.length ≤ k) (hm : k * (n + 2) + 2 ≤ m) : Fit m (d + 1) (.list ps) := by
  have hs : ∀ x ∈ ps.map PyData.shown, x.length ≤ n := fun x hx => by obtain ⟨p, hp, rfl⟩ := List.mem_map.mp hx; exact (h p hp).ln
  have e : PyData.shown (.list ps) = ("[" : Str) ++ Str.join ", " (ps.map PyData.shown) ++ "]" := by
    rw [PyData.shown, shownAll_map, listText_eq_join]
  refine ⟨?_, ?_, ?_, ?_, ?_⟩
  · rw [PyData.showable]; exact showableAll_of fun p hp => (h p hp).sh
  · rw [PyData.hasDict]; exact hasDictAll_of fun p hp => (h p hp).nd
  · rw [e, ← tx_len, tx_app, tx_app, List.length_append, List.length_append, tx_len, tx_len, tx_len]
    have h1 := join_len_le hs
    have : ("[" : Str).length = 1 := by decide +kernel
    have : ("]" : Str).length = 1 := by decide +kernel
    have h3 : ps.length * (n + 2) ≤ k * (n + 2) := Nat.mul_le_mul_right _ hl
    rw [List.length_map] at h1
    omega
  · have := depthAll_of fun p hp => (h p hp).dp
    simp only [PyData.depth]
    omega
  · rw [e]
    exact strOk_app (strOk_app (by decide +kernel) (strOk_join fun x hx => by obtain ⟨p, hp, rfl⟩ := List.mem_map.mp hx; exact (h p hp).ok)) (by decide +kernel)
theorem Fit.tup (h : ∀ p ∈ ps, Fit n d p) (hl : ps.length ≤ k) (hm : k * (n + 2) + 3 ≤ m) : Fit m (d + 1) (.tuple ps) := by
  have hs : ∀ x ∈ ps.map PyData.shown, x.length ≤ n := fun x hx => by obtain ⟨p, hp, rfl⟩ := List.mem_map.mp hx; exact (h p hp).ln
  have e : PyData.shown (.tuple ps) = ("(" : Str) ++ Str.join ", " (ps.map PyData.shown) ++ (if (ps.map PyData.shown).length == 1 then ",)" else ")" : String) := by
    rw [PyData.shown, shownAll_map]
    rfl
  refine ⟨?_, ?_, ?_, ?_, ?_⟩
  · rw [PyData.showable]; exact showableAll_of fun p hp => (h p hp).sh
  · rw [PyData.hasDict]; exact hasDictAll_of fun p hp => (h p hp).nd
  · rw [e, ← tx_len, tx_app, tx_app, List.length_append, List.length_append, tx_len, tx_len, tx_len]
    have h1 := join_len_le hs
    have : ("(" : Str).length = 1 := by decide +kernel
    have : (((if (ps.map PyData.shown).length == 1 then ",)" else ")" : String) : Str)).length ≤ 2 := by split <;> decide +kernel
    have h3 : ps.length * (n + 2) ≤ k * (n + 2) := Nat.mul_le_mul_right _ hl
    rw [List.length_map] at h1
    omega
  · have := depthAll_of fun p hp => (h p hp).dp
    simp only [PyData.depth]
    omega
  · rw [e]
    exact strOk_app (strOk_app (by decide +kernel) (strOk_join fun x hx => by obtain ⟨p, hp, rfl⟩ := List.mem_map.mp hx; exact (h p hp).ok)) (by split <;> decide +kernel)
theorem Fit.mono {n' d' : Nat} {p : PyData} (h : Fit n d p) (hn : n ≤ n') (hd : d ≤ d') : Fit n' d' p := ⟨h.sh, h.nd, Nat.le_trans h.ln hn, Nat.le_trans h.dp hd, h.ok⟩
theorem Fit.int {i : Int} (h : i.natAbs < 10 ^ 20) : Fit 21 0 (.int i) := by
  have hlog : i.natAbs.log2 < 1920 := by
    have : i.natAbs < 2 ^ 1920 := Nat.lt_trans h (by decide +kernel)
    by_cases z : i.natAbs = 0
    · rw [z]; decide
    · exact (Nat.log2_lt z).mpr this
  refine ⟨?_, rfl, ?_, Nat.zero_le _, ?_⟩
  · rw [PyData.showable]; simpa using hlog
  · have h1 := int_text_length_le10 (a := i) (k := 20) (by decide) h
    show (Str.ofString (toString i)).length ≤ 21
    rw [← tx_len]
    unfold tx
    rw [signs_ofString, List.length_map]
    simpa [String.length_toList] using h1
  · exact strOk_tx fun c hc => by
      have := itx_sign i c hc
      omega
theorem Fit.bool (b : Bool) : Fit 5 0 (.bool b) := by
  refine ⟨rfl, rfl, ?_, Nat.zero_le _, ?_⟩ <;> cases b <;> decide +kernel
theorem Fit.none : Fit 4 0 .none := ⟨rfl, rfl, by decide +kernel, Nat.zero_le _, by decide +kernel⟩
theorem v_repr {s : S} {Q : VQ} {x : D} {p : PyData} (h : s.py x = some p) (f : Fit 16777216 64 p) : (evBi .repr [x] s).W Q = Q (.str p.shown) s := by
  have h1 := f.ln
  have h2 := f.dp
  show Res.W (match s.py x with | some p => if (p.showable && !p.hasDict && decide (p.depth ≤ 64) && decide (p.shown.length ≤ sizeLine)) = true then .ok (.str p.shown) s else .stuck | none => .stuck) Q = _
  rw [h]
  simp only [f.sh, f.nd, h2, PySem.sizeLine_eq, h1, decide_true, Bool.not_false, Bool.and_self, if_true]
  rfl
theorem c_eqs {s : S} {Q : VQ} {x y : Str} (hx : PyData.strOk x = true) (hy : PyData.strOk y = true) : (evCmp .eq (.str x) (.str y) s).W Q = Q (.bl (decide (x = y))) s := by
  have h1 : s.py (.str x) = some (.str x) := rfl
  have h2 : s.py (.str y) = some (.str y) := rfl
  have h3 : SeqAt.shaped (.str x) = true := by unfold SeqAt.shaped; rw [show PyData.canLay0 (.str x) = PyData.strOk x from rfl, hx]; rfl
  have h4 : SeqAt.shaped (.str y) = true := by unfold SeqAt.shaped; rw [show PyData.canLay0 (.str y) = PyData.strOk y from rfl, hy]; rfl
  have h5 : PyData.eqv (.str x) (.str y) = decide (x = y) := by simp [PyData.eqv]; rw [Bool.eq_iff_iff]; simp
  simp only [evCmp, S.eqv, h1, h2, h3, h4, h5, Bool.and_self, if_true]
  rfl
theorem c_nes {s : S} {Q : VQ} {x y : Str} (hx : PyData.strOk x = true) (hy : PyData.strOk y = true) : (evCmp .ne (.str x) (.str y) s).W Q = Q (.bl (!decide (x = y))) s := by
  have h1 : s.py (.str x) = some (.str x) := rfl
  have h2 : s.py (.str y) = some (.str y) := rfl
  have h3 : SeqAt.shaped (.str x) = true := by unfold SeqAt.shaped; rw [show PyData.canLay0 (.str x) = PyData.strOk x from rfl, hx]; rfl
  have h4 : SeqAt.shaped (.str y) = true := by unfold SeqAt.shaped; rw [show PyData.canLay0 (.str y) = PyData.strOk y from rfl, hy]; rfl
  have h5 : PyData.eqv (.str x) (.str y) = decide (x = y) := by simp [PyData.eqv]; rw [Bool.eq_iff_iff]; simp
  simp only [evCmp, S.eqv, h1, h2, h3, h4, h5, Bool.and_self, if_true]
  rfl
/-- a text among texts -/
theorem c_inStr {s : S} {x : Str} {ys : List Str} (hx : PyData.strOk x = true) (hy : ∀ y ∈ ys, PyData.strOk y = true) : s.isIn (.str x) (.lst (ys.map .str)) = some (isin x ys) := by
  have h1 : s.py (.str x) = some (.str x) := rfl
  have h2 : s.pys (ys.map .str) = some (ys.map .str) := by
    clear hy
    induction ys with
    | nil => rfl
    | cons y ys ih =>
      show toPys _ _ = _
      rw [List.map_cons, toPys]
      rw [show toPys (s.look 4) (ys.map D.str) = some (ys.map .str) from ih]
      rfl
  have h3 : SeqAt.shaped (.str x) = true := by unfold SeqAt.shaped; rw [show PyData.canLay0 (.str x) = PyData.strOk x from rfl, hx]; rfl
  have h4 : SeqAt.shaped (.list (ys.map .str)) = true := by
    unfold SeqAt.shaped
    have e1 : PyData.canLay0 (.list (ys.map .str)) = true := by
      show PyData.canLayAll0 _ = true
      clear h2
      induction ys with
      | nil => rfl
      | cons y ys ih =>
        rw [List.map_cons, PyData.canLayAll0, show PyData.canLay0 (.str y) = PyData.strOk y from rfl, hy y List.mem_cons_self, ih fun z hz => hy z (List.mem_cons_of_mem _ hz)]
        rfl
    have e2 : PyData.depth (.list (ys.map .str)) ≤ 64 := by
      have := depthAll_of (d := 0) (ps := ys.map .str) fun p hp => by obtain ⟨y, _, rfl⟩ := List.mem_map.mp hp; exact Nat.le_refl _
      simp only [PyData.depth]
      omega
    rw [e1, decide_eq_true e2]
    rfl
  have h5 : ((ys.map PyData.str).any fun z => PyData.eqv z (.str x)) = isin x ys := by
    rw [List.any_map]
    rw [Bool.eq_iff_iff, isin_iff]
    simp [PyData.eqv]
  simp only [S.isIn, h1, h2, h3, h4, h5, Bool.and_self, if_true]
theorem c_instr {s : S} {Q : VQ} {x : Str} {ys : List Str} (hx : PyData.strOk x = true) (hy : ∀ y ∈ ys, PyData.strOk y = true) : (evCmp .isin (.str x) (.lst (ys.map .str)) s).W Q = Q (.bl (isin x ys)) s := by
  simp only [evCmp, c_inStr hx hy]
  rfl
theorem c_notinstr {s : S} {Q : VQ} {x : Str} {ys : List Str} (hx : PyData.strOk x = true) (hy : ∀ y ∈ ys, PyData.strOk y = true) : (evCmp .notin (.str x) (.lst (ys.map .str)) s).W Q = Q (.bl (!isin x ys)) s := by
  simp only [evCmp, c_inStr hx hy]
  rfl
/-- repr(a) != repr(b), the same -/
theorem c_neself {s : S} {Q : VQ} {x : Str} (hx : PyData.strOk x = true) : (evCmp .ne (.str x) (.str x) s).W Q = Q (.bl false) s := by
  rw [c_nes hx hx]
  simp
end Mi
set_option Elab.async false
set_option linter.all false
set_option maxRecDepth 100000
set_option maxHeartbeats 400000
/-! Vl: values that are nearly tables. -/
namespace Mi
open PySem PySem.W PyProof.Rows
open Mi.En (enc)
/-- a part of a row -/
inductive Pt where
  | int (i : Int) | non | bl (b : Bool) | str (x : Str) | tup (xs : List Int) | pl (p : Int × Tup Int)
namespace Pt
def d : Pt → D
  | .int i => .int i
  | .non => .non
  | .bl b => .bl b
  | .str x => .str x
  | .tup xs => .tup (xs.map enc)
  | .pl p => enc p
def y : Pt → PyData
  | .int i => .int i
  | .non => .none
  | .bl b => .bool b
  | .str x => .str x
  | .tup xs => .tuple (xs.map .int)
  | .pl p => Datum.toD p
def ty : Pt → Ty
  | .int _ => .int
  | .non => .non
  | .bl _ => .bl
  | .str _ => .str
  | .tup _ => .tup
  | .pl _ => .tup
def Ok (q : Pt) : Prop := PyData.canLay0 q.y = true
theorem lay_int (i : Int) : Ok (.int i) := rfl
theorem lay_non : Ok .non := rfl
theorem lay_bl (b : Bool) : Ok (.bl b) := rfl
theorem lay_str {x : Str} (h : PyData.strOk x = true) : Ok (.str x) := by
  show PyData.canLay0 (.str x) = true
  rw [PyData.canLay0]
  exact h
theorem lay_pl (p : Int × Tup Int) : Ok (.pl p) := En.lay p
theorem lay_tup (xs : List Int) : Ok (.tup xs) := by
  show PyData.canLayAll0 (xs.map PyData.int) = true
  exact lays_map (α := Int) xs
theorem depth (q : Pt) : q.y.depth ≤ 4 := by
  cases q with
  | tup xs =>
    have := depthAll_of (d := 0) (ps := xs.map PyData.int) fun p hp => by obtain ⟨x, _, rfl⟩ := List.mem_map.mp hp; exact Nat.le_refl _
    simp only [y, PyData.depth]
    omega
  | pl p => exact Nat.le_trans (Datum.depth_le p) (by decide)
  | _ => exact Nat.zero_le _
theorem py {q : Pt} (lk : Nat → Option PyData) : toPy lk q.d = some q.y := by
  cases q with
  | tup xs =>
    show (toPys lk (xs.map enc)).map PyData.tuple = _
    rw [toPys_map]
    rfl
  | pl p => exact En.py lk p
  | _ => rfl
theorem low {q : Pt} (n : Nat) : below n q.d = true := by
  cases q with
  | tup xs => exact lows_map n xs
  | pl p => exact En.low n p
  | _ => rfl
theorem tyOf {q : Pt} {s : S} : s.tyOf q.d = some q.ty := by cases q <;> rfl
def int? : Pt → Option Int
  | .int i => some i
  | _ => none
def pl? : Pt → Option (Int × Tup Int)
  | .pl p => some p
  | _ => none
end Pt
theorem pys_pts (lk : Nat → Option PyData) : ∀ qs : List Pt, toPys lk (qs.map Pt.d) = some (qs.map Pt.y)
  | [] => rfl
  | q :: qs => by rw [List.map_cons, toPys, Pt.py, pys_pts lk qs]; rfl
theorem lows_pts (n : Nat) : ∀ qs : List Pt, belows n (qs.map Pt.d) = true
  | [] => rfl
  | q :: qs => by rw [List.map_cons, belows, Pt.low, lows_pts n qs]; rfl
theorem lays_pts : ∀ {qs : List Pt}, (∀ q ∈ qs, q.Ok) → PyData.canLayAll0 (qs.map Pt.y) = true
  | [], _ => rfl
  | q :: qs, h => by rw [List.map_cons, PyData.canLayAll0, (show PyData.canLay0 q.y = true from h q List.mem_cons_self), lays_pts fun z hz => h z (List.mem_cons_of_mem _ hz)]; rfl
structure Rw where
  lst : Bool
  parts : List Pt
namespace Rw
def d (r : Rw) : D := match r.lst with
  | true => .lst (r.parts.map Pt.d)
  | false => .tup (r.parts.map Pt.d)
def y (r : Rw) : PyData := match r.lst with
  | true => .list (r.parts.map Pt.y)
  | false => .tuple (r.parts.map Pt.y)
def Ok (r : Rw) : Prop := (∀ q ∈ r.parts, q.Ok) ∧ r.parts.length ≤ 8 ∧ ∀ q, r.parts.head? = some q → Fit 1000 4 q.y
theorem py {r : Rw} (lk : Nat → Option PyData) : toPy lk r.d = some r.y := by
  obtain ⟨b, qs⟩ := r
  cases b with
  | true => show (toPys lk (qs.map Pt.d)).map PyData.list = _; rw [pys_pts]; rfl
  | false => show (toPys lk (qs.map Pt.d)).map PyData.tuple = _; rw [pys_pts]; rfl
theorem low {r : Rw} (n : Nat) : below n r.d = true := by
  obtain ⟨b, qs⟩ := r
  cases b <;> exact lows_pts n qs
theorem lay {r : Rw} (h : r.Ok) : PyData.canLay0 r.y = true := by
  obtain ⟨b, qs⟩ := r
  cases b <;> exact lays_pts h.1
theorem depth {r : Rw} : r.y.depth ≤ 5 := by
  obtain ⟨b, qs⟩ := r
  have := depthAll_of (d := 4) (ps := qs.map Pt.y) fun p hp => by obtain ⟨q, hq, rfl⟩ := List.mem_map.mp hp; exact q.depth
  cases b <;> simp only [y, PyData.depth] <;> omega
def ty (r : Rw) : Ty := if r.lst then .lst else .tup
theorem tyOf {r : Rw} {s : S} : s.tyOf r.d = some r.ty := by
  obtain ⟨b, qs⟩ := r
  cases b <;> rfl
theorem len {r : Rw} {s : S} {Q : VQ} : (evBi .len [r.d] s).W Q = Q (.int r.parts.length) s := by
  obtain ⟨b, qs⟩ := r
  cases b
  · show Q (.int ((qs.map Pt.d).length : Nat)) s = _; rw [List.length_map]
  · show Q (.int ((qs.map Pt.d).length : Nat)) s = _; rw [List.length_map]
end Rw
/-- a value: nothing, a number, rows -/
inductive Vl where
  | non | int (i : Int) | rows (tl : Bool) (rs : List Rw)
namespace Vl
def d : Vl → D
  | .non => .non
  | .int i => .int i
  | .rows true rs => .tup (rs.map Rw.d)
  | .rows false rs => .lst (rs.map Rw.d)
def Ok : Vl → Prop
  | .rows _ rs => (∀ r ∈ rs, r.Ok) ∧ rs.length ≤ 2000
  | _ => True
def ty : Vl → Ty
  | .non => .non
  | .int _ => .int
  | .rows tl _ => if tl then .tup else .lst
theorem tyOf {v : Vl} {s : S} : s.tyOf v.d = some v.ty := by
  cases v with
  | rows tl rs => cases tl <;> rfl
  | _ => rfl
theorem walk {tl : Bool} {rs : List Rw} {s : S} : s.walk (Vl.rows tl rs).d = some (rs.map Rw.d) := by cases tl <;> rfl
theorem walkS {tl : Bool} {rs : List Rw} {s : S} : s.walkS (Vl.rows tl rs).d = some (rs.map Rw.d) := by cases tl <;> rfl
theorem lows_rows (n : Nat) : ∀ rs : List Rw, belows n (rs.map Rw.d) = true
  | [] => rfl
  | r :: rs => by rw [List.map_cons, belows, Rw.low, lows_rows n rs]; rfl
theorem low {v : Vl} (n : Nat) : below n v.d = true := by
  cases v with
  | rows tl rs => cases tl <;> exact lows_rows n rs
  | _ => rfl
end Vl
def cutL {α : Type} (lo hi : Option Int) (xs : List α) : List α := (xs.drop (HT.sIx xs.length 0 lo)).take (HT.sIx xs.length xs.length hi - HT.sIx xs.length 0 lo)
theorem cutD_cut {α : Type} (f : α → D) (xs : List α) (lo hi : Option Int) : cutD (xs.map f) lo hi = (cutL lo hi xs).map f := by
  unfold cutD cutL
  rw [List.length_map, ← List.map_drop, ← List.map_take]
theorem cutL_to {α : Type} {xs : List α} {k : Int} (h : 0 ≤ k) : cutL none (some k) xs = xs.take k.toNat := by
  have e : HT.sIx xs.length xs.length (some k) = min k.toNat xs.length := if_neg (by omega)
  have e0 : HT.sIx xs.length 0 none = 0 := rfl
  unfold cutL
  rw [e, e0, List.drop_zero, Nat.sub_zero]
  by_cases hk : k.toNat ≤ xs.length
  · rw [Nat.min_eq_left hk]
  · rw [Nat.min_eq_right (by omega), List.take_length, List.take_of_length_le (by omega)]
theorem cutL_from {α : Type} {xs : List α} {k : Int} (h : 0 ≤ k) : cutL (some k) none xs = xs.drop k.toNat := by
  have e : HT.sIx xs.length 0 (some k) = min k.toNat xs.length := if_neg (by omega)
  have e0 : HT.sIx xs.length xs.length none = xs.length := rfl
  unfold cutL
  rw [e, e0]
  by_cases hk : k.toNat ≤ xs.length
  · rw [Nat.min_eq_left hk, List.take_of_length_le (by rw [List.length_drop]; exact Nat.le_refl _)]
  · rw [Nat.min_eq_right (by omega), List.drop_length, List.drop_eq_nil_of_le (by omega)]
    simp
theorem mem_cut {α : Type} {xs : List α} {lo hi : Option Int} {x : α} (h : x ∈ cutL lo hi xs) : x ∈ xs := List.mem_of_mem_drop (List.mem_of_mem_take h)
theorem cut_len {α : Type} {xs : List α} {lo hi : Option Int} : (cutL lo hi xs).length ≤ xs.length := by
  unfold cutL
  rw [List.length_take, List.length_drop]
  omega
theorem cut_1 {ds : List D} : cutD ds (some 1) none = ds.drop 1 := by
  unfold cutD HT.sIx
  simp
  cases ds with
  | nil => rfl
  | cons d ds =>
    have h1 : min 1 ((d :: ds).length) = 1 := by simp
    first
      | (rw [h1]; simp)
      | simp
theorem slice_rows {tl : Bool} {rs : List Rw} {s : S} {Q : VQ} : (evSl (Vl.rows tl rs).d (some 1) none s).W Q = Q (Vl.rows tl (rs.drop 1)).d s := by
  cases tl
  · show Q (.lst (cutD (rs.map Rw.d) (some 1) none)) s = _; rw [cut_1, ← List.map_drop]; rfl
  · show Q (.tup (cutD (rs.map Rw.d) (some 1) none)) s = _; rw [cut_1, ← List.map_drop]; rfl
theorem isTup_rows {tl : Bool} {rs qs : List Rw} : (isTupD (Vl.rows tl rs).d = isTupD (Vl.rows tl qs).d) = True := by cases tl <;> simp [Vl.d, isTupD]
theorem zipD_map {α β : Type} (f : α → D) (g : β → D) : ∀ (xs : List α) (ys : List β), zipD (xs.map f) (ys.map g) = (xs.zip ys).map fun p => .tup [f p.1, g p.2]
  | [], _ => rfl
  | _ :: _, [] => rfl
  | x :: xs, y :: ys => by simp only [List.map_cons, zipD, List.zip_cons_cons, zipD_map f g xs ys]
/-- [.. if ..] == [], the values read -/
theorem nil_map {α : Type} {s : S} {xs : List α} {h : α → D} {y : α → PyData} (hp : ∀ x ∈ xs, s.py (h x) = some (y x)) (hl : ∀ x ∈ xs, PyData.canLay0 (y x) = true) (hd : ∀ x ∈ xs, (y x).depth ≤ 60) : s.eqv (.lst (xs.map h)) (.lst []) = some xs.isEmpty := by
  have h1 : s.pys (xs.map h) = some (xs.map y) := by
    clear hl hd
    induction xs with
    | nil => rfl
    | cons x xs ih =>
      show toPys _ _ = _
      rw [List.map_cons, toPys, show toPy (s.look 4) (h x) = some (y x) from hp x List.mem_cons_self, show toPys (s.look 4) (xs.map h) = some (xs.map y) from ih fun z hz => hp z (List.mem_cons_of_mem _ hz)]
      rfl
  have h2 : SeqAt.shaped (.list (xs.map y)) = true := by
    unfold SeqAt.shaped
    have e1 : PyData.canLay0 (.list (xs.map y)) = true := by
      show PyData.canLayAll0 _ = true
      clear h1 hp hd
      induction xs with
      | nil => rfl
      | cons x xs ih =>
        rw [List.map_cons, PyData.canLayAll0, hl x List.mem_cons_self, ih fun z hz => hl z (List.mem_cons_of_mem _ hz)]
        rfl
    have e2 : PyData.depth (.list (xs.map y)) ≤ 64 := by
      have := depthAll_of (d := 60) (ps := xs.map y) fun p hp => by obtain ⟨x, hx, rfl⟩ := List.mem_map.mp hp; exact hd x hx
      simp only [PyData.depth]
      omega
    rw [e1, decide_eq_true e2]
    rfl
  rw [nil_eqv s _ _ h1 h2]
  cases xs <;> rfl
theorem c_eqNy {α : Type} {s : S} {Q : VQ} {xs : List α} {h : α → D} {y : α → PyData} (hp : ∀ x ∈ xs, s.py (h x) = some (y x)) (hl : ∀ x ∈ xs, PyData.canLay0 (y x) = true) (hd : ∀ x ∈ xs, (y x).depth ≤ 60) : (evCmp .eq (.lst (xs.map h)) (.lst []) s).W Q = Q (.bl xs.isEmpty) s := by
  show Res.W (match s.eqv (.lst (xs.map h)) (.lst []) with | some r => .ok (.bl r) s | none => .stuck) Q = _
  rw [nil_map hp hl hd]
  rfl
theorem c_neNy {α : Type} {s : S} {Q : VQ} {xs : List α} {h : α → D} {y : α → PyData} (hp : ∀ x ∈ xs, s.py (h x) = some (y x)) (hl : ∀ x ∈ xs, PyData.canLay0 (y x) = true) (hd : ∀ x ∈ xs, (y x).depth ≤ 60) : (evCmp .ne (.lst (xs.map h)) (.lst []) s).W Q = Q (.bl (!xs.isEmpty)) s := by
  show Res.W (match s.eqv (.lst (xs.map h)) (.lst []) with | some r => .ok (.bl (!r)) s | none => .stuck) Q = _
  rw [nil_map hp hl hd]
  rfl
section
variable {α : Type} {f : D → S → Res (Option D)} {s : S} {e : α → D} {c : Cc} {τ : Tau} {Q : VQ}
theorem W_eqNy {xs : List α} (p : α → Bool) (h : α → D) (y : α → PyData) (hp : ∀ x ∈ xs, s.py (h x) = some (y x)) (hl : ∀ x ∈ xs, PyData.canLay0 (y x) = true) (hd : ∀ x ∈ xs, (y x).depth ≤ 60)
    (k : ∀ x ∈ xs, (f (e x) s).W (isQ (if p x = true then some (h x) else none) s)) (q : Q (.bl (!xs.any p)) s) : (loopC f (xs.map e) s).W (kCompEnd false (kCmp1 c τ .eq (.lst .nil) Q)) := by
  refine W_filter p h k ?_
  simp only [↓wE, ↓wC, wV, wM]
  show Res.W (match s.eqv (.lst ((xs.filter p).map h)) (.lst []) with | some r => .ok (.bl r) s | none => .stuck) Q
  rw [nil_map (fun x hx => hp x (List.mem_filter.mp hx).1) (fun x hx => hl x (List.mem_filter.mp hx).1) (fun x hx => hd x (List.mem_filter.mp hx).1), filter_empty]
  exact q
theorem W_neNy {xs : List α} (p : α → Bool) (h : α → D) (y : α → PyData) (hp : ∀ x ∈ xs, s.py (h x) = some (y x)) (hl : ∀ x ∈ xs, PyData.canLay0 (y x) = true) (hd : ∀ x ∈ xs, (y x).depth ≤ 60)
    (k : ∀ x ∈ xs, (f (e x) s).W (isQ (if p x = true then some (h x) else none) s)) (q : Q (.bl (xs.any p)) s) : (loopC f (xs.map e) s).W (kCompEnd false (kCmp1 c τ .ne (.lst .nil) Q)) := by
  refine W_filter p h k ?_
  simp only [↓wE, ↓wC, wV, wM]
  show Res.W (match s.eqv (.lst ((xs.filter p).map h)) (.lst []) with | some r => .ok (.bl (!r)) s | none => .stuck) Q
  rw [nil_map (fun x hx => hp x (List.mem_filter.mp hx).1) (fun x hx => hl x (List.mem_filter.mp hx).1) (fun x hx => hd x (List.mem_filter.mp hx).1), filter_empty]
  show Q (.bl (!(!xs.any p))) s
  rw [Bool.not_not]
  exact q
end
section
variable {α : Type} {c : Cc} {g : MG} {b : MSs} {e : α → D} {N : TQ} {R : VQ}
/-- for, that hands back at the first for which p fails -/
theorem W_fall {xs : List α} {τ : Tau} {s : S} (p : α → Bool) (I : Tau → S → Prop) (Rf : VQ) (h : I τ s) (k : ∀ x ∈ xs, ∀ τ s, I τ s → (evG c g (e x) τ s).W fun τ1 s1 => (evSs c b τ1 s1).W (fun τ2 s2 => p x = true ∧ I τ2 s2) (fun d t => p x = false ∧ Rf d t) (fun τ2 s2 => p x = true ∧ I τ2 s2) noT)
    (q1 : xs.all p = true → ∀ τ s, I τ s → N τ s) (q2 : xs.all p = false → ∀ d t, Rf d t → R d t) : (loopF (evG c g) (evSs c b) (xs.map e) τ s).W N R noT noT := by
  refine W_for (fun pre τ s => pre.all p = true ∧ I τ s) ⟨rfl, h⟩ ?_ (fun τ s h => q1 h.1 τ s h.2)
  rintro pre x post τ s hx ⟨h1, h2⟩
  refine (k x (by rw [hx]; simp) τ s h2).mono fun τ1 s1 h3 => h3.mono ?_ ?_ ?_ ?_
  · rintro τ2 s2 ⟨h4, h5⟩
    exact ⟨by rw [List.all_append, h1]; simp [h4], h5⟩
  · rintro d t ⟨h4, h5⟩
    exact q2 (by rw [hx, List.all_append, List.all_cons, h4]; simp) d t h5
  · rintro τ2 s2 ⟨h4, h5⟩
    exact ⟨by rw [List.all_append, h1]; simp [h4], h5⟩
  · intro _ _ h
    exact h.elim
end
/-! ### rows that open with places -/
abbrev PRow : Type := (Int × Tup Int) × List Pt
def PRow.r (t : PRow) : Rw := ⟨false, .pl t.1 :: t.2⟩
def asP (r : Rw) : Option PRow := match r.lst, r.parts with
  | false, .pl p :: qs => some (p, qs)
  | _, _ => none
/-- the rows, if each is a tuple so wide that opens with a place for which ok holds, these rising -/
def rowsP (ok : Int × Tup Int → Bool) (width : Nat) : Vl → Option (List PRow)
  | .rows _ rs => match rs.mapM asP with
    | some ts => if ts.all (fun t => decide (t.2.length + 1 = width) && ok t.1) && ((ts.zip (ts.drop 1)).all fun q => DatumOrd.lt q.1.1 q.2.1) then some ts else none
    | none => none
  | _ => none
theorem asP_r (t : PRow) : asP t.r = some t := rfl
theorem asP_eq {r : Rw} {t : PRow} (h : asP r = some t) : r = t.r := by
  obtain ⟨b, qs⟩ := r
  unfold asP at h
  split at h
  · rename_i h1 h2
    cases h
    simp at h1 h2
    subst h1 h2
    rfl
  · cases h
theorem mapM_some {rs : List Rw} {ts : List PRow} (h : rs.mapM asP = some ts) : rs = ts.map PRow.r := by
  induction rs generalizing ts with
  | nil =>
    simp at h
    subst h
    rfl
  | cons r rs ih =>
    rw [List.mapM_cons] at h
    cases e1 : asP r with
    | none => rw [e1] at h; cases h
    | some t =>
      rw [e1] at h
      cases e2 : rs.mapM asP with
      | none => rw [e2] at h; cases h
      | some us =>
        rw [e2] at h
        cases h
        rw [asP_eq e1, ih e2]
        rfl
theorem mapM_none {rs : List Rw} (h : rs.mapM asP = none) : ∃ r ∈ rs, asP r = none := by
  induction rs with
  | nil => simp at h
  | cons r rs ih =>
    rw [List.mapM_cons] at h
    cases e1 : asP r with
    | none => exact ⟨r, List.mem_cons_self, e1⟩
    | some t =>
      rw [e1] at h
      cases e2 : rs.mapM asP with
      | none => obtain ⟨q, h1, h2⟩ := ih e2; exact ⟨q, List.mem_cons_of_mem _ h1, h2⟩
      | some us => rw [e2] at h; cases h
theorem mapM_r (ts : List PRow) : (ts.map PRow.r).mapM asP = some ts := by
  induction ts with
  | nil => rfl
  | cons t ts ih =>
    rw [List.map_cons, List.mapM_cons, ih, asP_r]
    rfl
theorem rowsP_map {ok : Int × Tup Int → Bool} {width : Nat} {tl : Bool} {ts : List PRow} : rowsP ok width (.rows tl (ts.map PRow.r)) = if (ts.all (fun t => decide (t.2.length + 1 = width) && ok t.1) && ((ts.zip (ts.drop 1)).all fun q => DatumOrd.lt q.1.1 q.2.1)) = true then some ts else none := by
  show (match (ts.map PRow.r).mapM asP with | some ts => _ | none => none) = _
  rw [mapM_r]
theorem rowsP_eq {ok : Int × Tup Int → Bool} {width : Nat} {v : Vl} {ts : List PRow} (h : rowsP ok width v = some ts) : ∃ tl, v = .rows tl (ts.map PRow.r) ∧ (∀ t ∈ ts, t.2.length + 1 = width ∧ ok t.1 = true) ∧ ((ts.zip (ts.drop 1)).all fun q => DatumOrd.lt q.1.1 q.2.1) = true := by
  unfold rowsP at h
  split at h
  · rename_i tl rs
    split at h
    · rename_i us e
      split at h
      · rename_i hb
        cases h
        rw [Bool.and_eq_true] at hb
        refine ⟨tl, by rw [mapM_some e], fun t ht => ?_, hb.2⟩
        have := List.all_eq_true.mp hb.1 t ht
        simpa using this
      · cases h
    · cases h
  · cases h
/-! ### texts of parts -/
theorem foldl_head {α : Type} (g : α → List Nat) : ∀ (cs : List α) (acc : Array Nat) (c : Nat) (l : List Nat), acc.toList = c :: l → ∃ l', (cs.foldl (fun out c => out ++ (g c).toArray) acc).toList = c :: l'
  | [], acc, c, l, h => ⟨l, h⟩
  | d :: cs, acc, c, l, h => foldl_head g cs _ c (l ++ g d) (by rw [Array.toList_append, h]; rfl)
theorem reprText_head (x : Str) : ∃ l, tx (reprText x) = reprQuote x :: l := by
  unfold reprText tx
  rw [Array.toList_push, ← Array.foldl_toList]
  obtain ⟨l, h⟩ := foldl_head _ x.cps.toList #[reprQuote x] (reprQuote x) [] rfl
  exact ⟨l ++ [reprQuote x], by rw [h]; rfl⟩
theorem shown_ne_pl {q : Pt} (hq : q.pl? = none) (p : Int × Tup Int) : PyData.shown q.y ≠ PyData.shown (Datum.toD p) := by
  cases q with
  | pl _ => cases hq
  | tup xs => exact tup_ne_pl xs p
  | int i =>
    cases e : itx i with
    | nil => exact absurd e (itx_ne i)
    | cons c l =>
      have := itx_sign i c (by rw [e]; simp)
      exact head_ne_pl (x := PyData.shown (.int i)) (c := c) (l := l) e (by omega) p
  | non => exact head_ne_pl (x := PyData.shown .none) (c := 78) (l := [111, 110, 101]) (by decide +kernel) (by decide) p
  | bl b =>
    cases b with
    | true => exact head_ne_pl (x := PyData.shown (.bool true)) (c := 84) (l := [114, 117, 101]) (by decide +kernel) (by decide) p
    | false => exact head_ne_pl (x := PyData.shown (.bool false)) (c := 70) (l := [97, 108, 115, 101]) (by decide +kernel) (by decide) p
  | str x =>
    obtain ⟨l, h⟩ := reprText_head x
    have hq : reprQuote x ≠ 40 := by unfold reprQuote; split <;> decide
    exact head_ne_pl (x := PyData.shown (.str x)) (c := reprQuote x) (l := l) (by rw [← h]; simp only [PyData.shown, Pt.y]) hq p
/-- which parts are among places, by their texts -/
def isPl (ps : List (Int × Tup Int)) : Pt → Bool
  | .pl p => isin p ps
  | _ => false
theorem isin_shown {ps : List (Int × Tup Int)} {q : Pt} : isin (PyData.shown q.y) (ps.map fun p => PyData.shown (Datum.toD p)) = isPl ps q := by
  rw [Bool.eq_iff_iff, isin_iff]
  constructor
  · intro h
    obtain ⟨p, hp, e⟩ := List.mem_map.mp h
    cases q with
    | pl p' =>
      have : p = p' := shown_pl_inj e
      subst this
      exact isin_iff.mpr hp
    | _ => exact absurd e.symm (shown_ne_pl rfl p)
  · intro h
    cases q with
    | pl p' => exact List.mem_map.mpr ⟨p', isin_iff.mp h, rfl⟩
    | _ => cases h
end Mi
set_option Elab.async false
set_option linter.all false
set_option maxRecDepth 100000
set_option maxHeartbeats 400000
/-! W7: loops over few values; a cell that moves while others are made. -/
namespace Mi
open PySem PySem.W
open Mi.En (enc)
section
variable {c : Cc} {g : MG} {b : MSs} {τ : Tau} {s : S} {N : TQ} {R : VQ}
def kLn (c : Cc) (g : MG) (b : MSs) (ds : List D) (N : TQ) (R : VQ) : TQ := fun τ s => (loopF (evG c g) (evSs c b) ds τ s).W N R noT noT
def kLp (c : Cc) (g : MG) (b : MSs) (ds : List D) (N : TQ) (R : VQ) : TQ := fun τ s => (evSs c b τ s).W (kLn c g b ds N R) R (kLn c g b ds N R) N
theorem loop_nil : (loopF (evG c g) (evSs c b) [] τ s).W N R noT noT = N τ s := rfl
theorem loop_cons {d : D} {ds : List D} : (loopF (evG c g) (evSs c b) (d :: ds) τ s).W N R noT noT = (evG c g d τ s).W (kLp c g b ds N R) := by
  rw [loopF]
  cases evG c g d τ s with
  | ok τ1 s1 =>
    show Fl.W (match evSs c b τ1 s1 with | .nx τ2 s2 => _ | .ct τ2 s2 => _ | .bk τ2 s2 => _ | .rt d s2 => _ | .exc x τ2 s2 => _ | .stuck => _) N R noT noT = (evSs c b τ1 s1).W _ R _ N
    cases evSs c b τ1 s1 <;> rfl
  | _ => rfl
theorem k_lp {ds : List D} : kLp c g b ds N R τ s = (evSs c b τ s).W (kLn c g b ds N R) R (kLn c g b ds N R) N := rfl
theorem k_ln {ds : List D} : kLn c g b ds N R τ s = (loopF (evG c g) (evSs c b) ds τ s).W N R noT noT := rfl
end
/-- for over few values, turn by turn -/
theorem wF :
    (∀ {c g b τ s N R}, (loopF (evG c g) (evSs c b) [] τ s).W N R noT noT = N τ s) ∧ (∀ {c g b τ s N R d ds}, (loopF (evG c g) (evSs c b) (d :: ds) τ s).W N R noT noT = (evG c g d τ s).W (kLp c g b ds N R)) ∧
    (∀ {c g b τ s N R ds}, kLp c g b ds N R τ s = (evSs c b τ s).W (kLn c g b ds N R) R (kLn c g b ds N R) N) ∧ (∀ {c g b τ s N R ds}, kLn c g b ds N R τ s = (loopF (evG c g) (evSs c b) ds τ s).W N R noT noT) :=
  ⟨loop_nil, loop_cons, k_lp, k_ln⟩
theorem callK2 {c : Cc} {s : S} {Q : VQ} {f : Nat} {perm : List Nat} {a b : D} {e1 e2 : ME} : kCallK c (lenMEs (.cons e1 (.cons e2 .nil))) f perm Q [a, b] s = wPerm c f (permD [a, b] perm) s Q := by
  show (2 = 2 ∧ _) = _
  simp
theorem callK3 {c : Cc} {s : S} {Q : VQ} {f : Nat} {perm : List Nat} {a b d : D} {e1 e2 e3 : ME} : kCallK c (lenMEs (.cons e1 (.cons e2 (.cons e3 .nil)))) f perm Q [a, b, d] s = wPerm c f (permD [a, b, d] perm) s Q := by
  show (3 = 3 ∧ _) = _
  simp
theorem callK4 {c : Cc} {s : S} {Q : VQ} {f : Nat} {perm : List Nat} {a b d e : D} {e1 e2 e3 e4 : ME} : kCallK c (lenMEs (.cons e1 (.cons e2 (.cons e3 (.cons e4 .nil))))) f perm Q [a, b, d, e] s = wPerm c f (permD [a, b, d, e] perm) s Q := by
  show (4 = 4 ∧ _) = _
  simp
/-- calls by name -/
theorem wP :
    (∀ {c s Q f perm a b e1 e2}, kCallK c (lenMEs (.cons e1 (.cons e2 .nil))) f perm Q [a, b] s = wPerm c f (permD [a, b] perm) s Q) ∧
    (∀ {c s Q f perm a b d e1 e2 e3}, kCallK c (lenMEs (.cons e1 (.cons e2 (.cons e3 .nil)))) f perm Q [a, b, d] s = wPerm c f (permD [a, b, d] perm) s Q) ∧
    (∀ {c s Q f perm a b d e e1 e2 e3 e4}, kCallK c (lenMEs (.cons e1 (.cons e2 (.cons e3 (.cons e4 .nil))))) f perm Q [a, b, d, e] s = wPerm c f (permD [a, b, d, e] perm) s Q) ∧
    (∀ {a b : D}, permD [a, b] [1, 0] = some [b, a]) ∧ (∀ {a b c : D}, permD [a, b, c] [2, 1, 0] = some [c, b, a]) ∧ (∀ {a b c d : D}, permD [a, b, c, d] [3, 2, 1, 0] = some [d, c, b, a]) :=
  ⟨callK2, callK3, callK4, rfl, rfl, rfl⟩
theorem get_nx2 {s : S} {a b c : Cl} : (((s.add a).add b).add c).get (s.nx + 1 + 1) = some c := get_add (s := (s.add a).add b)
theorem put_nx2 {s : S} {a b c d : Cl} : (((s.add a).add b).add c).put (s.nx + 1 + 1) d = ((s.add a).add b).add d := add_put (s := (s.add a).add b)
/-! ### states that grow -/
def pc (a b : Int) : Cl := .lst false [.int a, .int b]
structure PotAt (s : S) (p : Nat) : Prop where
  wf : Wf s
  at_ : ∃ a b, s.get p = some (pc a b)
/-- but the pot nothing has changed -/
def Mv (s : S) (p : Nat) (t : S) : Prop := ∃ a b, t = s.put p (pc a b)
theorem pc_low {m : Nat} {a b : Int} : belowC m (pc a b) = true := rfl
theorem PotAt.mv {s t : S} {p : Nat} (h : PotAt s p) (m : Mv s p t) : PotAt t p := by
  obtain ⟨a, b, rfl⟩ := m
  obtain ⟨c, d, e⟩ := h.at_
  exact ⟨h.wf.put pc_low, a, b, get_put e⟩
theorem PotAt.lt {s : S} {p : Nat} (h : PotAt s p) : p < s.nx := by
  obtain ⟨c, d, e⟩ := h.at_
  exact h.wf.lt e
theorem PotAt.add {s : S} {p : Nat} {c : Cl} (h : PotAt s p) (hc : belowC s.nx c = true) : PotAt (s.add c) p := by
  have := h.lt
  obtain ⟨a, b, e⟩ := h.at_
  exact ⟨h.wf.add hc, a, b, by rw [get_add_ne (by omega)]; exact e⟩
theorem Mv.refl {s : S} {p : Nat} (h : PotAt s p) : Mv s p s := by
  obtain ⟨a, b, e⟩ := h.at_
  exact ⟨a, b, (put_same e).symm⟩
theorem Mv.trans {s t u : S} {p : Nat} (h1 : Mv s p t) (h2 : Mv t p u) : Mv s p u := by
  obtain ⟨a, b, rfl⟩ := h1
  obtain ⟨c, d, rfl⟩ := h2
  exact ⟨c, d, put_put⟩
theorem Mv.nx {s t : S} {p : Nat} (h : Mv s p t) : t.nx = s.nx := by
  obtain ⟨a, b, rfl⟩ := h
  rfl
/-- what moves below a new cell -/
theorem Mv.add {s t : S} {p : Nat} {c : Cl} (hp : PotAt s p) (h : Mv (s.add c) p t) : ∃ u, Mv s p u ∧ t = u.add c := by
  obtain ⟨a, b, rfl⟩ := h
  have := hp.lt
  exact ⟨_, ⟨a, b, rfl⟩, add_put_ne (by omega)⟩
theorem lookup_app {n : Nat} : ∀ {l r : List (Nat × Cl)}, (∀ q ∈ l, q.1 ≠ n) → (l ++ r).lookup n = r.lookup n
  | [], _, _ => rfl
  | (k, c) :: l, r, h => by
    have hk : (n == k) = false := by
      have := h (k, c) List.mem_cons_self
      simp at this ⊢
      exact fun z => this z.symm
    rw [List.cons_append, List.lookup, hk]
    exact lookup_app fun q hq => h q (List.mem_cons_of_mem _ hq)
theorem putC_app {n : Nat} {c : Cl} : ∀ {l r : List (Nat × Cl)}, (∀ q ∈ l, q.1 ≠ n) → putC n c (l ++ r) = l ++ putC n c r
  | [], _, _ => rfl
  | (k, d) :: l, r, h => by
    have hk : ¬ k = n := h (k, d) List.mem_cons_self
    rw [List.cons_append, putC, if_neg hk, putC_app fun q hq => h q (List.mem_cons_of_mem _ hq)]
    rfl
theorem Over.get {s t : S} {n : Nat} (o : Over s t) (hn : n < s.nx) : t.get n = s.get n := by
  obtain ⟨_, new, h2, h3⟩ := o
  show t.cs.lookup n = _
  rw [h2, lookup_app fun q hq => by have := h3 q hq; omega]
  rfl
theorem Over.putOld {s t : S} {n : Nat} {c : Cl} (o : Over s t) (hn : n < s.nx) : Over (s.put n c) (t.put n c) := by
  obtain ⟨h1, new, h2, h3⟩ := o
  refine ⟨h1, new, ?_, h3⟩
  show putC n c t.cs = _
  rw [h2, putC_app fun q hq => by have := h3 q hq; omega]
  rfl
/-- s, its pot moved, newer cells on top -/
structure Up (s : S) (p : Nat) (t : S) : Prop where
  wf : Wf t
  ov : ∃ u, Mv s p u ∧ Over u t
theorem Up.refl {s : S} {p : Nat} (h : PotAt s p) : Up s p s := ⟨h.wf, s, Mv.refl h, Over.refl s⟩
theorem Up.nx {s t : S} {p : Nat} (h : Up s p t) : s.nx ≤ t.nx := by
  obtain ⟨u, m, o⟩ := h.ov
  rw [← m.nx]
  exact o.nx
theorem Up.pot {s t : S} {p : Nat} (hp : PotAt s p) (h : Up s p t) : PotAt t p := by
  obtain ⟨u, m, o⟩ := h.ov
  obtain ⟨a, b, e⟩ := (hp.mv m).at_
  exact ⟨h.wf, a, b, by rw [o.get (by rw [m.nx]; exact hp.lt)]; exact e⟩
theorem Up.add {s t : S} {p : Nat} {c : Cl} (h : Up s p t) (hc : belowC t.nx c = true) : Up s p (t.add c) := by
  obtain ⟨u, m, o⟩ := h.ov
  exact ⟨h.wf.add hc, u, m, o.add⟩
theorem Up.mv {s t t' : S} {p : Nat} (hp : PotAt s p) (h : Up s p t) (m : Mv t p t') : Up s p t' := by
  obtain ⟨u, m1, o⟩ := h.ov
  have hw := ((h.pot hp).mv m).wf
  obtain ⟨a, b, rfl⟩ := m
  exact ⟨hw, u.put p (pc a b), m1.trans ⟨a, b, rfl⟩, o.putOld (by rw [m1.nx]; exact hp.lt)⟩
theorem Up.put {s t : S} {p n : Nat} {c : Cl} (h : Up s p t) (hn : s.nx ≤ n) (hc : belowC t.nx c = true) (hp : PotAt s p) : Up s p (t.put n c) := by
  obtain ⟨u, m, o⟩ := h.ov
  exact ⟨h.wf.put hc, u, m, o.put (hp.mv m).wf (by rw [m.nx]; exact hn)⟩
theorem Mv.get {s t : S} {p n : Nat} (m : Mv s p t) (h : n ≠ p) : t.get n = s.get n := by
  obtain ⟨a, b, rfl⟩ := m
  exact get_put_ne h
theorem get_lt_add {s : S} {n : Nat} {c : Cl} (h : n < s.nx) : (s.add c).get n = s.get n := get_add_ne (by omega)
/-- what a call leaves of such a state -/
theorem Up.done {s t : S} {p : Nat} {d : D} {P : D → S → Prop} (hp : PotAt s p) (h : Up s p t) (hd : below s.nx d = true) (k : ∀ u, Mv s p u → P d u) : ∃ u, u.nx = s.nx ∧ Wf u ∧ Over u t ∧ below s.nx d = true ∧ P d u := by
  obtain ⟨u, m, o⟩ := h.ov
  exact ⟨u, m.nx, (hp.mv m).wf, o, hd, k u m⟩
/-! ### reading cells -/
theorem look_lst {s : S} {n k : Nat} {b : Bool} {ds : List D} (h : s.get n = some (.lst b ds)) : s.look (k + 1) n = (toPys (s.look k) ds).map PyData.list := by
  show (match s.get n with | some (.lst _ ds) => (toPys (s.look k) ds).map PyData.list | _ => none) = _
  rw [h]
theorem toPys_of {α : Type} {lk : Nat → Option PyData} {f : α → D} {y : α → PyData} (h : ∀ a, toPy lk (f a) = some (y a)) : ∀ xs : List α, toPys lk (xs.map f) = some (xs.map y)
  | [] => rfl
  | x :: xs => by rw [List.map_cons, toPys, h, toPys_of h xs]; rfl
end Mi
set_option Elab.async false
set_option linter.all false
set_option maxRecDepth 100000
set_option maxHeartbeats 400000
/-! Pm: places within caps, in plain Lean. -/
namespace Mi
open PySem PySem.W
open Mi.En (enc)
def geAll (xs ys : List Int) : Bool := (xs.zip ys).all fun p => decide (p.1 ≥ p.2)
abbrev Pl : Type := Int × Tup Int



def many (sd : Int) (caps : List Int) : Int := caps.foldl (fun a c => a * (c + 1)) sd
/-! ### places -/
def longer (rows : List (Tup Int)) (c : Int) : List (Tup Int) := rows.flatMap fun r => (up 0 (c + 1).toNat).map fun i => ⟨r.items ++ [i]⟩
def rowsOf (caps : List Int) : List (Tup Int) := caps.foldl longer [⟨[]⟩]
def placesOf (sd : Int) (caps : List Int) : List Pl := (up 0 sd.toNat).flatMap fun st => (rowsOf caps).map fun r => (st, r)
theorem sum_const {α : Type} (k : Nat) : ∀ xs : List α, (xs.map fun _ => k).sum = xs.length * k
  | [] => by simp
  | x :: xs => by
    rw [List.map_cons, List.sum_cons, sum_const k xs, List.length_cons, Nat.succ_mul, Nat.add_comm]
theorem longer_len (rows : List (Tup Int)) (c : Int) : (longer rows c).length = rows.length * (c + 1).toNat := by
  unfold longer
  rw [List.length_flatMap]
  simp [sum_const]
theorem rows_len_le : ∀ (caps : List Int) (rows : List (Tup Int)), (∀ c ∈ caps, 0 ≤ c ∧ c ≤ 9) → (caps.foldl longer rows).length ≤ rows.length * 10 ^ caps.length
  | [], rows, _ => by simp
  | c :: caps, rows, h => by
    have h1 := h c List.mem_cons_self
    have ih := rows_len_le caps (longer rows c) fun d hd => h d (List.mem_cons_of_mem _ hd)
    rw [List.foldl_cons, List.length_cons, Nat.pow_succ]
    refine Nat.le_trans ih ?_
    rw [longer_len]
    have : (c + 1).toNat ≤ 10 := by omega
    calc rows.length * (c + 1).toNat * 10 ^ caps.length ≤ rows.length * 10 * 10 ^ caps.length := Nat.mul_le_mul_right _ (Nat.mul_le_mul_left _ this)
      _ = rows.length * (10 ^ caps.length * 10) := by rw [Nat.mul_assoc, Nat.mul_comm 10]
theorem item_len : ∀ (caps : List Int) (rows : List (Tup Int)) (k : Nat), (∀ r ∈ rows, r.items.length = k) → ∀ r ∈ caps.foldl longer rows, r.items.length = k + caps.length
  | [], rows, k, h => h
  | c :: caps, rows, k, h => by
    rw [List.foldl_cons]
    intro r hr
    have := item_len caps (longer rows c) (k + 1) (fun r hr => by
      unfold longer at hr
      obtain ⟨q, hq, hr⟩ := List.mem_flatMap.mp hr
      obtain ⟨i, _, rfl⟩ := List.mem_map.mp hr
      simp [h q hq]) r hr
    rw [this, List.length_cons]
    omega
theorem rows_le {caps : List Int} (hc : ∀ c ∈ caps, 0 ≤ c ∧ c ≤ 9) {k : Nat} (hl : caps.length ≤ k) : (rowsOf caps).length ≤ 10 ^ k := by
  have h1 := rows_len_le caps [⟨[]⟩] hc
  have h2 : 10 ^ caps.length ≤ 10 ^ k := Nat.pow_le_pow_right (by decide) hl
  have h3 : ([(⟨[]⟩ : Tup Int)]).length = 1 := rfl
  rw [h3] at h1
  unfold rowsOf
  omega
theorem length_le_flatMap {α β : Type} {xs pre post : List α} {f : α → List β} (h : xs = pre ++ post) : (pre.flatMap f).length ≤ (xs.flatMap f).length := by
  rw [h, List.flatMap_append, List.length_append]
  omega
/-- place_within, at a place -/
def within (sd : Int) (caps : List Int) (p : Pl) : Bool := (decide (0 ≤ p.1) && decide (p.1 < sd)) && (decide (p.2.items.length = caps.length) && (p.2.items.zip caps).all fun q => decide (0 ≤ q.1) && decide (q.1 ≤ q.2))
/-! ### the places: which, in what order -/
theorem mem_longer {caps : List Int} : ∀ {rows : List (Tup Int)} {r : Tup Int}, r ∈ caps.foldl longer rows ↔ ∃ r0 ∈ rows, ∃ t : List Int, r.items = r0.items ++ t ∧ t.length = caps.length ∧ (t.zip caps).all (fun q => decide (0 ≤ q.1) && decide (q.1 ≤ q.2)) = true := by
  induction caps with
  | nil =>
    intro rows r
    constructor
    · intro h
      exact ⟨r, h, [], by simp, rfl, rfl⟩
    · rintro ⟨r0, h, t, h1, h2, _⟩
      have : t = [] := List.length_eq_zero_iff.mp h2
      subst this
      rw [List.append_nil] at h1
      have : r = r0 := by cases r; cases r0; simp at h1; simp [h1]
      rw [this]
      exact h
  | cons c caps ih =>
    intro rows r
    rw [List.foldl_cons, ih]
    constructor
    · rintro ⟨r1, h1, t, h2, h3, h4⟩
      unfold longer at h1
      obtain ⟨r0, h5, h6⟩ := List.mem_flatMap.mp h1
      obtain ⟨i, h7, rfl⟩ := List.mem_map.mp h6
      have h7 := mem_up.mp h7
      refine ⟨r0, h5, i :: t, by rw [h2]; simp, by simp [h3], ?_⟩
      rw [List.zip_cons_cons, List.all_cons, h4]
      simp
      omega
    · rintro ⟨r0, h1, t, h2, h3, h4⟩
      cases t with
      | nil => cases h3
      | cons i t =>
        rw [List.zip_cons_cons, List.all_cons] at h4
        simp at h4
        refine ⟨⟨r0.items ++ [i]⟩, ?_, t, by rw [h2]; simp, by simpa using h3, ?_⟩
        · unfold longer
          exact List.mem_flatMap.mpr ⟨r0, h1, List.mem_map.mpr ⟨i, mem_up.mpr (by omega), rfl⟩⟩
        · rw [List.all_eq_true]
          rintro ⟨a, b⟩ hq
          have := h4.2 a b hq
          simp
          omega
theorem mem_rows {caps : List Int} {r : Tup Int} : r ∈ rowsOf caps ↔ r.items.length = caps.length ∧ (r.items.zip caps).all (fun q => decide (0 ≤ q.1) && decide (q.1 ≤ q.2)) = true := by
  unfold rowsOf
  rw [mem_longer]
  constructor
  · rintro ⟨r0, h, t, h1, h2, h3⟩
    rw [List.mem_singleton] at h
    subst h
    rw [h1]
    exact ⟨h2, h3⟩
  · intro ⟨h1, h2⟩
    exact ⟨⟨[]⟩, List.mem_singleton.mpr rfl, r.items, by simp, h1, h2⟩
theorem mem_places {sd : Int} {caps : List Int} {p : Pl} : p ∈ placesOf sd caps ↔ within sd caps p = true := by
  unfold placesOf within
  rw [List.mem_flatMap]
  simp only [Bool.and_eq_true, decide_eq_true_eq]
  constructor
  · rintro ⟨i, hi, hp⟩
    obtain ⟨r, hr, rfl⟩ := List.mem_map.mp hp
    have := mem_up.mp hi
    have hr := mem_rows.mp hr
    exact ⟨⟨this.1, by omega⟩, hr.1, by simpa using hr.2⟩
  · rintro ⟨⟨h1, h2⟩, h3, h4⟩
    refine ⟨p.1, mem_up.mpr ⟨h1, by omega⟩, List.mem_map.mpr ⟨p.2, mem_rows.mpr ⟨h3, by simpa using h4⟩, rfl⟩⟩
theorem listLt_app : ∀ {xs ys : List Int} {i j : Int}, xs.length = ys.length → listLt (xs ++ [i]) (ys ++ [j]) = if xs = ys then decide (i < j) else listLt xs ys
  | [], [], i, j, _ => by
    simp only [List.nil_append, listLt, if_true]
    by_cases h : i = j
    · simp [h]
    · simp [h]
      rfl
  | x :: xs, y :: ys, i, j, h => by
    have ih := listLt_app (i := i) (j := j) (show xs.length = ys.length by simpa using h)
    simp only [List.cons_append, listLt]
    by_cases hx : x = y
    · subst hx
      simp [ih]
    · simp [hx]
theorem pair_flatMap {α β : Type} {R : β → β → Prop} {f : α → List β} : ∀ {xs : List α}, (∀ x ∈ xs, (f x).Pairwise R) → xs.Pairwise (fun x y => ∀ a ∈ f x, ∀ b ∈ f y, R a b) → (xs.flatMap f).Pairwise R
  | [], _, _ => .nil
  | x :: xs, h1, h2 => by
    obtain ⟨h3, h4⟩ := List.pairwise_cons.mp h2
    rw [List.flatMap_cons, List.pairwise_append]
    refine ⟨h1 x List.mem_cons_self, pair_flatMap (fun y hy => h1 y (List.mem_cons_of_mem _ hy)) h4, fun a ha b hb => ?_⟩
    obtain ⟨y, hy, hb⟩ := List.mem_flatMap.mp hb
    exact h3 y hy a ha b hb
theorem up_pair (lo : Int) (n : Nat) : (up lo n).Pairwise fun a b => a < b := by
  unfold up
  rw [List.pairwise_map]
  exact List.pairwise_lt_range.imp fun h => by omega
theorem rows_pair {caps : List Int} : ∀ {rows : List (Tup Int)} (k : Nat), (∀ r ∈ rows, r.items.length = k) → rows.Pairwise (fun a b => listLt a.items b.items = true) → (caps.foldl longer rows).Pairwise fun a b => listLt a.items b.items = true := by
  induction caps with
  | nil => exact fun _ _ h => h
  | cons c caps ih =>
    intro rows k hk hp
    rw [List.foldl_cons]
    refine ih (k + 1) (fun r hr => ?_) ?_
    · unfold longer at hr
      obtain ⟨q, hq, hr⟩ := List.mem_flatMap.mp hr
      obtain ⟨i, _, rfl⟩ := List.mem_map.mp hr
      simp [hk q hq]
    · unfold longer
      refine pair_flatMap (fun r hr => ?_) ?_
      · rw [List.pairwise_map]
        refine (up_pair 0 _).imp fun h => ?_
        rw [listLt_app rfl, if_pos rfl]
        exact decide_eq_true h
      · refine List.Pairwise.imp_of_mem (fun {a b} ha hb h => ?_) hp
        intro x hx y hy
        obtain ⟨i, _, rfl⟩ := List.mem_map.mp hx
        obtain ⟨j, _, rfl⟩ := List.mem_map.mp hy
        rw [listLt_app (by rw [hk a ha, hk b hb])]
        split
        · rename_i e
          exfalso
          have h2 : listLt a.items b.items = true := h
          have e2 : a = b := by cases a; cases b; simp at e; simp [e]
          rw [e2] at h2
          have h3 := lt_irr (α := Tup Int) b
          rw [show DatumOrd.lt b b = listLt b.items b.items from rfl] at h3
          rw [h3] at h2
          cases h2
        · exact h
theorem places_rise (sd : Int) (caps : List Int) : (placesOf sd caps).Pairwise fun a b => DatumOrd.lt a b = true := by
  unfold placesOf
  refine pair_flatMap (fun i _ => ?_) ?_
  · rw [List.pairwise_map]
    refine (rows_pair (caps := caps) 0 (fun r hr => by rw [List.mem_singleton] at hr; subst hr; rfl) (List.pairwise_singleton _ _)).imp fun {a b} h => ?_
    show (if i = i then DatumOrd.lt a b else _) = true
    rw [if_pos rfl]
    exact h
  · refine (up_pair 0 _).imp fun {i j} h => ?_
    intro x hx y hy
    obtain ⟨a, _, rfl⟩ := List.mem_map.mp hx
    obtain ⟨b, _, rfl⟩ := List.mem_map.mp hy
    show (if i = j then DatumOrd.lt a b else DatumOrd.lt i j) = true
    rw [if_neg (by omega)]
    exact decide_eq_true h
theorem places_nodup (sd : Int) (caps : List Int) : (placesOf sd caps).Nodup := (places_rise sd caps).imp fun {a b} h e => by
  subst e
  rw [lt_irr] at h
  cases h
/-! ### places, counted; among places -/
theorem longer_len2 {rows : List (Tup Int)} {c : Int} (h : 0 ≤ c) : ((longer rows c).length : Int) = rows.length * (c + 1) := by
  rw [longer_len, Int.natCast_mul]
  congr 1
  omega
theorem many_rows : ∀ (caps : List Int) (rows : List (Tup Int)) (sd : Int), (∀ c ∈ caps, 0 ≤ c) → sd * ((caps.foldl longer rows).length : Int) = caps.foldl (fun a c => a * (c + 1)) (sd * (rows.length : Int))
  | [], rows, sd, _ => rfl
  | c :: caps, rows, sd, h => by
    rw [List.foldl_cons, List.foldl_cons, many_rows caps _ sd fun d hd => h d (List.mem_cons_of_mem _ hd), longer_len2 (h c List.mem_cons_self), Int.mul_assoc]
def z3 (caps row eff : List Int) : List Int := (caps.zip (row.zip eff)).map fun q => if q.2.1 + q.2.2 < q.1 then q.2.1 + q.2.2 else q.1
def eT (xs : List Int) : D := .tup (xs.map enc)
section
variable {s : S} {Q : VQ} {p : Pl}
theorem yT {xs : List Int} : s.tyOf (eT xs) = some .tup := rfl
theorem lenT {xs : List Int} : (evBi .len [eT xs] s).W Q = Q (.int xs.length) s := by simp only [↓wS, ↓wE, ↓wC, ↓wI, wV, wX, wM, wY, wB, wK, eT]
theorem kTu {xs : List Int} : s.walk (eT xs) = some (xs.map enc) := rfl
theorem kTu2 {xs : List Int} : s.walkS (eT xs) = some (xs.map enc) := rfl
theorem xP0 : (evIx (enc p) (.int 0) s).W Q = Q (.int p.1) s := by rw [enc_pair]; simp only [↓wS, ↓wE, ↓wC, ↓wI, wV, wX, wM, wY, wB, wK]
theorem xP1 : (evIx (enc p) (.int 1) s).W Q = Q (eT p.2.items) s := by rw [enc_pair, enc_tup]; simp only [↓wS, ↓wE, ↓wC, ↓wI, wV, wX, wM, wY, wB, wK, eT]
theorem yP : s.tyOf (enc p) = some .tup := rfl
theorem lenP : (evBi .len [enc p] s).W Q = Q (.int 2) s := rfl
end
/-- what is read off tuples of numbers, places -/
theorem wU :
    (∀ {s Q} {p : Pl}, (evIx (enc p) (.int 0) s).W Q = Q (.int p.1) s) ∧ (∀ {s Q} {p : Pl}, (evIx (enc p) (.int 1) s).W Q = Q (eT p.2.items) s) ∧ (∀ {s} {p : Pl}, S.tyOf s (enc p) = some .tup) ∧ (∀ {s} {xs : List Int}, S.tyOf s (eT xs) = some .tup) ∧
    (∀ {s Q} {p : Pl}, (evBi .len [enc p] s).W Q = Q (.int 2) s) ∧ (∀ {s Q} {xs : List Int}, (evBi .len [eT xs] s).W Q = Q (.int xs.length) s) ∧ (∀ {s} {xs : List Int}, S.walk s (eT xs) = some (xs.map enc)) ∧ (∀ {s} {xs : List Int}, S.walkS s (eT xs) = some (xs.map enc)) ∧ (∀ {xs : List Int}, isTupD (eT xs) = true) :=
  ⟨xP0, xP1, yP, yT, lenP, lenT, kTu, kTu2, rfl⟩
theorem lst_low {xs : List Pl} {m : Nat} : below m (.lst (xs.map enc)) = true := lows_map m xs
theorem ints_low {xs : List Int} {m : Nat} : below m (.lst (xs.map enc)) = true := lows_map m xs
theorem eT_low {xs : List Int} {m : Nat} : below m (eT xs) = true := lows_map m xs
end Mi
set_option Elab.async false
set_option linter.all false
set_option maxRecDepth 100000
set_option maxHeartbeats 400000
namespace Mi.L76
open PySem PySem.W
open Mi.En (enc)
/-- an int, not less than 0 -/
def cnt : D → Bool
  | .int i => decide (0 ≤ i)
  | _ => false
/-- an int from 0, below m -/
def pos (m : Int) : D → Bool
  | .int i => decide (0 ≤ i) && decide (i < m)
  | _ => false
def isInt : D → Bool
  | .int _ => true
  | _ => false
section
variable {wf n : Nat} {s : S}
theorem int_of_ty {s : S} {d : D} (h : s.tyOf d = some .int) : ∃ i, d = .int i := by
  cases d <;> simp [S.tyOf] at h
  · exact ⟨_, rfl⟩
  · split at h <;> simp at h
theorem no_int {s : S} {d : D} {t : Ty} (h : s.tyOf d = some t) (ht : t ≠ .int) : isInt d = false := by
  cases d <;> first | rfl | (simp [S.tyOf] at h; exact absurd h.symm ht)
theorem cnt_no {d : D} (h : isInt d = false) : cnt d = false := by cases d <;> first | rfl | cases h
theorem pos_no {m : Int} {d : D} (h : isInt d = false) : pos m d = false := by cases d <;> first | rfl | cases h
theorem c_is_list (W : Wf s) {d : D} {t : Ty} (h : s.tyOf d = some t) : callN tab wf (n + 1) 1 [d] s = .ok (.bl (decide (t = .lst ∨ t = .tup))) s := by
  refine call_W t_is_list rfl W rfl ?_
  cases t <;> simp only [↓wS, ↓wE, ↓wC, ↓wI, wV, wX, wM, wY, wB, wK, wT, b_is_list, h, wO] <;> rfl
theorem c_is_integer (W : Wf s) {d : D} {t : Ty} (h : s.tyOf d = some t) : callN tab wf (n + 1) 2 [d] s = .ok (.bl (isInt d)) s := by
  refine call_W t_is_integer rfl W rfl ?_
  by_cases ht : t = .int
  · subst ht
    obtain ⟨i, rfl⟩ := int_of_ty h
    simp only [↓wS, ↓wE, ↓wC, ↓wI, wV, wX, wM, wY, wB, wK, wT, b_is_integer, h, wO]
    rfl
  · rw [no_int h ht]
    cases t <;> first | exact absurd rfl ht | simp only [↓wS, ↓wE, ↓wC, ↓wI, wV, wX, wM, wY, wB, wK, wT, b_is_integer, h, wO]
theorem c_is_integerI (W : Wf s) {i : Int} : callN tab wf (n + 1) 2 [.int i] s = .ok (.bl true) s := c_is_integer W rfl
theorem c_is_count (W : Wf s) {d : D} {t : Ty} (h : s.tyOf d = some t) : callN tab wf (n + 2) 3 [d] s = .ok (.bl (cnt d)) s := by
  refine call_W t_is_count rfl W rfl ?_
  simp only [↓wS, ↓wE, ↓wC, ↓wI, wV, wX, wM, wY, wB, wK, wT, b_is_count, c_is_integer W h]
  cases hi : isInt d with
  | false =>
    rw [cnt_no hi]
    simp only [↓wS, ↓wE, ↓wC, ↓wI, wV, wX, wM, wY, wB, wK, wO]
  | true =>
    cases d <;> cases hi
    simp only [↓wS, ↓wE, ↓wC, ↓wI, wV, wX, wM, wY, wB, wK, wO]
    rfl
theorem c_is_countI (W : Wf s) {i : Int} : callN tab wf (n + 2) 3 [.int i] s = .ok (.bl (decide (0 ≤ i))) s := c_is_count W rfl
theorem c_is_position (W : Wf s) {d : D} {t : Ty} {m : Int} (h : s.tyOf d = some t) : callN tab wf (n + 2) 4 [d, .int m] s = .ok (.bl (pos m d)) s := by
  refine call_W t_is_position rfl W rfl ?_
  simp only [↓wS, ↓wE, ↓wC, ↓wI, wV, wX, wM, wY, wB, wK, wT, b_is_position, c_is_integer W h]
  cases hi : isInt d with
  | false =>
    rw [pos_no hi]
    simp only [↓wS, ↓wE, ↓wC, ↓wI, wV, wX, wM, wY, wB, wK, wO]
  | true =>
    cases d <;> cases hi
    simp only [↓wS, ↓wE, ↓wC, ↓wI, wV, wX, wM, wY, wB, wK]
    rename_i i
    refine brCh_pure (decide (i < m)) (fun _ => ?_) ?_
    · simp only [↓wS, ↓wE, ↓wC, ↓wI, wV, wX, wM, wY, wB, wK]
    · simp only [↓wS, ↓wE, ↓wC, ↓wI, wV, wX, wM, wY, wB, wK, wO, pos]
theorem c_is_positionI (W : Wf s) {m i : Int} : callN tab wf (n + 2) 4 [.int i, .int m] s = .ok (.bl (decide (0 ≤ i) && decide (i < m))) s := c_is_position W rfl
theorem c_is_least (W : Wf s) {xs ys : List Int} (hx : xs.length ≤ 64) : callN tab wf (n + 1) 5 [.tup (xs.map enc), .tup (ys.map enc)] s = .ok (.bl (geAll xs ys)) s := by
  refine call_W t_is_least rfl W rfl ?_
  simp only [↓wS, ↓wE, ↓wC, ↓wI, wV, wX, wM, wY, wB, wK, wT, b_is_least, zipD_en]
  refine ⟨by rw [List.length_zip]; omega, W_allC (fun p => decide (p.1 ≥ p.2)) (fun p _ => ?_) ?_⟩
  · simp only [↓wS, ↓wE, ↓wC, ↓wI, wV, wX, wM, wY, wB, wK, enc_pair]
  · simp only [↓wS, ↓wE, ↓wC, ↓wI, wV, wX, wM, wY, wB, wK, wO, geAll]
end
end Mi.L76
set_option Elab.async false
set_option linter.all false
set_option maxRecDepth 100000
set_option maxHeartbeats 400000
namespace Mi.L76
open PySem PySem.W
open Mi.En (enc)
/-! ### farms -/
structure FSt where
  a : Int
  g : Int
  wants : List Int
  effs : List Int
  y : Int
structure Fm where
  sd : Int
  sk : Int
  steps : List FSt
def eFS (t : FSt) : D := .tup [.str "step", .int t.a, .int t.g, eT t.wants, eT t.effs, .int t.y]
def eF (f : Fm) : D := .tup [.str "farm", .int f.sd, .int f.sk, .tup (f.steps.map eFS)]
structure FSt.Ok (sd sk : Int) (t : FSt) : Prop where
  a0 : 0 ≤ t.a
  a1 : t.a < sd
  g0 : 0 ≤ t.g
  g1 : t.g < sd
  wl : (t.wants.length : Int) = sk
  el : (t.effs.length : Int) = sk
  wr : ∀ x ∈ t.wants, 0 ≤ x ∧ x ≤ 9
  er : ∀ x ∈ t.effs, -9 ≤ x ∧ x ≤ 9
  ow : ∀ q ∈ t.wants.zip t.effs, 0 ≤ q.1 + q.2
  y0 : 0 ≤ t.y
  y1 : t.y ≤ 99
structure Fm.Ok (f : Fm) : Prop where
  sd1 : 1 ≤ f.sd
  sd6 : f.sd ≤ 6
  sk1 : 1 ≤ f.sk
  sk3 : f.sk ≤ 3
  sl : f.steps.length ≤ 12
  st : ∀ t ∈ f.steps, t.Ok f.sd f.sk
structure FCap (f : Fm) (caps : List Int) : Prop where
  l : (caps.length : Int) = f.sk
  c : ∀ x ∈ caps, 0 ≤ x ∧ x ≤ 9
  few : many f.sd caps ≤ 600
theorem fstr_step : PyData.canLay0 (.str "step") = true := by decide +kernel
theorem fstr_farm : PyData.canLay0 (.str "farm") = true := by decide +kernel
theorem fne_step {s : S} {Q : VQ} : (evCmp .ne (.str "step") (.str "step") s).W Q = Q (.bl false) s := by rw [c_nestr fstr_step]; rfl
theorem fne_farm {s : S} {Q : VQ} : (evCmp .ne (.str "farm") (.str "farm") s).W Q = Q (.bl false) s := by rw [c_nestr fstr_farm]; rfl
section
variable {s : S} {Q : VQ} {f : Fm} {t : FSt}
theorem xF1 : (evIx (eF f) (.int 1) s).W Q = Q (.int f.sd) s := by simp only [↓wS, ↓wE, ↓wC, ↓wI, wV, wX, wM, wY, wB, wK, eF]
theorem xF2 : (evIx (eF f) (.int 2) s).W Q = Q (.int f.sk) s := by simp only [↓wS, ↓wE, ↓wC, ↓wI, wV, wX, wM, wY, wB, wK, eF]
theorem xF3 : (evIx (eF f) (.int 3) s).W Q = Q (.tup (f.steps.map eFS)) s := by simp only [↓wS, ↓wE, ↓wC, ↓wI, wV, wX, wM, wY, wB, wK, eF]
theorem xG1 : (evIx (eFS t) (.int 1) s).W Q = Q (.int t.a) s := by simp only [↓wS, ↓wE, ↓wC, ↓wI, wV, wX, wM, wY, wB, wK, eFS]
theorem xG2 : (evIx (eFS t) (.int 2) s).W Q = Q (.int t.g) s := by simp only [↓wS, ↓wE, ↓wC, ↓wI, wV, wX, wM, wY, wB, wK, eFS]
theorem xG3 : (evIx (eFS t) (.int 3) s).W Q = Q (eT t.wants) s := by simp only [↓wS, ↓wE, ↓wC, ↓wI, wV, wX, wM, wY, wB, wK, eFS]
theorem xG4 : (evIx (eFS t) (.int 4) s).W Q = Q (eT t.effs) s := by simp only [↓wS, ↓wE, ↓wC, ↓wI, wV, wX, wM, wY, wB, wK, eFS]
theorem xG5 : (evIx (eFS t) (.int 5) s).W Q = Q (.int t.y) s := by simp only [↓wS, ↓wE, ↓wC, ↓wI, wV, wX, wM, wY, wB, wK, eFS]
theorem xFStep {i : Int} (h0 : 0 ≤ i) {t : FSt} (ht : f.steps[i.toNat]? = some t) : (evIx (.tup (f.steps.map eFS)) (.int i) s).W Q = Q (eFS t) s := by
  simp only [↓wS, ↓wE, ↓wC, ↓wI, wV, wX, wM, wY, wB, wK, at_of h0, List.getElem?_map, ht, Option.map_some]
theorem lenFS : (evBi .len [.tup (f.steps.map eFS)] s).W Q = Q (.int f.steps.length) s := by simp only [↓wS, ↓wE, ↓wC, ↓wI, wV, wX, wM, wY, wB, wK, List.length_map]
end
/-- what is read off a farm -/
theorem wF0 :
    (∀ {s Q} {f : Fm}, (evIx (eF f) (.int 1) s).W Q = Q (.int f.sd) s) ∧ (∀ {s Q} {f : Fm}, (evIx (eF f) (.int 2) s).W Q = Q (.int f.sk) s) ∧ (∀ {s Q} {f : Fm}, (evIx (eF f) (.int 3) s).W Q = Q (.tup (f.steps.map eFS)) s) ∧
    (∀ {s Q} {t : FSt}, (evIx (eFS t) (.int 1) s).W Q = Q (.int t.a) s) ∧ (∀ {s Q} {t : FSt}, (evIx (eFS t) (.int 2) s).W Q = Q (.int t.g) s) ∧ (∀ {s Q} {t : FSt}, (evIx (eFS t) (.int 3) s).W Q = Q (eT t.wants) s) ∧
    (∀ {s Q} {t : FSt}, (evIx (eFS t) (.int 4) s).W Q = Q (eT t.effs) s) ∧ (∀ {s Q} {t : FSt}, (evIx (eFS t) (.int 5) s).W Q = Q (.int t.y) s) ∧ (∀ {s Q} {f : Fm}, (evBi .len [.tup (f.steps.map eFS)] s).W Q = Q (.int f.steps.length) s) :=
  ⟨xF1, xF2, xF3, xG1, xG2, xG3, xG4, xG5, lenFS⟩
section
variable {wf n : Nat} {s : S}
theorem c_fwants (W : Wf s) {sd sk : Int} {t : FSt} (h : t.Ok sd sk) (hk : sk ≤ 3) : callN tab wf (n + 3) 292 [.int sk, eT t.wants, eT t.effs] s = .ok (.bl true) s := by
  refine call_W t_farms_wants_are_right rfl W rfl ?_
  have hl1 := h.wl
  have hl2 := h.el
  have e1 : ((t.wants.length : Int) = (t.effs.length : Int)) := by omega
  simp only [↓wS, ↓wE, ↓wC, ↓wI, wV, wX, wM, wY, wB, wK, wT, b_farms_wants_are_right, wU, e1, hl2, decide_true]
  refine ⟨by omega, W_allT (fun x hx => ?_) ?_⟩
  · have := h.wr x hx
    simp only [↓wS, ↓wE, ↓wC, ↓wI, wV, wX, wM, wY, wB, wK, c_is_countI W, this.1, this.2, decide_true]
  · simp only [↓wS, ↓wE, ↓wC, ↓wI, wV, wX, wM, wY, wB, wK, wU]
    refine ⟨by omega, W_allT (fun x hx => ?_) ?_⟩
    · have := h.er x hx
      simp only [↓wS, ↓wE, ↓wC, ↓wI, wV, wX, wM, wY, wB, wK, c_is_integerI W]
      exact ⟨by simp; split <;> omega, rfl⟩
    · simp only [↓wS, ↓wE, ↓wC, ↓wI, wV, wX, wM, wY, wB, wK, zipD_en, wU]
      refine ⟨by rw [List.length_zip]; omega, W_allT (fun q hq => ?_) ?_⟩
      · have := h.ow q hq
        simp only [↓wS, ↓wE, ↓wC, ↓wI, wV, wX, wM, wY, wB, wK, enc_pair, this, decide_true]
      · simp only [↓wS, ↓wE, ↓wC, ↓wI, wV, wX, wM, wY, wB, wK, wO]
theorem c_fstep (W : Wf s) {sd sk : Int} {t : FSt} (h : t.Ok sd sk) (hk : sk ≤ 3) : callN tab wf (n + 4) 293 [.int sd, .int sk, eFS t] s = .ok (.bl true) s := by
  refine call_W t_farms_step_is_right rfl W rfl ?_
  simp only [↓wS, ↓wE, ↓wC, ↓wI, wV, wX, wM, wY, wB, wK, wT, b_farms_step_is_right, eFS, fne_step, c_is_positionI W, h.a0, h.a1, h.g0, h.g1, decide_true, c_fwants W h hk, c_is_countI W, h.y0, h.y1, wO]
theorem c_flaw (W : Wf s) {f : Fm} (h : f.Ok) : callN tab wf (n + 5) 294 [eF f] s = .ok .non s := by
  refine call_W t_farms_flaw_of rfl W rfl ?_
  have sl := h.sl
  have a : ¬ (12 : Int) < (f.steps.length : Int) := by omega
  simp only [↓wS, ↓wE, ↓wC, ↓wI, wV, wX, wM, wY, wB, wK, wT, b_farms_flaw_of, eF, fne_farm, c_is_integerI W, h.sd1, h.sd6, h.sk1, h.sk3, decide_true, a, decide_false]
  refine ⟨by omega, W_map (fun _ : FSt => D.bl true) (fun t ht => ?_) ?_⟩
  · simp only [↓wS, ↓wE, ↓wC, ↓wI, wV, wX, wM, wY, wB, wK, c_fstep W (h.st t ht) h.sk3]
  · have e : ∀ xs : List FSt, (xs.map fun _ => D.bl true) = xs.map fun x => D.bl ((fun _ => true) x) := fun _ => rfl
    simp only [↓wS, ↓wE, ↓wC, ↓wI, wV, wX, wM, wY, wB, wK, e, v_allm, all_tt, wO]
theorem c_check_farm (W : Wf s) {f : Fm} (h : f.Ok) : callN tab wf (n + 6) 295 [eF f] s = .ok .non s := by
  refine call_W t_farms_check_farm rfl W rfl ?_
  simp only [↓wS, ↓wE, ↓wC, ↓wI, wV, wX, wM, wY, wB, wK, wT, b_farms_check_farm, c_flaw W h, wO]
theorem c_fcheck_step (W : Wf s) {f : Fm} {i : Int} (h0 : 0 ≤ i) (h1 : i < f.steps.length) : callN tab wf (n + 3) 296 [eF f, .int i] s = .ok .non s := by
  refine call_W t_farms_check_step rfl W rfl ?_
  simp only [↓wS, ↓wE, ↓wC, ↓wI, wV, wX, wM, wY, wB, wK, wT, b_farms_check_step, wF0, c_is_positionI W, h0, h1, decide_true, wO]
end
end Mi.L76
set_option Elab.async false
set_option linter.all false
set_option maxRecDepth 100000
set_option maxHeartbeats 400000
namespace Mi.L76
open PySem PySem.W
open Mi.En (enc)
/-! ### a farm's places -/
def placesF (f : Fm) (caps : List Int) : List Pl := placesOf f.sd caps
theorem fcaps_len {f : Fm} (h : f.Ok) {caps : List Int} (hc : FCap f caps) : caps.length ≤ 3 := by have := hc.l; have := h.sk3; omega
theorem fplaces_many {f : Fm} (h : f.Ok) {caps : List Int} (hc : FCap f caps) : ((placesF f caps).length : Int) = many f.sd caps := by
  have e : ((placesF f caps).length : Int) = f.sd * ((rowsOf caps).length : Int) := by
    unfold placesF placesOf
    rw [List.length_flatMap]
    simp [sum_const]
    have := h.sd1
    congr 1
    omega
  rw [e]
  unfold rowsOf many
  rw [many_rows caps _ _ fun c hc' => (hc.c c hc').1]
  simp
theorem fplaces_600 {f : Fm} (h : f.Ok) {caps : List Int} (hc : FCap f caps) : (placesF f caps).length ≤ 600 := by
  have := fplaces_many h hc
  have := hc.few
  omega
theorem frow_len {f : Fm} {caps : List Int} (hc : FCap f caps) {p : Pl} (hp : p ∈ placesF f caps) : p.2.items.length = caps.length := by
  unfold placesF at hp
  rw [mem_places] at hp
  unfold within at hp
  simp only [Bool.and_eq_true, decide_eq_true_eq] at hp
  exact hp.2.1
theorem fpos {f : Fm} {caps : List Int} {p : Pl} (hp : p ∈ placesF f caps) : 0 ≤ p.1 ∧ p.1 < f.sd := by
  unfold placesF at hp
  rw [mem_places] at hp
  unfold within at hp
  simp only [Bool.and_eq_true, decide_eq_true_eq] at hp
  exact hp.1
section
variable {wf n : Nat} {s : S}
theorem rows_low {xs : List (Tup Int)} {m : Nat} : below m (.lst (xs.map enc)) = true := lows_map m xs
theorem mul_fsmall {i j : Int} (h0 : 0 ≤ j) (h1 : j ≤ 1000) : mulOk i j = true := by
  simp only [mulOk, Bool.or_eq_true, Bool.and_eq_true, decide_eq_true_eq]
  right
  omega
theorem c_how_many (W : Wf s) {f : Fm} {caps : List Int} (hc : ∀ x ∈ caps, 0 ≤ x ∧ x ≤ 9) : callN tab wf (n + 1) 304 [eF f, eT caps] s = .ok (.int (many f.sd caps)) s := by
  refine call_W t_caps_how_many_places rfl W rfl ?_
  simp only [↓wS, ↓wE, ↓wC, ↓wI, wV, wX, wM, wY, wB, wK, wT, b_caps_how_many_places, wF0, wU]
  refine W_for (fun pre τ t => ∃ o : Option D, t = s ∧ τ = [some (eF f), some (eT caps), some (.int (many f.sd pre)), o]) ⟨none, rfl, rfl⟩ ?_ ?_
  · rintro pre x post τ t hx ⟨o, rfl, rfl⟩
    have := hc x (by rw [hx]; simp)
    simp only [↓wS, ↓wE, ↓wC, ↓wI, wV, wX, wM, wY, wB, wK]
    refine ⟨mul_fsmall (by omega) (by omega), some (.int x), ?_⟩
    simp [many]
  · rintro τ t ⟨o, rfl, rfl⟩
    simp only [↓wS, ↓wE, ↓wC, ↓wI, wV, wX, wM, wY, wB, wK, wO]
theorem c_fcheck_few (W : Wf s) {f : Fm} {caps : List Int} (hc : FCap f caps) {k : Int} (hk : many f.sd caps ≤ k) : callN tab wf (n + 2) 318 [eF f, eT caps, .int k] s = .ok .non s := by
  refine call_W t_caps_check_few rfl W rfl ?_
  have : ¬ (k < many f.sd caps) := by omega
  simp only [↓wS, ↓wE, ↓wC, ↓wI, wV, wX, wM, wY, wB, wK, wT, b_caps_check_few, c_how_many W hc.c, this, decide_false, wO]
theorem c_fcaps_right (W : Wf s) {f : Fm} (h : f.Ok) {caps : List Int} (hc : FCap f caps) : callN tab wf (n + 3) 311 [eF f, eT caps] s = .ok (.bl true) s := by
  refine call_W t_caps_caps_are_right rfl W rfl ?_
  have hl := fcaps_len h hc
  simp only [↓wS, ↓wE, ↓wC, ↓wI, wV, wX, wM, wY, wB, wK, wT, b_caps_caps_are_right, wF0, wU, hc.l, decide_true]
  refine ⟨by omega, W_allT (fun x hx => ?_) ?_⟩
  · have := hc.c x hx
    simp only [↓wS, ↓wE, ↓wC, ↓wI, wV, wX, wM, wY, wB, wK, c_is_countI W, this.1, this.2, decide_true]
  · simp only [↓wS, ↓wE, ↓wC, ↓wI, wV, wX, wM, wY, wB, wK, wO]
theorem c_fcheck_caps (W : Wf s) {f : Fm} (h : f.Ok) {caps : List Int} (hc : FCap f caps) : callN tab wf (n + 7) 316 [eF f, eT caps] s = .ok .non s := by
  refine call_W t_caps_check_caps rfl W rfl ?_
  simp only [↓wS, ↓wE, ↓wC, ↓wI, wV, wX, wM, wY, wB, wK, wT, b_caps_check_caps, c_check_farm W h, c_fcaps_right W h hc, wO]
theorem body_rows (W : Wf s) {caps : List Int} (hc : ∀ x ∈ caps, 0 ≤ x ∧ x ≤ 9) (hl : caps.length ≤ 3) : (evSs (cc tab wf n) b_caps_rows_within (startT 6 [eT caps]) s).W (fun _ t => D.non = .lst ((rowsOf caps).map enc) ∧ Over s t) (fun x t => x = .lst ((rowsOf caps).map enc) ∧ Over s t) noT noT := by
  simp only [↓wS, ↓wE, ↓wC, ↓wI, wV, wX, wM, wY, wB, wK, wT, b_caps_rows_within, wU]
  refine W_for (fun pre τ t => ∃ o3 o4 o5, τ = [some (eT caps), some (.lst ((rowsOf pre).map enc)), o3, o4, o5, none] ∧ Over s t) ⟨none, none, none, rfl, Over.refl s⟩ ?_ ?_
  · rintro pre c post τ t hx ⟨o3, o4, o5, rfl, ho⟩
    have hcr := hc c (by rw [hx]; simp)
    have hpl : pre.length + 1 ≤ caps.length := by rw [hx]; simp
    have hR : (rowsOf pre).length ≤ 10 ^ 2 := rows_le (fun d hd => hc d (by rw [hx]; simp [hd])) (by omega)
    have hL : (longer (rowsOf pre) c).length ≤ 1000 := by
      rw [longer_len]
      have h4 : (c + 1).toNat ≤ 10 := by omega
      calc (rowsOf pre).length * (c + 1).toNat ≤ 10 ^ 2 * 10 := Nat.mul_le_mul hR h4
        _ = 1000 := rfl
    simp only [↓wS, ↓wE, ↓wC, ↓wI, wV, wX, wM, wY, wB, wK]
    refine W_for (fun rs τ u => ∃ o5, τ = [some (eT caps), some (.lst ((rowsOf pre).map enc)), some (.int c), some (.ref t.nx), o5, none] ∧ u = t.add (.lst false ((longer rs c).map enc))) ⟨o5, rfl, rfl⟩ ?_ ?_
    · rintro rs r post2 τ2 u hx2 ⟨o5, rfl, rfl⟩
      have hrl : r.items.length ≤ 2 := by
        have := item_len pre [⟨[]⟩] 0 (fun r hr => by simp at hr; rw [hr]; rfl) r (by show r ∈ rowsOf pre; rw [hx2]; simp)
        omega
      simp only [↓wS, ↓wE, ↓wC, ↓wI, wV, wX, wM, wY, wB, wK, rangeD_up]
      refine ⟨by omega, by rw [up_len]; omega, ?_⟩
      refine W_map (fun i : Int => enc (⟨r.items ++ [i]⟩ : Tup Int)) (fun i hi => ?_) ?_
      · simp only [↓wS, ↓wE, ↓wC, ↓wI, wV, wX, wM, wY, wB, wK, enc_tup]
        refine ⟨by simp; omega, ?_⟩
        simp [isQ]
        rfl
      · have h6 : (longer (rs ++ [r]) c) = longer rs c ++ (up 0 (c + 1).toNat).map fun i => ⟨r.items ++ [i]⟩ := by
          unfold longer
          simp
        have h5 : (longer (rs ++ [r]) c).length ≤ (longer (rowsOf pre) c).length := by
          rw [hx2]
          unfold longer
          exact length_le_flatMap (post := post2) (by simp)
        rw [h6] at h5
        simp at h5
        simp only [↓wS, ↓wE, ↓wC, ↓wI, wV, wX, wM, wY, wB, wK]
        refine ⟨by simp; omega, some (enc r), rfl, ?_⟩
        rw [h6]
        simp [Function.comp_def]
    · rintro τ u ⟨o5, rfl, rfl⟩
      simp only [↓wS, ↓wE, ↓wC, ↓wI, wV, wX, wM, wY, wB, wK]
      rw [show rowsOf (pre ++ [c]) = longer (rowsOf pre) c by unfold rowsOf; rw [List.foldl_append]; rfl]
      exact ⟨_, _, _, rfl, Over.add ho⟩
  · rintro τ t ⟨o3, o4, o5, rfl, ho⟩
    simp only [↓wS, ↓wE, ↓wC, ↓wI, wV, wX, wM, wY, wB, wK, wO]
    exact ho
theorem c_rows_within (W : Wf s) {caps : List Int} (hc : ∀ x ∈ caps, 0 ≤ x ∧ x ≤ 9) (hl : caps.length ≤ 3) : callN tab wf (n + 1) 302 [eT caps] s = .ok (.lst ((rowsOf caps).map enc)) s :=
  call_W t_caps_rows_within rfl W rows_low (body_rows W hc hl)
theorem body_fplaces (W : Wf s) {f : Fm} (h : f.Ok) {caps : List Int} (hc : FCap f caps) : (evSs (cc tab wf (n + 1)) b_caps_places_within (startT 6 [eF f, eT caps]) s).W (fun _ t => D.non = .lst ((placesF f caps).map enc) ∧ Over s t) (fun x t => x = .lst ((placesF f caps).map enc) ∧ Over s t) noT noT := by
  have hl := fcaps_len h hc
  have hR := rows_le hc.c hl
  have hsd := h.sd6
  have hsd1 := h.sd1
  have hP := fplaces_600 h hc
  have Wl : Wf (s.add (.lst false [])) := W.add rfl
  simp only [↓wS, ↓wE, ↓wC, ↓wI, wV, wX, wM, wY, wB, wK, wT, b_caps_places_within, c_rows_within Wl hc.c hl, wF0, rangeD_up]
  refine ⟨by omega, ?_⟩
  refine W_for (fun rs τ u => ∃ o5 o7, τ = [some (eF f), some (eT caps), some (.ref s.nx), some (.lst ((rowsOf caps).map enc)), o5, o7] ∧ u = s.add (.lst false ((rs.flatMap fun st => (rowsOf caps).map fun r => ((st, r) : Pl)).map enc))) ⟨none, none, rfl, rfl⟩ ?_ ?_
  · rintro rs i post2 τ2 u hx2 ⟨o5, o7, rfl, rfl⟩
    simp only [↓wS, ↓wE, ↓wC, ↓wI, wV, wX, wM, wY, wB, wK]
    refine ⟨by omega, ?_⟩
    refine W_map (fun r : Tup Int => enc ((i, r) : Pl)) (fun r hr => ?_) ?_
    · simp only [↓wS, ↓wE, ↓wC, ↓wI, wV, wX, wM, wY, wB, wK, enc_pair]
    · have h5 : ((rs ++ [i]).flatMap fun st => (rowsOf caps).map fun r => ((st, r) : Pl)).length ≤ (placesF f caps).length := by
        unfold placesF placesOf
        rw [hx2]
        exact length_le_flatMap (post := post2) (by simp)
      rw [List.flatMap_append] at h5
      simp at h5
      simp only [↓wS, ↓wE, ↓wC, ↓wI, wV, wX, wM, wY, wB, wK]
      refine ⟨by simp; omega, some (.int i), o7, rfl, ?_⟩
      simp [Function.comp_def]
  · rintro τ u ⟨o5, o7, rfl, rfl⟩
    simp only [↓wS, ↓wE, ↓wC, ↓wI, wV, wX, wM, wY, wB, wK]
    exact ⟨rfl, Over.add (Over.refl s)⟩
theorem c_places_within (W : Wf s) {f : Fm} (h : f.Ok) {caps : List Int} (hc : FCap f caps) : callN tab wf (n + 2) 303 [eF f, eT caps] s = .ok (.lst ((placesF f caps).map enc)) s :=
  call_W t_caps_places_within rfl W lst_low (body_fplaces W h hc)
end
end Mi.L76
set_option Elab.async false
set_option linter.all false
set_option maxRecDepth 100000
set_option maxHeartbeats 400000
/-! W8: the least of pairs. -/
namespace Mi
open PySem PySem.W PyProof.Rows
open Mi.En (enc)
instance : Sh (Int × Int) := ⟨by decide⟩
def minP (q : Int × Int) (qs : List (Int × Int)) : Int × Int := qs.foldl (fun a y => if DatumOrd.lt y a = true then y else a) q
def two (q : Int × Int) : List Int := [q.1, q.2]
theorem two_lt (a b : Int × Int) : dataLt (tupP (two a)) (tupP (two b)) = DatumOrd.lt a b := by
  rw [← DatumOrd.lt_eq]
  rfl
theorem minTI_two (q : Int × Int) (qs : List (Int × Int)) : minTI (two q) (qs.map two) = two (minP q qs) := by
  unfold minTI minP
  induction qs generalizing q with
  | nil => rfl
  | cons y qs ih =>
    rw [List.map_cons, List.foldl_cons, List.foldl_cons, two_lt]
    by_cases h : DatumOrd.lt y q = true
    · rw [if_pos h, if_pos h, ih]
    · rw [if_neg h, if_neg h, ih]
theorem allInt_pairs (qs : List (Int × Int)) (q : Int × Int) : allInt ((q :: qs).map enc) = none := rfl
theorem allTupI_pairs : ∀ qs : List (Int × Int), allTupI (qs.map enc) = some (qs.map two)
  | [] => rfl
  | q :: qs => by
    have ih := allTupI_pairs qs
    show (match allInt [.int q.1, .int q.2], allTupI (qs.map enc) with | some a, some b => some (a :: b) | _, _ => none) = _
    rw [ih]
    rfl
theorem v_minP {s : S} {Q : VQ} {q : Int × Int} {qs : List (Int × Int)} : (evBi .min2 [.lst ((q :: qs).map enc)] s).W Q = Q (enc (minP q qs)) s := by
  have hal : alikeTs ((q :: qs).map two) = true := by
    unfold alikeTs
    rw [List.all_eq_true]
    intro x hx
    rw [List.all_eq_true]
    intro y hy
    rw [List.map_map] at hx hy
    obtain ⟨a, _, rfl⟩ := List.mem_map.mp hx
    obtain ⟨b, _, rfl⟩ := List.mem_map.mp hy
    exact DatumOrd.alike a b
  show Res.W (match allInt ((q :: qs).map enc) with | some (n :: ns) => .ok (.int (ns.foldl min n)) s | some [] => .stuck | none => (match allTupI ((q :: qs).map enc) with | some (t :: ts) => if alikeTs (t :: ts) = true then .ok (.tup ((minTI t ts).map .int)) s else .stuck | _ => .stuck)) Q = _
  rw [allInt_pairs, allTupI_pairs, List.map_cons]
  simp only
  rw [List.map_cons] at hal
  rw [if_pos hal, minTI_two]
  rfl
theorem minP_spec : ∀ (qs : List (Int × Int)) (q : Int × Int), minP q qs ∈ q :: qs ∧ ∀ y ∈ q :: qs, DatumOrd.lt y (minP q qs) = false
  | [], q => ⟨List.mem_cons_self, fun y hy => by rw [List.mem_singleton.mp hy]; exact lt_irr _⟩
  | k :: qs, q => by
    have e : minP q (k :: qs) = minP (if DatumOrd.lt k q = true then k else q) qs := rfl
    rw [e]
    obtain ⟨h1, h2⟩ := minP_spec qs (if DatumOrd.lt k q = true then k else q)
    by_cases h : DatumOrd.lt k q = true
    · rw [if_pos h] at h1 h2 ⊢
      refine ⟨List.mem_cons_of_mem _ h1, fun y hy => ?_⟩
      rcases List.mem_cons.mp hy with rfl | hy
      · cases z : DatumOrd.lt y (minP k qs) with
        | false => rfl
        | true => rw [← h2 k List.mem_cons_self, lt_trans h z]
      · exact h2 y hy
    · rw [if_neg h] at h1 h2 ⊢
      refine ⟨?_, fun y hy => ?_⟩
      · rcases List.mem_cons.mp h1 with h1 | h1
        · rw [h1]; exact List.mem_cons_self
        · exact List.mem_cons_of_mem _ (List.mem_cons_of_mem _ h1)
      · rcases List.mem_cons.mp hy with rfl | hy
        · exact h2 y List.mem_cons_self
        · rcases List.mem_cons.mp hy with rfl | hy
          · cases z : DatumOrd.lt y (minP q qs) with
            | false => rfl
            | true =>
              -- y less than the least so far, q not above y
              have hq := h2 q List.mem_cons_self
              have e1 : ∀ a b : Int × Int, DatumOrd.lt a b = if a.1 = b.1 then decide (a.2 < b.2) else decide (a.1 < b.1) := fun a b => rfl
              rw [e1] at z hq h
              split at z <;> split at hq <;> split at h <;> simp at z hq h <;> omega
          · exact h2 y (List.mem_cons_of_mem _ hy)
/-- the least pair is this one -/
theorem minP_eq {q : Int × Int} {qs : List (Int × Int)} {m : Int × Int} (h1 : m ∈ q :: qs) (h2 : ∀ y ∈ q :: qs, DatumOrd.lt y m = false) : minP q qs = m := by
  obtain ⟨k1, k2⟩ := minP_spec qs q
  have z1 := h2 _ k1
  have z2 := k2 _ h1
  have e1 : ∀ a b : Int × Int, DatumOrd.lt a b = if a.1 = b.1 then decide (a.2 < b.2) else decide (a.1 < b.1) := fun a b => rfl
  rw [e1] at z1 z2
  have : (minP q qs).1 = m.1 ∧ (minP q qs).2 = m.2 := by
    split at z1 <;> split at z2 <;> simp at z1 z2 <;> omega
  exact Prod.ext this.1 this.2
/-! ### where in a list -/
section
variable {α : Type} [DecidableEq α]
def pos0 (a : α) : List α → Nat
  | [] => 0
  | x :: xs => if x = a then 0 else pos0 a xs + 1
theorem pos0_at {a : α} : ∀ {xs : List α}, a ∈ xs → xs[pos0 a xs]? = some a
  | x :: xs, h => by
    unfold pos0
    by_cases e : x = a
    · rw [if_pos e, List.getElem?_cons_zero, e]
    · rw [if_neg e, List.getElem?_cons_succ]
      exact pos0_at ((List.mem_cons.mp h).resolve_left fun z => e z.symm)
theorem pos0_first {a : α} : ∀ {xs : List α} {i : Nat}, xs[i]? = some a → pos0 a xs ≤ i
  | [], i, h => by simp at h
  | x :: xs, i, h => by
    unfold pos0
    by_cases e : x = a
    · rw [if_pos e]; exact Nat.zero_le _
    · rw [if_neg e]
      cases i with
      | zero => rw [List.getElem?_cons_zero] at h; exact absurd (Option.some.inj h) e
      | succ i => rw [List.getElem?_cons_succ] at h; have := pos0_first h; omega
variable [En α] [Sh α]
theorem firstIx_en (a : α) : ∀ (xs : List α) (k : Nat), a ∈ xs → firstIx (Datum.toD a) k (xs.map Datum.toD) = some (k + pos0 a xs)
  | x :: xs, k, h => by
    rw [List.map_cons, firstIx, Datum.eqv, pos0]
    by_cases e : x = a
    · simp [e]
    · rw [if_neg (by simpa using e), if_neg e, firstIx_en a xs (k + 1) ((List.mem_cons.mp h).resolve_left fun z => e z.symm)]
      congr 1
      omega
theorem m_index {s : S} {Q : VQ} {xs : List α} {a : α} (h : a ∈ xs) : (evMt .index (.lst (xs.map enc)) [enc a] s).W Q = Q (.int (pos0 a xs : Nat)) s := by
  have h1 := Nat.le_trans (Sh.d (α := α)) (show 40 ≤ 64 by decide)
  have h2 := Nat.le_trans (Sh.d (α := α)) (show 40 ≤ 63 by decide)
  show Res.W (match s.py (enc a), s.pys (xs.map enc) with | some p, some ps => if (SeqAt.shaped p && SeqAt.shaped (.list ps)) = true then (match firstIx p 0 ps with | some i => .ok (.int i) s | none => .stuck) else .stuck | _, _ => .stuck) Q = _
  rw [py_en, pys_en]
  simp only [shaped_en a h1, shapeds_en xs h2, Bool.and_self, if_true, firstIx_en a xs 0 h, Nat.zero_add]
  rfl
end
theorem mem_enum {α : Type} {i : Int} {x : α} : ∀ {xs : List α} {k : Nat}, (i, x) ∈ enumL k xs ↔ ∃ n : Nat, i = k + n ∧ xs[n]? = some x
  | [], k => by simp [enumL]
  | y :: ys, k => by
    rw [enumL, List.mem_cons, mem_enum]
    constructor
    · rintro (h | ⟨n, h1, h2⟩)
      · cases h
        exact ⟨0, by omega, rfl⟩
      · exact ⟨n + 1, by omega, by rw [List.getElem?_cons_succ]; exact h2⟩
    · rintro ⟨n, h1, h2⟩
      cases n with
      | zero =>
        rw [List.getElem?_cons_zero] at h2
        cases h2
        exact .inl (by rw [h1]; simp)
      | succ n =>
        rw [List.getElem?_cons_succ] at h2
        exact .inr ⟨n, by omega, h2⟩
end Mi
set_option Elab.async false
set_option linter.all false
set_option maxRecDepth 100000
set_option maxHeartbeats 400000
/-! Kn: ranks by what follows each place: how long runs are; taken out one by one. -/
namespace Mi
open PySem PySem.W
open Mi.En (enc)
abbrev Nx := List (List (Int × Int))
def maxF (vs : List Int) : Int := (vs.map (· + 1)).foldl max 0
theorem foldl_max_ge : ∀ (l : List Int) (a : Int), a ≤ l.foldl max a ∧ ∀ v ∈ l, v ≤ l.foldl max a
  | [], a => ⟨Int.le_refl _, fun _ h => by cases h⟩
  | x :: l, a => by
    obtain ⟨h1, h2⟩ := foldl_max_ge l (max a x)
    rw [List.foldl_cons]
    refine ⟨by omega, fun v hv => ?_⟩
    rcases List.mem_cons.mp hv with rfl | hv
    · omega
    · exact h2 v hv
theorem maxF_nonneg (vs : List Int) : 0 ≤ maxF vs := (foldl_max_ge _ _).1
theorem maxF_gt {vs : List Int} {v : Int} (h : v ∈ vs) : v < maxF vs := by
  have := (foldl_max_ge (vs.map (· + 1)) 0).2 (v + 1) (List.mem_map.mpr ⟨v, h, rfl⟩)
  unfold maxF
  omega
/-- R tells the length of each place's longest run; none of one that lasts -/
structure IsRk (nx : Nx) (R : List (Option Int)) : Prop where
  len : R.length = nx.length
  som : ∀ (i : Nat) (row : List (Int × Int)) (r : Int), nx[i]? = some row → R[i]? = some (some r) → ∃ vs : List Int, row.map (fun q => R[q.2.toNat]?) = vs.map (fun v => some (some v)) ∧ r = maxF vs
  non : ∀ (i : Nat) (row : List (Int × Int)), nx[i]? = some row → R[i]? = some none → ∃ q ∈ row, R[q.2.toNat]? = some none
theorem opt_inj : ∀ {vs ws : List Int}, vs.map (fun v => some (some v)) = ws.map (fun v => some (some v)) → vs = ws
  | [], [], _ => rfl
  | [], _ :: _, h => by simp at h
  | _ :: _, [], h => by simp at h
  | v :: vs, w :: ws, h => by
    simp only [List.map_cons, List.cons.injEq, Option.some.injEq] at h
    rw [h.1, opt_inj h.2]
theorem mem_of_maps {γ : Type} {f : γ → Option (Option Int)} : ∀ {row : List γ} {vs : List Int}, row.map f = vs.map (fun v => some (some v)) → ∀ q ∈ row, ∃ v ∈ vs, f q = some (some v)
  | [], _, _, q, h => by cases h
  | r :: row, [], h, _, _ => by simp at h
  | r :: row, v :: vs, h, q, hq => by
    simp only [List.map_cons, List.cons.injEq] at h
    rcases List.mem_cons.mp hq with rfl | hq
    · exact ⟨v, List.mem_cons_self, h.1⟩
    · obtain ⟨w, hw, e⟩ := mem_of_maps h.2 q hq
      exact ⟨w, List.mem_cons_of_mem _ hw, e⟩
theorem maps_congr {γ : Type} {f g : γ → Option (Option Int)} : ∀ {row : List γ} {vs : List Int}, row.map f = vs.map (fun v => some (some v)) → (∀ q ∈ row, ∀ v ∈ vs, f q = some (some v) → g q = some (some v)) → row.map g = vs.map (fun v => some (some v))
  | [], [], _, _ => rfl
  | [], _ :: _, h, _ => by simp at h
  | _ :: _, [], h, _ => by simp at h
  | r :: row, v :: vs, h, k => by
    simp only [List.map_cons, List.cons.injEq] at h ⊢
    refine ⟨k r List.mem_cons_self v List.mem_cons_self h.1, maps_congr h.2 fun q hq w hw => k q (List.mem_cons_of_mem _ hq) w (List.mem_cons_of_mem _ hw)⟩
theorem IsRk.le {nx : Nx} {R R' : List (Option Int)} (h : IsRk nx R) (h' : IsRk nx R') : ∀ (k : Nat) (i : Nat) (r : Int), R[i]? = some (some r) → r < k → R'[i]? = some (some r) := by
  intro k
  induction k with
  | zero =>
    intro i r hi hr
    have hlt : i < nx.length := by rw [← h.len]; exact (List.getElem?_eq_some_iff.mp hi).1
    obtain ⟨vs, _, e⟩ := h.som i _ r (List.getElem?_eq_getElem hlt) hi
    have := maxF_nonneg vs
    omega
  | succ k ih =>
    intro i r hi hr
    have hlt : i < nx.length := by rw [← h.len]; exact (List.getElem?_eq_some_iff.mp hi).1
    have hrow := List.getElem?_eq_getElem hlt
    obtain ⟨vs, e1, e2⟩ := h.som i _ r hrow hi
    have key : (nx[i]).map (fun q => R'[q.2.toNat]?) = vs.map (fun v => some (some v)) := maps_congr e1 fun q hq v hv e => ih _ v e (by have := maxF_gt hv; omega)
    have hlt' : i < R'.length := by rw [h'.len]; exact hlt
    have hg := List.getElem?_eq_getElem hlt'
    cases e3 : R'[i] with
    | none =>
      rw [e3] at hg
      obtain ⟨q, hq, e4⟩ := h'.non i _ hrow hg
      obtain ⟨v, _, e5⟩ := mem_of_maps key q hq
      rw [e4] at e5
      cases e5
    | some r' =>
      rw [e3] at hg
      obtain ⟨ws, e4, e5⟩ := h'.som i _ r' hrow hg
      rw [key] at e4
      rw [hg, e5, e2, opt_inj e4]
theorem IsRk.uniq {nx : Nx} {R R' : List (Option Int)} (h : IsRk nx R) (h' : IsRk nx R') : R = R' := by
  have one : ∀ {R R' : List (Option Int)}, IsRk nx R → IsRk nx R' → ∀ i r, R[i]? = some (some r) → R'[i]? = some (some r) := fun {R R'} a b i r e => a.le b (r.toNat + 1) i r e (by omega)
  apply List.ext_getElem?
  intro i
  by_cases hlt : i < nx.length
  · have h1 : i < R.length := by rw [h.len]; exact hlt
    have h2 : i < R'.length := by rw [h'.len]; exact hlt
    have g1 := List.getElem?_eq_getElem h1
    have g2 := List.getElem?_eq_getElem h2
    cases e1 : R[i] with
    | some r => rw [e1] at g1; rw [g1, one h h' i r g1]
    | none =>
      rw [e1] at g1
      cases e2 : R'[i] with
      | none => rw [e2] at g2; rw [g1, g2]
      | some r =>
        rw [e2] at g2
        have := one h' h i r g2
        rw [g1] at this
        cases this
  · rw [List.getElem?_eq_none (by rw [h.len]; omega), List.getElem?_eq_none (by rw [h'.len]; omega)]
/-- the ranks (if there are any) -/
noncomputable def rkOf (nx : Nx) : List (Option Int) := open Classical in if h : ∃ R, IsRk nx R then Classical.choose h else []
theorem IsRk.eq {nx : Nx} {R : List (Option Int)} (h : IsRk nx R) : R = rkOf nx := by
  have hx : ∃ R, IsRk nx R := ⟨R, h⟩
  unfold rkOf
  rw [dif_pos hx]
  exact h.uniq (Classical.choose_spec hx)
theorem IsRk.rk {nx : Nx} {R : List (Option Int)} (h : IsRk nx R) : IsRk nx (rkOf nx) := by rw [← h.eq]; exact h
/-! ### enumerations -/
theorem mem_enum0 {α : Type} {a : Int} {b : α} : ∀ {xs : List α} {k : Nat}, (a, b) ∈ enumL k xs → ∃ n : Nat, a = (k + n : Nat) ∧ xs[n]? = some b
  | [], k, h => by simp [enumL] at h
  | y :: ys, k, h => by
    rw [enumL] at h
    rcases List.mem_cons.mp h with h | h
    · cases h
      exact ⟨0, by simp, rfl⟩
    · obtain ⟨n, h1, h2⟩ := mem_enum0 h
      exact ⟨n + 1, by omega, by rw [List.getElem?_cons_succ]; exact h2⟩
theorem enum_mem0 {α : Type} {b : α} : ∀ {xs : List α} {n k : Nat}, xs[n]? = some b → (((k + n : Nat) : Int), b) ∈ enumL k xs
  | [], n, k, h => by simp at h
  | y :: ys, 0, k, h => by
    rw [enumL]
    rw [List.getElem?_cons_zero] at h
    cases h
    exact List.mem_cons_self
  | y :: ys, n + 1, k, h => by
    rw [enumL]
    rw [List.getElem?_cons_succ] at h
    have := enum_mem0 (k := k + 1) h
    rw [show k + 1 + n = k + (n + 1) by omega] at this
    exact List.mem_cons_of_mem _ this
theorem enum_ge {α : Type} {q : Int × α} {xs : List α} {k : Nat} (h : q ∈ enumL k xs) : (k : Int) ≤ q.1 := by
  obtain ⟨a, b⟩ := q
  obtain ⟨n, h1, _⟩ := mem_enum0 h
  show (k : Int) ≤ a
  omega
theorem enum_pair {α : Type} : ∀ (xs : List α) (k : Nat), (enumL k xs).Pairwise fun a b => a.1 < b.1
  | [], k => .nil
  | y :: ys, k => by
    rw [enumL]
    refine .cons (fun q hq => ?_) (enum_pair ys (k + 1))
    have := enum_ge hq
    show (k : Int) < q.1
    omega
theorem enum_snd {α : Type} : ∀ (xs : List α) (k : Nat), (enumL k xs).map (fun q => q.2) = xs
  | [], _ => rfl
  | x :: xs, k => by rw [enumL, List.map_cons, enum_snd xs (k + 1)]
/-- where a key stands -/
theorem lk_enum {κ : Type} [DecidableEq κ] [En κ] [Ky κ] {p : κ} : ∀ {xs : List κ} {k : Nat}, p ∈ xs → xs.Nodup → lk p ((enumL k xs).map fun q => (q.2, q.1)) = some (((k + pos0 p xs : Nat)) : Int)
  | x :: xs, k, h, hn => by
    rw [enumL, List.map_cons, lk, pos0]
    by_cases e : p = x
    · rw [if_pos e, if_pos e.symm]
      rfl
    · rw [if_neg e, if_neg fun z => e z.symm, lk_enum ((List.mem_cons.mp h).resolve_left e) (List.nodup_cons.mp hn).2]
      congr 2
      omega
/-! ### taken out one by one -/
def outN (D : List Int) (row : List (Int × Int)) : Nat := (row.filter fun q => decide (q.2 ∉ D)).length
structure KI (nx : Nx) (line : List Int) (turn : Nat) (left : List Int) (found : List (Option Int)) : Prop where
  nd : line.Nodup
  rng : ∀ i ∈ line, 0 ≤ i ∧ i < nx.length
  tl : turn ≤ line.length
  ll : left.length = nx.length
  lf : ∀ (i : Nat) (row : List (Int × Int)), nx[i]? = some row → left[i]? = some ((outN (line.take turn) row : Nat) : Int)
  zero : ∀ (i : Nat), i < nx.length → ((i : Int) ∈ line ↔ left[i]? = some 0)
  fl : found.length = nx.length
  fd : ∀ (i : Nat) (row : List (Int × Int)), nx[i]? = some row → (i : Int) ∈ line.take turn → (∀ q ∈ row, q.2 ∈ line.take turn) ∧ ∃ vs : List Int, row.map (fun q => found[q.2.toNat]?) = vs.map (fun v => some (some v)) ∧ found[i]? = some (some (maxF vs))
  fn : ∀ (i : Nat), i < nx.length → (i : Int) ∉ line.take turn → found[i]? = some none
/-- within a turn: post is what is left of those that lead here -/
structure KJ (nx : Nx) (D : List Int) (post line : List Int) (left : List Int) : Prop where
  nd : line.Nodup
  rng : ∀ i ∈ line, 0 ≤ i ∧ i < nx.length
  pre : D <+: line
  ll : left.length = nx.length
  lf : ∀ (i : Nat) (row : List (Int × Int)), nx[i]? = some row → left[i]? = some ((outN D row + post.count (i : Int) : Nat) : Int)
  zero : ∀ (i : Nat), i < nx.length → ((i : Int) ∈ line ↔ left[i]? = some 0)
section
variable {nx : Nx} {line left : List Int} {turn : Nat} {found : List (Option Int)}
/-- all that follow are in range -/
def InR (nx : Nx) : Prop := ∀ row ∈ nx, ∀ q ∈ row, 0 ≤ q.2 ∧ q.2 < nx.length
theorem outN_snoc {D : List Int} {h : Int} (hn : h ∉ D) : ∀ (row : List (Int × Int)), outN D row = outN (D ++ [h]) row + (row.filter fun q => decide (q.2 = h)).length
  | [] => rfl
  | q :: row => by
    have ih := outN_snoc hn row
    unfold outN at ih ⊢
    by_cases e : q.2 = h
    · have h1 : q.2 ∉ D := by rw [e]; exact hn
      have h2 : ¬ (q.2 ∉ D ++ [h]) := by rw [e]; simp
      rw [List.filter_cons_of_pos (by simpa using h1), List.filter_cons_of_neg (by simpa using h2), List.filter_cons_of_pos (by simpa using e)]
      simp only [List.length_cons]
      omega
    · by_cases h1 : q.2 ∈ D
      · have h2 : ¬ (q.2 ∉ D ++ [h]) := by simp [h1]
        rw [List.filter_cons_of_neg (by simpa using h1), List.filter_cons_of_neg (by simpa using h2), List.filter_cons_of_neg (by simpa using e)]
        exact ih
      · have h2 : q.2 ∉ D ++ [h] := by simp [h1, e]
        rw [List.filter_cons_of_pos (by simpa using h1), List.filter_cons_of_pos (by simpa using h2), List.filter_cons_of_neg (by simpa using e)]
        simp only [List.length_cons]
        omega
theorem take_snoc {α : Type} {l : List α} {t : Nat} {a : α} (h : l[t]? = some a) : l.take (t + 1) = l.take t ++ [a] := by
  rw [List.take_add_one, h]
  rfl
theorem KI.here_fresh (k : KI nx line turn left found) {here : Int} (h : line[turn]? = some here) : here ∉ line.take turn := by
  intro hm
  obtain ⟨i, hi, e⟩ := List.mem_iff_getElem.mp hm
  have hlt : turn < line.length := (List.getElem?_eq_some_iff.mp h).1
  rw [List.length_take] at hi
  have e1 : line[i]'(by omega) = here := by rw [← e, List.getElem_take]
  have e2 : line[turn]'hlt = here := (List.getElem?_eq_some_iff.mp h).2
  have := (List.getElem_inj k.nd).mp (e1.trans e2.symm)
  omega
theorem KI.here_rng (k : KI nx line turn left found) {here : Int} (h : line[turn]? = some here) : 0 ≤ here ∧ here < nx.length := k.rng _ (List.mem_of_getElem? h)
/-- all that follow it are done -/
theorem KI.here_done (k : KI nx line turn left found) {here : Int} (h : line[turn]? = some here) {row : List (Int × Int)} (hr : nx[here.toNat]? = some row) : ∀ q ∈ row, q.2 ∈ line.take turn := by
  obtain ⟨h0, h1⟩ := k.here_rng h
  have e : ((here.toNat : Nat) : Int) = here := by omega
  have hz := (k.zero here.toNat (by omega)).mp (by rw [e]; exact List.mem_of_getElem? h)
  have hl := k.lf here.toNat row hr
  rw [hz] at hl
  have h2 : outN (line.take turn) row = 0 := by
    have := Option.some.inj hl
    omega
  intro q hq
  unfold outN at h2
  have h3 := List.length_eq_zero_iff.mp h2
  rw [List.filter_eq_nil_iff] at h3
  have := h3 q hq
  simpa using this
theorem KI.vals (k : KI nx line turn left found) {D : List (Int × Int)} (hin : ∀ q ∈ D, (0 ≤ q.2 ∧ q.2 < nx.length) ∧ q.2 ∈ line.take turn) : ∃ vs : List Int, D.map (fun q => found[q.2.toNat]?) = vs.map (fun v => some (some v)) := by
  induction D with
  | nil => exact ⟨[], rfl⟩
  | cons q D ih =>
    obtain ⟨vs, e⟩ := ih fun r hr => hin r (List.mem_cons_of_mem _ hr)
    obtain ⟨⟨h0, h1⟩, h2⟩ := hin q List.mem_cons_self
    have hlt : q.2.toNat < nx.length := by omega
    have e2 : ((q.2.toNat : Nat) : Int) = q.2 := by omega
    obtain ⟨_, ws, _, e3⟩ := k.fd q.2.toNat _ (List.getElem?_eq_getElem hlt) (by rw [e2]; exact h2)
    exact ⟨maxF ws :: vs, by rw [List.map_cons, List.map_cons, e, e3]⟩
theorem KI.begin_turn (k : KI nx line turn left found) {here : Int} (h : line[turn]? = some here) {hl : List Int} (hc : ∀ (i : Nat) (row : List (Int × Int)), nx[i]? = some row → hl.count (i : Int) = (row.filter fun q => decide (q.2 = here)).length) : KJ nx (line.take turn ++ [here]) hl line left := by
  refine ⟨k.nd, k.rng, ?_, k.ll, fun i row hr => ?_, k.zero⟩
  · rw [← take_snoc h]
    exact List.take_prefix _ _
  · rw [k.lf i row hr, outN_snoc (k.here_fresh h) row, hc i row hr]
theorem KJ.at_ {D post : List Int} {a : Int} (k : KJ nx D (a :: post) line left) (h0 : 0 ≤ a) (h1 : a < nx.length) : ∃ v : Int, left[a.toNat]? = some v ∧ 1 ≤ v := by
  have e : ((a.toNat : Nat) : Int) = a := by omega
  have hlt : a.toNat < nx.length := by omega
  have := k.lf a.toNat _ (List.getElem?_eq_getElem hlt)
  rw [e, List.count_cons_self] at this
  exact ⟨_, this, by omega⟩
theorem KJ.step {D post : List Int} {a v : Int} (k : KJ nx D (a :: post) line left) (h0 : 0 ≤ a) (h1 : a < nx.length) (hv : left[a.toNat]? = some v) : KJ nx D post (if v - 1 = 0 then line ++ [a] else line) (left.set a.toNat (v - 1)) := by
  have e : ((a.toNat : Nat) : Int) = a := by omega
  have hlt : a.toNat < nx.length := by omega
  have hll := k.ll
  obtain ⟨v', hv', hv1⟩ := k.at_ h0 h1
  rw [hv] at hv'
  cases hv'
  have hna : a ∉ line := fun hm => by
    have := (k.zero a.toNat hlt).mp (by rw [e]; exact hm)
    rw [hv] at this
    have := Option.some.inj this
    omega
  refine ⟨?_, ?_, ?_, by rw [List.length_set]; exact k.ll, fun i row hr => ?_, fun i hi => ?_⟩
  · split
    · rw [List.nodup_append]
      exact ⟨k.nd, List.nodup_cons.mpr ⟨List.not_mem_nil, List.nodup_nil⟩, fun x hx y hy => by rw [List.mem_singleton.mp hy]; exact fun z => hna (by rw [← z]; exact hx)⟩
    · exact k.nd
  · split
    · intro i hi
      rcases List.mem_append.mp hi with hi | hi
      · exact k.rng i hi
      · rw [List.mem_singleton.mp hi]; exact ⟨h0, h1⟩
    · exact k.rng
  · split
    · exact k.pre.trans (List.prefix_append _ _)
    · exact k.pre
  · by_cases hi : i = a.toNat
    · subst hi
      rw [List.getElem?_set_self (by omega)]
      have := k.lf a.toNat row hr
      rw [hv, e, List.count_cons_self] at this
      have := Option.some.inj this
      rw [e]
      congr 1
      omega
    · rw [List.getElem?_set_ne (fun z => hi z.symm), k.lf i row hr, List.count_cons_of_ne (by omega)]
  · by_cases hia : i = a.toNat
    · subst hia
      rw [List.getElem?_set_self (by omega), e]
      by_cases hz : v - 1 = 0
      · rw [if_pos hz, hz]
        simp
      · rw [if_neg hz]
        constructor
        · intro hm; exact absurd hm hna
        · intro hm; exact absurd (Option.some.inj hm) hz
    · rw [List.getElem?_set_ne (fun z => hia z.symm), ← k.zero i hi]
      split
      · rw [List.mem_append, List.mem_singleton]
        constructor
        · rintro (h | h)
          · exact h
          · exact absurd h (by omega)
        · exact .inl
      · exact Iff.rfl
theorem KI.end_turn (k : KI nx line turn left found) {here : Int} (h : line[turn]? = some here) {row : List (Int × Int)} (hr : nx[here.toNat]? = some row) (hin : InR nx) {vs : List Int} (hv : row.map (fun q => found[q.2.toNat]?) = vs.map (fun v => some (some v))) {line' left' : List Int} (j : KJ nx (line.take turn ++ [here]) [] line' left') : KI nx line' (turn + 1) left' (found.set here.toNat (some (maxF vs))) := by
  obtain ⟨h0, h1⟩ := k.here_rng h
  have e : ((here.toNat : Nat) : Int) = here := by omega
  have hfr := k.here_fresh h
  have hlen : (line.take turn ++ [here]).length = turn + 1 := by
    have := k.tl
    rw [List.length_append, List.length_take]
    simp
    omega
  have htk : line'.take (turn + 1) = line.take turn ++ [here] := by
    obtain ⟨t, ht⟩ := j.pre
    rw [← ht, ← hlen, List.take_left]
  have hrows : ∀ q ∈ row, (0 ≤ q.2 ∧ q.2 < nx.length) ∧ q.2 ∈ line.take turn := fun q hq => ⟨hin _ (List.mem_of_getElem? hr) q hq, k.here_done h hr q hq⟩
  have keep : ∀ (D : List (Int × Int)), (∀ q ∈ D, (0 ≤ q.2 ∧ q.2 < nx.length) ∧ q.2 ∈ line.take turn) → D.map (fun q => (found.set here.toNat (some (maxF vs)))[q.2.toNat]?) = D.map (fun q => found[q.2.toNat]?) := fun D hD => List.map_congr_left fun q hq => by
    obtain ⟨⟨g0, g1⟩, g2⟩ := hD q hq
    exact List.getElem?_set_ne (fun z => hfr (by
      have : q.2 = here := by omega
      rw [← this]; exact g2))
  refine ⟨j.nd, j.rng, ?_, j.ll, fun i r hi => ?_, j.zero, by rw [List.length_set]; exact k.fl, fun i r hi hm => ?_, fun i hi hm => ?_⟩
  · have := j.pre.length_le
    omega
  · rw [htk, j.lf i r hi]
    simp
  · rw [htk] at hm ⊢
    rcases List.mem_append.mp hm with hm | hm
    · obtain ⟨g1, ws, g2, g3⟩ := k.fd i r hi hm
      refine ⟨fun q hq => List.mem_append_left _ (g1 q hq), ws, ?_, ?_⟩
      · rw [keep r fun q hq => ⟨hin _ (List.mem_of_getElem? hi) q hq, g1 q hq⟩]
        exact g2
      · rw [List.getElem?_set_ne (fun z => hfr (by rw [← e, z]; exact hm))]
        exact g3
    · have hie : i = here.toNat := by
        have := List.mem_singleton.mp hm
        omega
      subst hie
      rw [hr] at hi
      cases hi
      refine ⟨fun q hq => List.mem_append_left _ (hrows q hq).2, vs, ?_, ?_⟩
      · rw [keep row hrows]
        exact hv
      · rw [List.getElem?_set_self (by rw [k.fl]; omega)]
  · rw [htk] at hm
    have h2 : i ≠ here.toNat := fun z => hm (by rw [z, e]; exact List.mem_append_right _ (List.mem_singleton.mpr rfl))
    rw [List.getElem?_set_ne (fun z => h2 z.symm)]
    exact k.fn i hi fun z => hm (List.mem_append_left _ z)
theorem KI.done (k : KI nx line turn left found) (hin : InR nx) (h : line.length ≤ turn) : IsRk nx found := by
  have ht : line.take turn = line := List.take_of_length_le h
  refine ⟨k.fl, fun i row r hi hr => ?_, fun i row hi hr => ?_⟩
  · have hlt : i < nx.length := (List.getElem?_eq_some_iff.mp hi).1
    by_cases hm : (i : Int) ∈ line.take turn
    · obtain ⟨_, vs, g2, g3⟩ := k.fd i row hi hm
      rw [hr] at g3
      exact ⟨vs, g2, Option.some.inj (Option.some.inj g3)⟩
    · have := k.fn i hlt hm
      rw [hr] at this
      cases this
  · have hlt : i < nx.length := (List.getElem?_eq_some_iff.mp hi).1
    by_cases hm : (i : Int) ∈ line.take turn
    · obtain ⟨_, vs, g2, g3⟩ := k.fd i row hi hm
      rw [hr] at g3
      cases g3
    · have hz : left[i]? ≠ some 0 := fun z => hm (by rw [ht]; exact (k.zero i hlt).mpr z)
      have hl := k.lf i row hi
      have hne : outN (line.take turn) row ≠ 0 := fun z => hz (by rw [hl, z]; rfl)
      unfold outN at hne
      have h3 : (row.filter fun q => decide (q.2 ∉ line.take turn)) ≠ [] := fun z => hne (by rw [z]; rfl)
      obtain ⟨q, hq⟩ := List.exists_mem_of_ne_nil _ h3
      obtain ⟨hq1, hq2⟩ := List.mem_filter.mp hq
      have hr2 := hin _ (List.mem_of_getElem? hi) q hq1
      have e : ((q.2.toNat : Nat) : Int) = q.2 := by omega
      exact ⟨q, hq1, k.fn q.2.toNat (by omega) (by rw [e]; simpa using hq2)⟩
/-- as it begins -/
theorem KI.start (nx : Nx) : KI nx (((enumL 0 (nx.map fun row => ((row.length : Nat) : Int))).filter fun q => decide (q.2 = 0)).map (·.1)) 0 (nx.map fun row => ((row.length : Nat) : Int)) (List.replicate nx.length none) := by
  have mem : ∀ i : Int, i ∈ ((enumL 0 (nx.map fun row => ((row.length : Nat) : Int))).filter fun q => decide (q.2 = 0)).map (·.1) ↔ ∃ n : Nat, i = n ∧ (nx.map fun row => ((row.length : Nat) : Int))[n]? = some 0 := by
    intro i
    rw [List.mem_map]
    constructor
    · rintro ⟨⟨a, b⟩, h1, rfl⟩
      obtain ⟨h1, h2⟩ := List.mem_filter.mp h1
      obtain ⟨n, h3, h4⟩ := mem_enum0 h1
      exact ⟨n, by simpa using h3, by rw [h4]; simpa using h2⟩
    · rintro ⟨n, rfl, h⟩
      exact ⟨(n, 0), List.mem_filter.mpr ⟨by simpa using enum_mem0 (k := 0) h, by simp⟩, rfl⟩
  refine ⟨?_, fun i hi => ?_, Nat.zero_le _, by simp, fun i row hr => ?_, fun i hi => ?_, by simp, fun i row hr hm => ?_, fun i hi hm => ?_⟩
  · have : (((enumL 0 (nx.map fun row => ((row.length : Nat) : Int))).filter fun q => decide (q.2 = 0)).map (·.1)).Pairwise (fun a b => a < b) := by
      rw [List.pairwise_map]
      exact (enum_pair _ 0).filter _
    exact this.imp fun {a b} h => by omega
  · obtain ⟨n, rfl, h⟩ := (mem i).mp hi
    have := (List.getElem?_eq_some_iff.mp h).1
    rw [List.length_map] at this
    omega
  · rw [List.getElem?_map, hr, List.take_zero]
    have e : outN [] row = row.length := by
      unfold outN
      rw [List.filter_eq_self.mpr]
      simp
    rw [e]
    rfl
  · rw [mem]
    constructor
    · rintro ⟨n, h1, h2⟩
      have : i = n := by omega
      rw [this]; exact h2
    · intro h
      exact ⟨i, rfl, h⟩
  · simp at hm
  · rw [List.getElem?_replicate, if_pos hi]
end
end Mi
set_option Elab.async false
set_option linter.all false
set_option maxRecDepth 100000
set_option maxHeartbeats 400000
namespace Mi.L76
open PySem PySem.W
open Mi.En (enc)
/-! ### a farm's steps that are let; where they lead -/
def stF (t : FSt) (p : Pl) : Bool := decide (t.a = p.1) && geAll p.2.items t.wants
def letFB (f : Fm) (p : Pl) (i : Int) : Bool := match f.steps[i.toNat]? with
  | some t => stF t p
  | none => false
def letF (f : Fm) (p : Pl) : List Int := (up 0 f.steps.length).filter (letFB f p)
def addL (xs ys : List Int) : List Int := (xs.zip ys).map fun q => q.1 + q.2
def cutL (caps row : List Int) : List Int := (row.zip caps).map fun q => if q.2 < q.1 then q.2 else q.1
theorem cut_add : ∀ (caps row eff : List Int), cutL caps (addL row eff) = z3 caps row eff
  | [], row, eff => by simp [cutL, z3]
  | c :: caps, [], eff => by simp [cutL, z3, addL]
  | c :: caps, r :: row, [] => by simp [cutL, z3, addL]
  | c :: caps, r :: row, e :: eff => by
    have ih := cut_add caps row eff
    unfold cutL addL z3 at ih ⊢
    simp only [List.zip_cons_cons, List.map_cons, ih, List.cons.injEq, and_true]
    split <;> split <;> omega
def ledF (caps : List Int) (p : Pl) (t : FSt) : Pl := (t.g, ⟨z3 caps p.2.items t.effs⟩)
def ledI (f : Fm) (caps : List Int) (p : Pl) (i : Int) : Pl := match f.steps[i.toNat]? with
  | some t => ledF caps p t
  | none => p
theorem mem_letF {f : Fm} {p : Pl} {i : Int} : i ∈ letF f p ↔ ∃ t, 0 ≤ i ∧ f.steps[i.toNat]? = some t ∧ stF t p = true := by
  unfold letF
  rw [List.mem_filter, mem_up]
  unfold letFB
  constructor
  · rintro ⟨h1, h2⟩
    cases e : f.steps[i.toNat]? with
    | none => rw [e] at h2; cases h2
    | some t => rw [e] at h2; exact ⟨t, h1.1, rfl, h2⟩
  · rintro ⟨t, h0, h1, h2⟩
    have := (List.getElem?_eq_some_iff.mp h1).1
    rw [h1]
    exact ⟨⟨h0, by omega⟩, h2⟩
theorem letF_len (f : Fm) (p : Pl) : (letF f p).length ≤ f.steps.length := by
  have h2 : (letF f p).length ≤ (up 0 f.steps.length).length := List.length_filter_le _ _
  rwa [up_len] at h2
theorem ledI_at {f : Fm} {caps : List Int} {p : Pl} {i : Int} {t : FSt} (h : f.steps[i.toNat]? = some t) : ledI f caps p i = ledF caps p t := by unfold ledI; rw [h]
/-- where a step leads is a place -/
theorem led_in {f : Fm} (h : f.Ok) {caps : List Int} (hc : FCap f caps) {p : Pl} (hp : p ∈ placesF f caps) {t : FSt} (ht : t ∈ f.steps) (hs : stF t p = true) : ledF caps p t ∈ placesF f caps := by
  have hok := h.st t ht
  unfold placesF at hp ⊢
  rw [mem_places] at hp ⊢
  unfold within at hp ⊢
  simp only [Bool.and_eq_true, decide_eq_true_eq] at hp ⊢
  obtain ⟨⟨h1, h2⟩, h3, h4⟩ := hp
  refine ⟨⟨hok.g0, hok.g1⟩, ?_, ?_⟩
  · have hol := hok.el
    have hcl := hc.l
    simp [ledF, z3, List.length_zip]
    omega
  · have hge : geAll p.2.items t.wants = true := by
      unfold stF at hs
      rw [Bool.and_eq_true] at hs
      exact hs.2
    have hol := hok.el
    have hcl := hc.l
    have hwl := hok.wl
    have hw := hok.ow
    have hcc := hc.c
    have key : ∀ (cs rs es ws : List Int), rs.length = cs.length → es.length = cs.length → ws.length = cs.length → (∀ c ∈ cs, 0 ≤ c) → geAll rs ws = true → (∀ q ∈ ws.zip es, 0 ≤ q.1 + q.2) → ((z3 cs rs es).zip cs).all (fun q => decide (0 ≤ q.1) && decide (q.1 ≤ q.2)) = true := by
      intro cs
      induction cs with
      | nil => intro rs es ws _ _ _ _ _ _; simp
      | cons c cs ih =>
        intro rs es ws l1 l2 l3 hc hge hw
        cases rs with
        | nil => cases l1
        | cons r rs =>
          cases es with
          | nil => cases l2
          | cons e es =>
            cases ws with
            | nil => cases l3
            | cons x ws =>
              have hg2 : x ≤ r ∧ geAll rs ws = true := by simpa [geAll] using hge
              have hw0 := hw (x, e) (by simp)
              have hc0 := hc c (by simp)
              have ih := ih rs es ws (by simpa using l1) (by simpa using l2) (by simpa using l3) (fun d hd => hc d (List.mem_cons_of_mem _ hd)) hg2.2 (fun q hq => hw q (by simp [hq]))
              have ez : z3 (c :: cs) (r :: rs) (e :: es) = (if r + e < c then r + e else c) :: z3 cs rs es := rfl
              rw [ez, List.zip_cons_cons, List.all_cons, ih]
              simp at hw0 ⊢
              split <;> omega
    exact key caps p.2.items t.effs t.wants h3 (by omega) (by omega) (fun c hc' => (hcc c hc').1) hge hw
/-- what follows a place: steps, positions -/
def rowF (f : Fm) (caps : List Int) (p : Pl) : List (Int × Int) := (letF f p).map fun i => (i, ((pos0 (ledI f caps p i) (placesF f caps) : Nat) : Int))
def nxF (f : Fm) (caps : List Int) : Nx := (placesF f caps).map (rowF f caps)
theorem led_mem {f : Fm} (h : f.Ok) {caps : List Int} (hc : FCap f caps) {p : Pl} (hp : p ∈ placesF f caps) {i : Int} (hi : i ∈ letF f p) : ledI f caps p i ∈ placesF f caps := by
  obtain ⟨t, h0, h1, h2⟩ := mem_letF.mp hi
  rw [ledI_at h1]
  exact led_in h hc hp (List.mem_of_getElem? h1) h2
theorem pos0_lt {α : Type} [DecidableEq α] {a : α} {xs : List α} (h : a ∈ xs) : pos0 a xs < xs.length := (List.getElem?_eq_some_iff.mp (pos0_at h)).1
theorem nx_inr {f : Fm} (h : f.Ok) {caps : List Int} (hc : FCap f caps) : InR (nxF f caps) := by
  intro row hr q hq
  obtain ⟨p, hp, rfl⟩ := List.mem_map.mp hr
  obtain ⟨i, hi, rfl⟩ := List.mem_map.mp hq
  have := pos0_lt (led_mem h hc hp hi)
  unfold nxF
  rw [List.length_map]
  exact ⟨Int.natCast_nonneg _, by show ((pos0 _ _ : Nat) : Int) < _; omega⟩
theorem nx_len (f : Fm) (caps : List Int) : (nxF f caps).length = (placesF f caps).length := by simp [nxF]
theorem nx_row {f : Fm} (h : f.Ok) {caps : List Int} {row : List (Int × Int)} (hr : row ∈ nxF f caps) : row.length ≤ 12 := by
  obtain ⟨p, hp, rfl⟩ := List.mem_map.mp hr
  have := letF_len f p
  have := h.sl
  simp [rowF]
  omega
section
variable {wf n : Nat} {s : S}
theorem c_is_leastF (W : Wf s) {xs ys : List Int} (hx : xs.length ≤ 64) : callN tab wf (n + 1) 5 [eT xs, eT ys] s = .ok (.bl (geAll xs ys)) s := c_is_least W hx
theorem c_fis_let (W : Wf s) {f : Fm} {p : Pl} (hp : p.2.items.length ≤ 64) {i : Int} (h0 : 0 ≤ i) {t : FSt} (ht : f.steps[i.toNat]? = some t) : callN tab wf (n + 2) 298 [eF f, enc p, .int i] s = .ok (.bl (stF t p)) s := by
  refine call_W t_farms_is_let rfl W rfl ?_
  simp only [↓wS, ↓wE, ↓wC, ↓wI, wV, wX, wM, wY, wB, wK, wT, b_farms_is_let, wF0, wU, xFStep h0 ht]
  refine brAnd_pure (geAll p.2.items t.wants) (fun _ => ?_) ?_
  · simp only [↓wS, ↓wE, ↓wC, ↓wI, wV, wX, wM, wY, wB, wK, wF0, wU, xFStep h0 ht, c_is_leastF W hp]
  · simp only [↓wS, ↓wE, ↓wC, ↓wI, wV, wX, wM, wY, wB, wK, wO, stF]
theorem c_let_at (W : Wf s) {f : Fm} (h : f.Ok) {p : Pl} (hp : p.2.items.length ≤ 64) : callN tab wf (n + 3) 299 [eF f, enc p] s = .ok (.lst ((letF f p).map enc)) s := by
  have hl := h.sl
  have key : ∀ i ∈ up 0 f.steps.length, callN tab wf (n + 2) 298 [eF f, enc p, .int i] s = .ok (.bl (letFB f p i)) s := by
    intro i hi
    have hi := mem_up.mp hi
    have hlt : i.toNat < f.steps.length := by omega
    have ht : f.steps[i.toNat]? = some (f.steps[i.toNat]'hlt) := List.getElem?_eq_getElem hlt
    rw [c_fis_let W hp hi.1 ht]
    unfold letFB
    rw [ht]
  refine call_W t_farms_let_at rfl W ints_low ?_
  simp only [↓wS, ↓wE, ↓wC, ↓wI, wV, wX, wM, wY, wB, wK, wT, b_farms_let_at, wF0, rangeD_up, Int.toNat_natCast]
  refine ⟨by omega, by rw [up_len]; omega, W_filter (letFB f p) enc (fun i hi => ?_) ?_⟩
  · simp only [↓wS, ↓wE, ↓wC, ↓wI, wV, wX, wM, wY, wB, wK, key i hi]
    refine brT_if rfl (fun _ => ?_)
    simp only [↓wS, ↓wE, ↓wC, ↓wI, wV, wX, wM, wY, wB, wK]
  · simp only [↓wS, ↓wE, ↓wC, ↓wI, wV, wX, wM, wY, wB, wK]
    exact ⟨rfl, Over.refl s⟩
theorem c_added (W : Wf s) {xs ys : List Int} (hx : xs.length ≤ 64) : callN tab wf (n + 1) 297 [eT xs, eT ys] s = .ok (eT (addL xs ys)) s := by
  refine call_W t_farms_added rfl W eT_low ?_
  simp only [↓wS, ↓wE, ↓wC, ↓wI, wV, wX, wM, wY, wB, wK, wT, b_farms_added, wU, zipD_en]
  refine ⟨by rw [List.length_zip]; omega, W_map (fun q : Int × Int => enc (q.1 + q.2)) (fun q _ => ?_) ?_⟩
  · simp only [↓wS, ↓wE, ↓wC, ↓wI, wV, wX, wM, wY, wB, wK, enc_pair]
  · simp only [↓wS, ↓wE, ↓wC, ↓wI, wV, wX, wM, wY, wB, wK, wO]
    simp [eT, addL, Function.comp_def, e_int]
theorem c_cut (W : Wf s) {xs ys : List Int} (hx : ys.length ≤ 64) : callN tab wf (n + 1) 305 [eT xs, eT ys] s = .ok (eT (cutL xs ys)) s := by
  refine call_W t_caps_cut rfl W eT_low ?_
  simp only [↓wS, ↓wE, ↓wC, ↓wI, wV, wX, wM, wY, wB, wK, wT, b_caps_cut, wU, zipD_en]
  refine ⟨by rw [List.length_zip]; omega, W_map (fun q : Int × Int => enc (if q.2 < q.1 then q.2 else q.1)) (fun q _ => ?_) ?_⟩
  · simp only [↓wS, ↓wE, ↓wC, ↓wI, wV, wX, wM, wY, wB, wK, enc_pair]
  · simp only [↓wS, ↓wE, ↓wC, ↓wI, wV, wX, wM, wY, wB, wK, wO]
    simp [eT, cutL, Function.comp_def, e_int]
theorem c_capped_by (W : Wf s) {f : Fm} {caps : List Int} {p : Pl} (hp : p.2.items.length ≤ 64) {i : Int} (h0 : 0 ≤ i) {t : FSt} (ht : f.steps[i.toNat]? = some t) : callN tab wf (n + 2) 306 [eF f, eT caps, enc p, .int i] s = .ok (enc (ledF caps p t)) s := by
  refine call_W t_caps_capped_by rfl W (En.low _ _) ?_
  have hl : (addL p.2.items t.effs).length ≤ 64 := by simp [addL]; omega
  simp only [↓wS, ↓wE, ↓wC, ↓wI, wV, wX, wM, wY, wB, wK, wT, b_caps_capped_by, wF0, wU, xFStep h0 ht, c_added W hp, c_cut W hl, wO]
  rw [cut_add]
  rfl
theorem c_nexts_of (W : Wf s) {f : Fm} (h : f.Ok) {caps : List Int} (hc : FCap f caps) : callN tab wf (n + 4) 307 [eF f, eT caps, .lst ((placesF f caps).map enc)] s = .ok (enc (nxF f caps)) s := by
  have hP := fplaces_600 h hc
  have hcl := fcaps_len h hc
  have hn := places_nodup f.sd caps
  refine call_W t_caps_nexts_of rfl W (En.low _ _) ?_
  simp only [↓wS, ↓wE, ↓wC, ↓wI, wV, wX, wM, wY, wB, wK, wT, b_caps_nexts_of, enumD_map]
  refine ⟨by rw [enumL_len]; omega, W_dmap (fun q : Int × Pl => q.2) (fun q : Int × Pl => q.1) D.int ?_ (fun q hq => ?_) ?_⟩
  · rw [enum_snd]
    exact hn
  · simp only [↓wS, ↓wE, ↓wC, ↓wI, wV, wX, wM, wY, wB, wK]
  simp only [↓wS, ↓wE, ↓wC, ↓wI, wV, wX, wM, wY, wB, wK]
  refine ⟨by omega, W_map (fun p => enc (rowF f caps p)) (fun p hp => ?_) ?_⟩
  · have hpl := frow_len hc hp
    have hll := letF_len f p
    have hsl := h.sl
    simp only [↓wS, ↓wE, ↓wC, ↓wI, wV, wX, wM, wY, wB, wK, c_let_at W h (show p.2.items.length ≤ 64 by omega)]
    refine ⟨by omega, W_map (fun i : Int => D.tup [.int i, .int ((pos0 (ledI f caps p i) (placesF f caps) : Nat) : Int)]) (fun i hi => ?_) ?_⟩
    · obtain ⟨t, h0, h1, h2⟩ := mem_letF.mp hi
      have hm := led_in h hc hp (List.mem_of_getElem? h1) h2
      have hlk := lk_enum (k := 0) hm hn
      simp only [↓wS, ↓wE, ↓wC, ↓wI, wV, wX, wM, wY, wB, wK, c_capped_by W (show p.2.items.length ≤ 64 by omega) h0 h1, hlk, ledI_at h1]
      simp [w_at, isQ]
    · simp only [↓wS, ↓wE, ↓wC, ↓wI, wV, wX, wM, wY, wB, wK]
      simp [isQ, rowF, enc_list, enc_pair, Function.comp_def, e_int]
  · simp only [↓wS, ↓wE, ↓wC, ↓wI, wV, wX, wM, wY, wB, wK, wO]
    simp [nxF, enc_list, Function.comp_def]
end
end Mi.L76
set_option Elab.async false
set_option linter.all false
set_option maxRecDepth 100000
set_option maxHeartbeats 400000
/-! W9: more rules: lists in cells, dicts' get, options. -/
namespace Mi
open PySem PySem.W
open Mi.En (enc)
def eO : Option Int → D
  | none => .non
  | some i => .int i
theorem eO_n : eO none = .non := rfl
theorem eO_s {i : Int} : eO (some i) = .int i := rfl
section
variable {s : S} {Q : VQ} {n : Nat}
def wLenR (o : Option (List D)) (s : S) (Q : VQ) : Prop := match o with
  | some ds => Q (.int ds.length) s
  | none => False
theorem v_lenr : (evBi .len [.ref n] s).W Q = wLenR (itemsC (s.get n)) s Q := by
  have e : evBi .len [.ref n] s = match s.items (.ref n) with | some ds => .ok (.int ds.length) s | none => .stuck := rfl
  rw [e, items_ref]
  cases itemsC (s.get n) <;> rfl
theorem w_lenr {ds : List D} : wLenR (some ds) s Q = Q (.int ds.length) s := rfl
def dicC : Option Cl → Option (List D × List D)
  | some (.dic _ ks vs) => some (ks, vs)
  | _ => none
theorem dicOf_ref : dicOf (.ref n) s = dicC (s.get n) := by
  show (match s.get n with | some (.dic _ ks vs) => some (ks, vs) | _ => none) = _
  cases s.get n with
  | none => rfl
  | some c => cases c <;> rfl
theorem dicC_dic {b : Bool} {ks vs : List D} : dicC (some (.dic b ks vs)) = some (ks, vs) := rfl
theorem dicOf_dic {ks vs : List D} : dicOf (.dic ks vs) s = some (ks, vs) := rfl
def wDg (o : Option (List D × List D)) (y : D) (s : S) (Q : VQ) : Prop := match o, keyT y with
  | some (ks, vs), some q => (match dget q ks vs with
    | some d => Q d s
    | none => Q .non s)
  | _, _ => False
theorem d_dget {x y : D} : (evDget x y s).W Q = wDg (dicOf x s) y s Q := by
  unfold evDget wDg
  cases dicOf x s with
  | none => rfl
  | some p =>
    obtain ⟨ks, vs⟩ := p
    cases keyT y with
    | none => rfl
    | some q =>
      show Res.W (match dget q ks vs with | some d => .ok d s | none => .ok .non s) Q = match dget q ks vs with | some d => Q d s | none => Q .non s
      cases dget q ks vs <;> rfl
theorem w_dget {κ : Type} [DecidableEq κ] [En κ] [Ky κ] {p : κ} {l : List (κ × Int)} : wDg (some (kD l, vD D.int l)) (enc p) s Q = Q (eO (lk p l)) s := by
  unfold wDg
  rw [Ky.keyT]
  show (match dget (Ky.key p) (kD l) (vD D.int l) with | some d => Q d s | none => Q .non s) = _
  rw [dget_ky]
  cases lk p l <;> rfl
theorem aug_ref {i : Int} {b : Bool} {ds : List D} {v : Int} (hg : s.get n = some (.lst b ds)) (h0 : 0 ≤ i) (h1 : i < 9223372036854775808) (hv : ds[i.toNat]? = some (.int v)) : augGet (.ref n) (.int i) s = some v := by
  show (if 0 ≤ i ∧ i < 2 ^ 63 then (match s.items (.ref n) with | some ds => (match ds[i.toNat]? with | some (.int n) => some n | _ => none) | none => none) else none) = _
  rw [if_pos ⟨h0, h1⟩, items_ref, hg]
  show (match ds[i.toNat]? with | some (.int n) => some n | _ => none) = _
  rw [hv]
theorem set_lst {i : Int} {v : D} {ds : List D} {P : S → S → Prop} (h0 : 0 ≤ i) (h1 : i < ds.length) : wSetD (some (.lst false ds)) n (.int i) v s P = P (s.put n (.lst false (ds.set i.toNat v))) s := by
  show wSome ((L2.ixN ds.length i).map fun j => s.put n (.lst false (ds.set j v))) s P = _
  have e : L2.ixN ds.length i = some i.toNat := by
    unfold L2.ixN
    rw [if_pos h0, if_pos (by omega)]
  rw [e]
  rfl
theorem isNon_eO {o : Option Int} : isNon (eO o) = o.isNone := by cases o <;> rfl
end
/-- more of the kind -/
theorem wN :
    (∀ {s Q} {n : Nat}, (evBi .len [.ref n] s).W Q = wLenR (itemsC (s.get n)) s Q) ∧ (∀ {s Q} {ds : List D}, wLenR (some ds) s Q = Q (.int ds.length) s) ∧
    (∀ {s} {n : Nat}, dicOf (.ref n) s = dicC (s.get n)) ∧ (∀ {b : Bool} {ks vs : List D}, dicC (some (.dic b ks vs)) = some (ks, vs)) ∧ (∀ {s} {ks vs : List D}, dicOf (.dic ks vs) s = some (ks, vs)) ∧
    (∀ {s Q} {x y : D}, (evDget x y s).W Q = wDg (dicOf x s) y s Q) ∧ (∀ {κ : Type} [DecidableEq κ] [En κ] [Ky κ] {s Q} {p : κ} {l : List (κ × Int)}, wDg (some (kD l, vD D.int l)) (enc p) s Q = Q (eO (lk p l)) s) ∧
    (∀ {o : Option Int}, isNon (eO o) = o.isNone) :=
  ⟨v_lenr, w_lenr, dicOf_ref, dicC_dic, dicOf_dic, d_dget, w_dget, isNon_eO⟩
/-! ### many cells, one after another -/
def addN (s : S) (c : Cl) : Nat → S
  | 0 => s
  | k + 1 => addN (s.add c) c k
def refsN (a : Nat) : Nat → List D
  | 0 => []
  | k + 1 => .ref a :: refsN (a + 1) k
theorem addN_nx (c : Cl) : ∀ (k : Nat) (s : S), (addN s c k).nx = s.nx + k
  | 0, s => rfl
  | k + 1, s => by
    rw [addN, addN_nx c k]
    simp
    omega
theorem addN_over {s0 : S} (c : Cl) : ∀ (k : Nat) (s : S), Over s0 s → Over s0 (addN s c k)
  | 0, s, h => h
  | k + 1, s, h => addN_over c k _ h.add
theorem addN_old {c : Cl} {m : Nat} : ∀ (k : Nat) (s : S), m < s.nx → (addN s c k).get m = s.get m
  | 0, s, h => rfl
  | k + 1, s, h => by
    rw [addN, addN_old k _ (by simp; omega), get_add_ne (by omega)]
theorem addN_get {c : Cl} : ∀ (k : Nat) (s : S) (i : Nat), i < k → (addN s c k).get (s.nx + i) = some c
  | k + 1, s, i, h => by
    rw [addN]
    cases i with
    | zero =>
      rw [addN_old k _ (by simp)]
      exact get_add
    | succ i =>
      have := addN_get (c := c) k (s.add c) i (by omega)
      rw [nx_add] at this
      rw [← this]
      congr 1
      omega
theorem refsN_get : ∀ (k a i : Nat), i < k → (refsN a k)[i]? = some (.ref (a + i))
  | k + 1, a, 0, h => rfl
  | k + 1, a, i + 1, h => by
    rw [refsN, List.getElem?_cons_succ, refsN_get k (a + 1) i (by omega)]
    congr 2
    omega
theorem W_cells {α : Type} {f : D → S → Res (Option D)} {e : α → D} {c : Cl} {P : List D → S → Prop} : ∀ (xs : List α) (s : S), (∀ x ∈ xs, ∀ t, (f (e x) t).W fun o u => o = some (.ref t.nx) ∧ u = t.add c) → (∀ ds u, ds = refsN s.nx xs.length → u = addN s c xs.length → P ds u) → (loopC f (xs.map e) s).W P := by
  have key : ∀ (xs : List α) (s : S), (∀ x ∈ xs, ∀ t, (f (e x) t).W fun o u => o = some (.ref t.nx) ∧ u = t.add c) → loopC f (xs.map e) s = .ok (refsN s.nx xs.length) (addN s c xs.length) := by
    intro xs
    induction xs with
    | nil => intro s _; rfl
    | cons x xs ih =>
      intro s h
      obtain ⟨o, u, h1, rfl, rfl⟩ := (h x List.mem_cons_self s).ex
      rw [List.map_cons, loopC, h1]
      simp only
      rw [ih (s.add c) fun y hy => h y (List.mem_cons_of_mem _ hy)]
      rfl
  intro xs s h q
  exact Res.W.of (key xs s h) (q _ _ rfl rfl)
end Mi
set_option Elab.async false
set_option linter.all false
set_option maxRecDepth 100000
set_option maxHeartbeats 400000
namespace Mi.L76
open PySem PySem.W
open Mi.En (enc)
/-! ### ranks: places are taken out one by one -/
/-- who leads to i -/
def hdP (P : List (Int × Int)) (i : Int) : List Int := (P.filter fun q => decide (q.2 = i)).map (·.1)
/-- (place, what follows it), all of them -/
def pairsN (l : List (Int × List (Int × Int))) : List (Int × Int) := l.flatMap fun q => q.2.map fun r => (q.1, r.2)
theorem hdP_len (P : List (Int × Int)) (i : Int) : (hdP P i).length ≤ P.length := by
  unfold hdP
  rw [List.length_map]
  exact List.length_filter_le _ _
theorem hdP_snoc {P : List (Int × Int)} {a b i : Int} : hdP (P ++ [(a, b)]) i = if b = i then hdP P i ++ [a] else hdP P i := by
  unfold hdP
  rw [List.filter_append, List.map_append]
  by_cases h : b = i
  · rw [if_pos h, List.filter_cons_of_pos (by simpa using h)]
    rfl
  · rw [if_neg h, List.filter_cons_of_neg (by simpa using h)]
    simp
theorem pairs_len : ∀ {nx : Nx} {k : Nat}, (∀ row ∈ nx, row.length ≤ 12) → (pairsN (enumL k nx)).length ≤ nx.length * 12
  | [], k, _ => by simp [pairsN, enumL]
  | row :: nx, k, h => by
    have ih := pairs_len (k := k + 1) fun r hr => h r (List.mem_cons_of_mem _ hr)
    have h1 := h row List.mem_cons_self
    unfold pairsN at ih ⊢
    rw [enumL, List.flatMap_cons, List.length_append, List.length_map, List.length_cons]
    show row.length + _ ≤ _
    omega
theorem count_hd {i h : Int} : ∀ {nx : Nx} {k : Nat}, (∀ (n : Nat) (row : List (Int × Int)), nx[n]? = some row → i = (k + n : Nat) → (hdP (pairsN (enumL k nx)) h).count i = (row.filter fun q => decide (q.2 = h)).length) ∧ (i < (k : Int) → (hdP (pairsN (enumL k nx)) h).count i = 0)
  | [], k => ⟨fun n row hr => by simp at hr, fun _ => by simp [hdP, pairsN, enumL]⟩
  | row :: nx, k => by
    obtain ⟨ih1, ih2⟩ := count_hd (i := i) (h := h) (nx := nx) (k := k + 1)
    have e : hdP (pairsN (enumL k (row :: nx))) h = ((row.filter fun q => decide (q.2 = h)).map fun _ => (k : Int)) ++ hdP (pairsN (enumL (k + 1) nx)) h := by
      unfold hdP pairsN
      rw [enumL, List.flatMap_cons, List.filter_append, List.map_append, List.filter_map, List.map_map]
      rfl
    have c1 : ((row.filter fun q => decide (q.2 = h)).map fun _ => (k : Int)).count (k : Int) = (row.filter fun q => decide (q.2 = h)).length := by
      rw [List.count_eq_length.mpr]
      · rw [List.length_map]
      · intro b hb
        obtain ⟨_, _, rfl⟩ := List.mem_map.mp hb
        rfl
    have c2 : i ≠ (k : Int) → ((row.filter fun q => decide (q.2 = h)).map fun _ => (k : Int)).count i = 0 := by
      intro hne
      rw [List.count_eq_zero]
      intro hm
      obtain ⟨_, _, z⟩ := List.mem_map.mp hm
      exact hne z.symm
    rw [e]
    refine ⟨fun n r hr hi => ?_, fun hi => ?_⟩
    · rw [List.count_append]
      cases n with
      | zero =>
        rw [List.getElem?_cons_zero] at hr
        cases hr
        have hik : i = (k : Int) := by omega
        subst hik
        rw [c1, ih2 (by omega)]
        rfl
      | succ n =>
        rw [List.getElem?_cons_succ] at hr
        rw [c2 (by omega), ih1 n r hr (by omega)]
        omega
    · rw [List.count_append, c2 (by omega), ih2 (by omega)]
theorem hd_mem {nx : Nx} {h a : Int} (hm : a ∈ hdP (pairsN (enumL 0 nx)) h) : 0 ≤ a ∧ a < nx.length := by
  unfold hdP pairsN at hm
  obtain ⟨q, hq, rfl⟩ := List.mem_map.mp hm
  obtain ⟨hq, _⟩ := List.mem_filter.mp hq
  obtain ⟨⟨b, row⟩, hb, hq⟩ := List.mem_flatMap.mp hq
  obtain ⟨r, _, rfl⟩ := List.mem_map.mp hq
  obtain ⟨n, h1, h2⟩ := mem_enum0 hb
  have := (List.getElem?_eq_some_iff.mp h2).1
  show 0 ≤ b ∧ b < _
  omega
theorem line_len {nx : Nx} {line left : List Int} {turn : Nat} {found : List (Option Int)} (k : KI nx line turn left found) : line.length ≤ nx.length := by
  have := nodup_len (ys := up 0 nx.length) k.nd fun i hi => mem_up.mpr (by have := k.rng i hi; omega)
  simpa using this
section
variable {wf n : Nat} {s : S}
/-- the cells while they are filled -/
structure PH (s t : S) (nx : Nx) (P : List (Int × Int)) : Prop where
  ov : Over s t
  nx_ : t.nx = s.nx + 1 + nx.length
  left : t.get s.nx = some (.lst false ((nx.map fun row => ((row.length : Nat) : Int)).map enc))
  hd : ∀ i, i < nx.length → t.get (s.nx + 1 + i) = some (.lst false ((hdP P (i : Int)).map enc))
/-- the cells while places are taken out -/
structure PK (s t : S) (nx : Nx) (left line : List Int) (found : List (Option Int)) : Prop where
  ov : Over s t
  left : t.get s.nx = some (.lst false (left.map enc))
  hd : ∀ i, i < nx.length → ∃ b, t.get (s.nx + 1 + i) = some (.lst b ((hdP (pairsN (enumL 0 nx)) (i : Int)).map enc))
  found : t.get (s.nx + 1 + nx.length) = some (.lst false (found.map eO))
  line : t.get (s.nx + 1 + nx.length + 1) = some (.lst false (line.map enc))
theorem eO_low {m : Nat} : ∀ {xs : List (Option Int)}, belows m (xs.map eO) = true
  | [] => rfl
  | none :: xs => eO_low (xs := xs)
  | some _ :: xs => eO_low (xs := xs)
theorem PK.putLeft {t : S} {nx : Nx} {left left' line : List Int} {found : List (Option Int)} (W : Wf s) (k : PK s t nx left line found) : PK s (t.put s.nx (.lst false (left'.map enc))) nx left' line found := by
  refine ⟨k.ov.put W (Nat.le_refl _), get_put k.left, fun i hi => ?_, ?_, ?_⟩
  · obtain ⟨b, e⟩ := k.hd i hi
    exact ⟨b, by rw [get_put_ne (by omega)]; exact e⟩
  · rw [get_put_ne (by omega)]; exact k.found
  · rw [get_put_ne (by omega)]; exact k.line
theorem PK.putLine {t : S} {nx : Nx} {left line line' : List Int} {found : List (Option Int)} (W : Wf s) (k : PK s t nx left line found) : PK s (t.put (s.nx + 1 + nx.length + 1) (.lst false (line'.map enc))) nx left line' found := by
  refine ⟨k.ov.put W (by omega), ?_, fun i hi => ?_, ?_, get_put k.line⟩
  · rw [get_put_ne (by omega)]; exact k.left
  · obtain ⟨b, e⟩ := k.hd i hi
    exact ⟨b, by rw [get_put_ne (by omega)]; exact e⟩
  · rw [get_put_ne (by omega)]; exact k.found
theorem PK.putFound {t : S} {nx : Nx} {left line : List Int} {found found' : List (Option Int)} (W : Wf s) (k : PK s t nx left line found) : PK s (t.put (s.nx + 1 + nx.length) (.lst false (found'.map eO))) nx left line found' := by
  refine ⟨k.ov.put W (by omega), ?_, fun i hi => ?_, get_put k.found, ?_⟩
  · rw [get_put_ne (by omega)]; exact k.left
  · obtain ⟨b, e⟩ := k.hd i hi
    exact ⟨b, by rw [get_put_ne (by omega)]; exact e⟩
  · rw [get_put_ne (by omega)]; exact k.line
theorem PK.frz {t : S} {nx : Nx} {left line : List Int} {found : List (Option Int)} (W : Wf s) (k : PK s t nx left line found) {j : Nat} (hj : j < nx.length) : PK s (t.put (s.nx + 1 + j) (.lst true ((hdP (pairsN (enumL 0 nx)) (j : Int)).map enc))) nx left line found := by
  obtain ⟨b0, e0⟩ := k.hd j hj
  refine ⟨k.ov.put W (by omega), ?_, fun i hi => ?_, ?_, ?_⟩
  · rw [get_put_ne (by omega)]; exact k.left
  · by_cases e : i = j
    · subst e
      exact ⟨true, get_put e0⟩
    · obtain ⟨b, e2⟩ := k.hd i hi
      exact ⟨b, by rw [get_put_ne (by omega)]; exact e2⟩
  · rw [get_put_ne (by omega)]; exact k.found
  · rw [get_put_ne (by omega)]; exact k.line
theorem c_franks_by (W : Wf s) (hwf : 602 ≤ wf) {nx : Nx} (hn : nx.length ≤ 600) (h12 : ∀ row ∈ nx, row.length ≤ 12) (hin : InR nx) : IsRk nx (rkOf nx) ∧ callN tab wf (n + 1) 308 [enc nx] s = .ok (.ref s.nx) (s.add (.lst false ((rkOf nx).map eO))) := by
  have hpl := pairs_len (k := 0) h12
  suffices hs : ∃ R, IsRk nx R ∧ callN tab wf (n + 1) 308 [enc nx] s = .ok (.ref s.nx) (s.add (.lst false (R.map eO))) by
    obtain ⟨R, h1, h2⟩ := hs
    rw [← h1.eq]
    exact ⟨h1, h2⟩
  have go : (evSs (cc tab wf n) b_caps_ranks_by (startT 12 [enc nx]) s).W noT (fun x t => ∃ R, IsRk nx R ∧ ∃ k, x = .ref k ∧ s.nx ≤ k ∧ t.get k = some (.lst false (R.map eO)) ∧ Over s t) noT noT := by
    simp only [↓wS, ↓wE, ↓wC, ↓wI, wV, wX, wM, wY, wB, wK, wT, b_caps_ranks_by, enc_list]
    refine ⟨by omega, W_map (fun row : List (Int × Int) => enc ((row.length : Nat) : Int)) (fun row hr => ?_) ?_⟩
    · simp only [↓wS, ↓wE, ↓wC, ↓wI, wV, wX, wM, wY, wB, wK, enc_list, List.length_map]
    simp only [↓wS, ↓wE, ↓wC, ↓wI, wV, wX, wM, wY, wB, wK, enc_list]
    refine ⟨by omega, W_cells (c := .lst false []) nx _ (fun row hr t => ?_) (fun ds u e1 e2 => ?_)⟩
    · simp only [↓wS, ↓wE, ↓wC, ↓wI, wV, wX, wM, wY, wB, wK]
    have hu : PH s u nx [] := by
      rw [e2]
      refine ⟨addN_over _ _ _ (Over.add (Over.refl s)), by rw [addN_nx]; rfl, ?_, fun i hi => ?_⟩
      · rw [addN_old _ _ (by simp)]
        rw [get_add]
        simp [Function.comp_def, e_int]
      · have := addN_get (c := .lst false []) nx.length (s.add (.lst false (nx.map fun row => D.int ((row.length : Nat) : Int)))) i hi
        rw [nx_add] at this
        rw [this]
        simp [hdP]
    have e1 : ds = refsN (s.nx + 1) nx.length := by rw [e1]; rfl
    clear e2
    subst e1
    simp only [↓wS, ↓wE, ↓wC, ↓wI, wV, wX, wM, wY, wB, wK, enumD_map]
    refine W_for (fun pre τ t => ∃ o3 o4 o5 o6, τ = [some (.lst (nx.map enc)), some (.ref s.nx), some (.lst (refsN (s.nx + 1) nx.length)), o3, o4, o5, o6, none, none, none, none, none] ∧ PH s t nx (pairsN pre)) ⟨none, none, none, none, rfl, hu⟩ ?_ ?_
    · rintro pre ⟨at_, row⟩ post τ t hx ⟨o3, o4, o5, o6, rfl, ht⟩
      have hmem : (at_, row) ∈ enumL 0 nx := by rw [hx]; simp
      obtain ⟨k0, hk0, hk1⟩ := mem_enum0 hmem
      have hrow : row ∈ nx := List.mem_of_getElem? hk1
      simp only [↓wS, ↓wE, ↓wC, ↓wI, wV, wX, wM, wY, wB, wK, enc_list]
      refine W_for (fun pre2 τ t => ∃ o5 o6, τ = [some (.lst (nx.map enc)), some (.ref s.nx), some (.lst (refsN (s.nx + 1) nx.length)), some (.int at_), some (.lst (row.map enc)), o5, o6, none, none, none, none, none] ∧ PH s t nx (pairsN pre ++ pre2.map fun r => (at_, r.2))) ⟨o5, o6, rfl, by simpa using ht⟩ ?_ ?_
      · rintro pre2 ⟨st, th⟩ post2 τ t hx2 ⟨o5, o6, rfl, ht⟩
        obtain ⟨th0, th1⟩ := hin row hrow (st, th) (by rw [hx2]; simp)
        have hlt : th.toNat < nx.length := by omega
        have eth : ((th.toNat : Nat) : Int) = th := by omega
        have hg := ht.hd th.toNat hlt
        have href := refsN_get nx.length (s.nx + 1) th.toNat hlt
        have hlen : (hdP (pairsN pre ++ pre2.map fun r => (at_, r.2)) th).length < 16777216 := by
          have h1 := hdP_len (pairsN pre ++ pre2.map fun r => (at_, r.2)) th
          have h2 : (pairsN pre ++ pre2.map fun r => (at_, r.2)).length ≤ (pairsN (enumL 0 nx)).length := by
            rw [hx, hx2]
            simp [pairsN] <;> omega
          omega
        rw [eth] at hg
        simp only [↓wS, ↓wE, ↓wC, ↓wI, wV, wX, wM, wY, wB, wK, enc_pair, at_of th0, href, hg]
        refine ⟨by simpa using hlen, some (.int st), some (.int th), rfl, ?_⟩
        refine ⟨ht.ov.put W (by omega), ht.nx_, by rw [get_put_ne (by omega)]; exact ht.left, fun i hi => ?_⟩
        rw [List.map_append, ← List.append_assoc, List.map_cons, List.map_nil, hdP_snoc]
        by_cases e : th.toNat = i
        · subst e
          rw [get_put hg, eth, if_pos rfl]
          simp [e_int]
        · rw [get_put_ne (by omega), ht.hd i hi, if_neg (by show ¬ th = (i : Int); omega)]
      · rintro τ t ⟨o5, o6, rfl, ht⟩
        refine ⟨_, _, _, _, rfl, ?_⟩
        simpa [pairsN] using ht
    · rintro τ t ⟨o3, o4, o5, o6, rfl, ht⟩
      have hrep : (List.replicate ((nx.length : Nat) : Int).toNat [D.non]).flatten = (List.replicate nx.length none).map eO := by
        rw [Int.toNat_natCast, List.map_replicate]
        generalize nx.length = k
        induction k with
        | zero => rfl
        | succ k ih => rw [List.replicate_succ, List.flatten_cons, ih]; rfl
      simp only [↓wS, ↓wE, ↓wC, ↓wI, wV, wX, wM, wY, wB, wK, b_mulC, List.length_map, hrep]
      refine ⟨⟨⟨by omega, by omega⟩, ?_⟩, ?_⟩
      · rw [PySem.sizeLine_eq]
        simp
        omega
      have hgl : (t.add (.lst false ((List.replicate nx.length none).map eO))).get s.nx = some (.lst false ((nx.map fun row => ((row.length : Nat) : Int)).map enc)) := by
        rw [get_add_ne (by rw [ht.nx_]; omega)]
        exact ht.left
      simp only [↓wS, ↓wE, ↓wC, ↓wI, wV, wX, wM, wY, wB, wK, hgl, enumD_map]
      refine ⟨by rw [enumL_len, List.length_map]; omega, W_filter (fun q : Int × Int => decide (q.2 = 0)) (fun q : Int × Int => enc q.1) (fun q hq => ?_) ?_⟩
      · simp only [↓wS, ↓wE, ↓wC, ↓wI, wV, wX, wM, wY, wB, wK]
        exact brT_if rfl fun _ => by simp only [↓wS, ↓wE, ↓wC, ↓wI, wV, wX, wM, wY, wB, wK]
      simp only [↓wS, ↓wE, ↓wC, ↓wI, wV, wX, wM, wY, wB, wK, ht.nx_]
      have K0 := KI.start nx
      have P0 : PK s ((t.add (.lst false ((List.replicate nx.length none).map eO))).add (.lst false ((((enumL 0 (nx.map fun row => ((row.length : Nat) : Int))).filter fun q => decide (q.2 = 0)).map (·.1)).map enc))) nx (nx.map fun row => ((row.length : Nat) : Int)) (((enumL 0 (nx.map fun row => ((row.length : Nat) : Int))).filter fun q => decide (q.2 = 0)).map (·.1)) (List.replicate nx.length none) := by
        have e1 : (t.add (.lst false ((List.replicate nx.length none).map eO))).nx = s.nx + 1 + nx.length + 1 := by rw [nx_add, ht.nx_]
        refine ⟨Over.add (Over.add ht.ov), ?_, fun i hi => ⟨false, ?_⟩, ?_, ?_⟩
        · rw [get_add_ne (by rw [e1]; omega)]
          exact hgl
        · rw [get_add_ne (by rw [e1]; omega), get_add_ne (by rw [ht.nx_]; omega)]
          exact ht.hd i hi
        · rw [get_add_ne (by rw [e1]; omega), ← ht.nx_]
          exact get_add
        · rw [← e1]
          exact get_add
      have emap : ((enumL 0 (nx.map fun row => ((row.length : Nat) : Int))).filter fun q => decide (q.2 = 0)).map (fun q => (D.int q.1 : D)) = (((enumL 0 (nx.map fun row => ((row.length : Nat) : Int))).filter fun q => decide (q.2 = 0)).map (·.1)).map enc := by rw [List.map_map]; rfl
      rw [emap]
      refine W_whl (fun m τ t => ∃ (line left : List Int) (turn : Nat) (found : List (Option Int)) (o3 o4 o5 o6 o10 : Option D), m = nx.length - turn ∧ KI nx line turn left found ∧ PK s t nx left line found ∧ τ = [some (.lst (nx.map enc)), some (.ref s.nx), some (.lst (refsN (s.nx + 1) nx.length)), o3, o4, o5, o6, some (.ref (s.nx + 1 + nx.length)), some (.ref (s.nx + 1 + nx.length + 1)), some (.int turn), o10, none]) nx.length (show _ < wf by omega) ⟨_, _, 0, _, o3, o4, o5, o6, none, by simp, K0, P0, rfl⟩ ?_
      rintro m τ t2 ⟨line, left, turn, found, o3, o4, o5, o6, o10, rfl, K, P, rfl⟩
      have hll := line_len K
      simp only [↓wS, ↓wE, ↓wC, ↓wI, wV, wX, wM, wY, wB, wK, P.line, wN, List.length_map]
      refine ⟨decide (turn < line.length), by simp, ?_⟩
      by_cases hlt : turn < line.length
      · rw [if_pos (by simpa using hlt)]
        have hline : line[turn]? = some (line[turn]'hlt) := List.getElem?_eq_getElem hlt
        generalize hh : line[turn]'hlt = here at hline
        obtain ⟨h0, h1⟩ := K.here_rng hline
        have hnl : here.toNat < nx.length := by omega
        have ehere : ((here.toNat : Nat) : Int) = here := by omega
        have hrow : nx[here.toNat]? = some (nx[here.toNat]'hnl) := List.getElem?_eq_getElem hnl
        generalize hrw : nx[here.toNat]'hnl = row at hrow
        have hdone := K.here_done hline hrow
        obtain ⟨vs, hvs⟩ := K.vals (D := row) fun q hq => ⟨hin row (List.mem_of_getElem? hrow) q hq, hdone q hq⟩
        have hr12 := h12 row (List.mem_of_getElem? hrow)
        simp only [↓wS, ↓wE, ↓wC, ↓wI, wV, wX, wM, wY, wB, wK, P.line, at_nat, List.getElem?_map, hline, Option.map_some, e_int, at_of h0, hrow, enc_list]
        have hvlen : vs.length = row.length := by have := congrArg List.length hvs; simpa using this.symm
        refine ⟨by omega, W_map (fun q : Int × Int => D.int (((found[q.2.toNat]?).getD none).getD 0 + 1)) (fun q hq => ?_) ?_⟩
        · obtain ⟨q0, q1⟩ := hin row (List.mem_of_getElem? hrow) q hq
          obtain ⟨v, _, ev⟩ := mem_of_maps hvs q hq
          simp only [↓wS, ↓wE, ↓wC, ↓wI, wV, wX, wM, wY, wB, wK, enc_pair, P.found, at_of q0, List.getElem?_map, ev, Option.map_some, eO]
          exact ⟨rfl, rfl⟩
        have emx : row.map (fun q : Int × Int => D.int (((found[q.2.toNat]?).getD none).getD 0 + 1)) = (vs.map (· + 1)).map enc := by
          have e2 : row.map (fun q : Int × Int => ((found[q.2.toNat]?).getD none).getD 0) = vs := by
            have := congrArg (List.map fun o : Option (Option Int) => (o.getD none).getD 0) hvs
            simpa [Function.comp_def] using this
          rw [← e2, List.map_map, List.map_map]
          rfl
        have ecat : ([D.int 0] ++ row.map (fun q : Int × Int => D.int (((found[q.2.toNat]?).getD none).getD 0 + 1))) = ((0 : Int) :: vs.map (· + 1)).map enc := by rw [emx]; rfl
        have hfl := K.fl
        simp only [↓wS, ↓wE, ↓wC, ↓wI, wV, wX, wM, wY, wB, wK, ecat, v_maxI, P.found, set_lst h0 (show here < ((found.map eO).length : Int) by rw [List.length_map, hfl]; omega)]
        refine ⟨by simp; omega, ?_⟩
        have eset : (found.map eO).set here.toNat (.int ((vs.map (· + 1)).foldl max 0)) = (found.set here.toNat (some (maxF vs))).map eO := by
          rw [List.map_set]; rfl
        rw [eset]
        have P1 := P.putFound W (found' := found.set here.toNat (some (maxF vs)))
        generalize t2.put (s.nx + 1 + nx.length) (.lst false ((found.set here.toNat (some (maxF vs))).map eO)) = t3 at P1
        obtain ⟨bh, hgh⟩ := P1.hd here.toNat hnl
        rw [ehere] at hgh
        simp only [↓wS, ↓wE, ↓wC, ↓wI, wV, wX, wM, wY, wB, wK, at_of h0, refsN_get nx.length (s.nx + 1) here.toNat hnl, hgh]
        have P2 := P1.frz W hnl
        rw [ehere] at P2
        generalize t3.put (s.nx + 1 + here.toNat) (.lst true ((hdP (pairsN (enumL 0 nx)) here).map enc)) = t4 at P2
        have J0 := K.begin_turn hline (hl := hdP (pairsN (enumL 0 nx)) here) fun i r hr => (count_hd (i := (i : Int)) (h := here) (nx := nx) (k := 0)).1 i r hr (by omega)
        have hmemh : ∀ a ∈ hdP (pairsN (enumL 0 nx)) here, 0 ≤ a ∧ a < nx.length := fun a ha => hd_mem ha
        refine W_for (fun pre τ t => ∃ (line' left' : List Int) (o3 : Option D), (∀ post, hdP (pairsN (enumL 0 nx)) here = pre ++ post → KJ nx (line.take turn ++ [here]) post line' left') ∧ PK s t nx left' line' (found.set here.toNat (some (maxF vs))) ∧ τ = [some (.lst (nx.map enc)), some (.ref s.nx), some (.lst (refsN (s.nx + 1) nx.length)), o3, o4, o5, o6, some (.ref (s.nx + 1 + nx.length)), some (.ref (s.nx + 1 + nx.length + 1)), some (.int ((turn : Int) + 1)), some (.int here), none]) ⟨line, left, o3, fun post hp => by rw [List.nil_append] at hp; rw [← hp]; exact J0, P2, rfl⟩ ?_ ?_
        · rintro pre a post τ t5 hx ⟨line', left', o3, hJ, P5, rfl⟩
          have J := hJ (a :: post) hx
          obtain ⟨a0, a1⟩ := hmemh a (by rw [hx]; simp)
          obtain ⟨v, hv, hv1⟩ := J.at_ a0 a1
          have hl5 := J.ll
          have hvm : (left'.map (enc : Int → D))[a.toNat]? = some (.int v) := by rw [List.getElem?_map, hv]; rfl
          have hag := aug_ref (i := a) P5.left a0 (by omega) hvm
          have eset2 : (left'.map enc).set a.toNat (.int (v - 1)) = (left'.set a.toNat (v - 1)).map (enc : Int → D) := by rw [List.map_set]; rfl
          simp only [↓wS, ↓wE, ↓wC, ↓wI, wV, wX, wM, wY, wB, wK, hag, P5.left, set_lst a0 (show a < ((left'.map (enc : Int → D)).length : Int) by rw [List.length_map, hl5]; omega), eset2]
          have P6 := P5.putLeft W (left' := left'.set a.toNat (v - 1))
          generalize t5.put s.nx (.lst false ((left'.set a.toNat (v - 1)).map enc)) = t6 at P6
          have J2 := J.step a0 a1 hv
          have hg6 : (left'.set a.toNat (v - 1))[a.toNat]? = some (v - 1) := List.getElem?_set_self (by omega)
          have hpost : ∀ post', hdP (pairsN (enumL 0 nx)) here = pre ++ [a] ++ post' → post' = post := fun post' hp => by
            rw [hx, List.append_assoc] at hp
            have := List.append_cancel_left hp
            simpa using this.symm
          simp only [↓wS, ↓wE, ↓wC, ↓wI, wV, wX, wM, wY, wB, wK, P6.left, at_of a0, List.getElem?_map, hg6, Option.map_some, e_int]
          by_cases hz : v - 1 = 0
          · have hl6 : line'.length < 16777216 := by
              have := nodup_len (ys := up 0 nx.length) J.nd fun i hi => mem_up.mpr (by have := J.rng i hi; omega)
              simp at this
              omega
            rw [if_pos hz] at J2
            simp only [↓wS, ↓wE, ↓wC, ↓wI, wV, wX, wM, wY, wB, wK, hz, decide_true, P6.line]
            refine ⟨by simpa using hl6, line' ++ [a], left'.set a.toNat (v - 1), some (.int a), fun post' hp => by rw [hpost post' hp]; exact J2, ?_, rfl⟩
            have := P6.putLine W (line' := line' ++ [a])
            simpa [e_int] using this
          · rw [if_neg hz] at J2
            simp only [↓wS, ↓wE, ↓wC, ↓wI, wV, wX, wM, wY, wB, wK, hz, decide_false]
            exact ⟨line', left'.set a.toNat (v - 1), some (.int a), fun post' hp => by rw [hpost post' hp]; exact J2, P6, rfl⟩
        · rintro τ t5 ⟨line', left', o3, hJ, P5, rfl⟩
          have J := hJ [] (by simp)
          have K' := K.end_turn hline hrow hin hvs J
          have := line_len K'
          have := K'.tl
          exact ⟨nx.length - (turn + 1), by omega, line', left', turn + 1, _, o3, o4, o5, o6, some (.int here), rfl, K', P5, rfl⟩
      · rw [if_neg (by simpa using hlt)]
        have hR := K.done hin (by omega)
        simp only [↓wS, ↓wE, ↓wC, ↓wI, wV, wX, wM, wY, wB, wK, P.left]
        have P1 : (t2.put s.nx (.lst true (left.map enc))).get (s.nx + 1 + nx.length + 1) = some (.lst false (line.map enc)) := by
          rw [get_put_ne (by omega)]; exact P.line
        simp only [↓wS, ↓wE, ↓wC, ↓wI, wV, wX, wM, wY, wB, wK, P1]
        refine ⟨found, hR, _, rfl, by omega, ?_, ?_⟩
        · rw [get_put_ne (by omega), get_put_ne (by omega)]
          exact P.found
        · exact (P.ov.put W (Nat.le_refl _)).put W (by omega)
  have e := call_eq (tab := tab) (wf := wf) (n := n) (s := s) t_caps_ranks_by (ds := [enc nx]) rfl
  cases q : evSs (cc tab wf n) b_caps_ranks_by (startT 12 [enc nx]) s with
  | rt x t =>
    rw [q] at go
    obtain ⟨R, hR, k, rfl, h1, h2, h3⟩ := go
    refine ⟨R, hR, ?_⟩
    rw [e, q]
    simp only [endOf, clean_cell W h3 h1 h2 (show belowC s.nx (.lst false (R.map eO)) = true from eO_low)]
  | nx => rw [q] at go; exact go.elim
  | ct => rw [q] at go; exact go.elim
  | bk => rw [q] at go; exact go.elim
  | exc => rw [q] at go; exact go.elim
  | stuck => rw [q] at go; exact go.elim
end
end Mi.L76
set_option Elab.async false
set_option linter.all false
set_option maxRecDepth 100000
set_option maxHeartbeats 400000
namespace Mi.L76
open PySem PySem.W
open Mi.En (enc)
/-! ### what lasts -/
noncomputable def rkF (f : Fm) (caps : List Int) : List (Option Int) := rkOf (nxF f caps)
/-- a place's rank -/
noncomputable def rkP (f : Fm) (caps : List Int) (p : Pl) : Option Int := ((rkF f caps)[pos0 p (placesF f caps)]?).getD none
noncomputable def lastF (f : Fm) (caps : List Int) : List Pl := (placesF f caps).filter fun p => (rkP f caps p).isNone
/-- what follows a place -/
def sucF (f : Fm) (caps : List Int) (p : Pl) : List Pl := (letF f p).map (ledI f caps p)
theorem zip_fun {α β : Type} [DecidableEq α] (R : List β) (d : β) : ∀ (xs : List α), xs.length = R.length → xs.Nodup → xs.zip R = xs.map fun x => (x, (R[pos0 x xs]?).getD d) := by
  intro xs hl hn
  apply List.ext_getElem?
  intro i
  rw [List.getElem?_map]
  by_cases h : i < xs.length
  · have hR : i < R.length := by omega
    have hz : (xs.zip R)[i]? = some (xs[i], R[i]) := List.getElem?_zip_eq_some.mpr ⟨List.getElem?_eq_getElem h, List.getElem?_eq_getElem hR⟩
    rw [hz, List.getElem?_eq_getElem h]
    have hp : pos0 xs[i] xs = i := by
      have h1 := pos0_first (a := xs[i]) (List.getElem?_eq_getElem h)
      have h2 := pos0_at (List.getElem_mem h)
      obtain ⟨h3, h4⟩ := List.getElem?_eq_some_iff.mp h2
      exact (List.getElem_inj hn).mp h4
    show some (xs[i], R[i]) = some (xs[i], (R[pos0 xs[i] xs]?).getD d)
    rw [hp, List.getElem?_eq_getElem hR]
    rfl
  · rw [List.getElem?_eq_none (by rw [List.length_zip]; omega), List.getElem?_eq_none (by omega)]
    rfl
theorem map_pos {α β : Type} [DecidableEq α] (F : α → β) {xs : List α} {a : α} (h : a ∈ xs) : (xs.map F)[pos0 a xs]? = some (F a) := by
  rw [List.getElem?_map, pos0_at h]
  rfl
theorem rkF_len {f : Fm} {caps : List Int} (k : IsRk (nxF f caps) (rkF f caps)) : (rkF f caps).length = (placesF f caps).length := by rw [k.len, nx_len]
theorem rkF_map {f : Fm} {caps : List Int} (k : IsRk (nxF f caps) (rkF f caps)) : rkF f caps = (placesF f caps).map (rkP f caps) := by
  have h := zip_fun (rkF f caps) none (placesF f caps) (rkF_len k).symm (places_nodup _ _)
  have h2 := congrArg (List.map (·.2)) h
  rw [List.map_snd_zip (by rw [rkF_len k]; exact Nat.le_refl _), List.map_map] at h2
  exact h2
theorem rkP_at {f : Fm} {caps : List Int} (k : IsRk (nxF f caps) (rkF f caps)) {p : Pl} (hp : p ∈ placesF f caps) : (rkF f caps)[pos0 p (placesF f caps)]? = some (rkP f caps p) := by
  rw [rkF_map k, map_pos _ hp]
theorem row_map {f : Fm} {caps : List Int} {p : Pl} {β : Type} (R : List β) : (rowF f caps p).map (fun q => R[q.2.toNat]?) = (sucF f caps p).map fun q => R[pos0 q (placesF f caps)]? := by
  unfold rowF sucF
  rw [List.map_map, List.map_map]
  apply List.map_congr_left
  intro i _
  show R[(((pos0 _ _ : Nat) : Int)).toNat]? = _
  rw [Int.toNat_natCast]
  rfl
theorem suc_in {f : Fm} (h : f.Ok) {caps : List Int} (hc : FCap f caps) {p : Pl} (hp : p ∈ placesF f caps) {q : Pl} (hq : q ∈ sucF f caps p) : q ∈ placesF f caps := by
  obtain ⟨i, hi, rfl⟩ := List.mem_map.mp hq
  exact led_mem h hc hp hi
/-- a place with a rank -/
theorem rk_some {f : Fm} (h : f.Ok) {caps : List Int} (hc : FCap f caps) (k : IsRk (nxF f caps) (rkF f caps)) {p : Pl} (hp : p ∈ placesF f caps) {r : Int} (hr : rkP f caps p = some r) : ∃ vs : List Int, (sucF f caps p).map (rkP f caps) = vs.map some ∧ r = maxF vs := by
  have h1 := rkP_at k hp
  rw [hr] at h1
  have h2 : (nxF f caps)[pos0 p (placesF f caps)]? = some (rowF f caps p) := map_pos _ hp
  obtain ⟨vs, e1, e2⟩ := k.som _ _ _ h2 h1
  refine ⟨vs, ?_, e2⟩
  rw [row_map] at e1
  have e3 : (sucF f caps p).map (fun q => (rkF f caps)[pos0 q (placesF f caps)]?) = ((sucF f caps p).map (rkP f caps)).map some := by
    rw [List.map_map]
    exact List.map_congr_left fun q hq => rkP_at k (suc_in h hc hp hq)
  rw [e3, show vs.map (fun v => some (some v)) = (vs.map some).map some by rw [List.map_map]; rfl] at e1
  have := congrArg (List.map fun o : Option (Option Int) => o.getD none) e1
  simpa [List.map_map, Function.comp_def] using this
theorem rk_none {f : Fm} (h : f.Ok) {caps : List Int} (hc : FCap f caps) (k : IsRk (nxF f caps) (rkF f caps)) {p : Pl} (hp : p ∈ placesF f caps) (hr : rkP f caps p = none) : ∃ q ∈ sucF f caps p, rkP f caps q = none := by
  have h1 := rkP_at k hp
  rw [hr] at h1
  have h2 : (nxF f caps)[pos0 p (placesF f caps)]? = some (rowF f caps p) := map_pos _ hp
  obtain ⟨q, hq, e⟩ := k.non _ _ h2 h1
  obtain ⟨i, hi, rfl⟩ := List.mem_map.mp hq
  have hm := led_mem h hc hp hi
  refine ⟨ledI f caps p i, List.mem_map.mpr ⟨i, hi, rfl⟩, ?_⟩
  rw [show (((pos0 (ledI f caps p i) (placesF f caps) : Nat) : Int)).toNat = pos0 (ledI f caps p i) (placesF f caps) from Int.toNat_natCast _, rkP_at k hm] at e
  exact Option.some.inj e
theorem mem_last {f : Fm} {caps : List Int} {p : Pl} : p ∈ lastF f caps ↔ p ∈ placesF f caps ∧ rkP f caps p = none := by
  unfold lastF
  rw [List.mem_filter, Option.isNone_iff_eq_none]
/-- what lasts is the greatest set from each place of which a step leads into it -/
theorem last_step {f : Fm} (h : f.Ok) {caps : List Int} (hc : FCap f caps) (k : IsRk (nxF f caps) (rkF f caps)) {p : Pl} (hp : p ∈ lastF f caps) : ∃ q ∈ sucF f caps p, q ∈ lastF f caps := by
  obtain ⟨h1, h2⟩ := mem_last.mp hp
  obtain ⟨q, hq, e⟩ := rk_none h hc k h1 h2
  exact ⟨q, hq, mem_last.mpr ⟨suc_in h hc h1 hq, e⟩⟩
theorem last_max {f : Fm} (h : f.Ok) {caps : List Int} (hc : FCap f caps) (k : IsRk (nxF f caps) (rkF f caps)) {M : Pl → Prop} (hM : ∀ p, M p → p ∈ placesF f caps ∧ ∃ q ∈ sucF f caps p, M q) : ∀ p, M p → p ∈ lastF f caps := by
  have key : ∀ (n : Nat) (p : Pl) (r : Int), M p → rkP f caps p = some r → r < n → False := by
    intro n
    induction n with
    | zero =>
      intro p r hp hr hlt
      obtain ⟨vs, _, e⟩ := rk_some h hc k (hM p hp).1 hr
      have := maxF_nonneg vs
      omega
    | succ n ih =>
      intro p r hp hr hlt
      obtain ⟨h1, q, hq, hMq⟩ := hM p hp
      obtain ⟨vs, e1, e2⟩ := rk_some h hc k h1 hr
      have : rkP f caps q ∈ vs.map some := by rw [← e1]; exact List.mem_map.mpr ⟨q, hq, rfl⟩
      obtain ⟨v, hv, ev⟩ := List.mem_map.mp this
      have := maxF_gt hv
      exact ih q v hMq ev.symm (by omega)
  intro p hp
  refine mem_last.mpr ⟨(hM p hp).1, ?_⟩
  cases e : rkP f caps p with
  | none => rfl
  | some r =>
    obtain ⟨vs, _, e2⟩ := rk_some h hc k (hM p hp).1 e
    have := maxF_nonneg vs
    exact (key (r.toNat + 1) p r hp e (by omega)).elim
section
variable {wf n : Nat} {s : S}
theorem clean_tup {s t : S} {ds : List D} (W : Wf s) (h : Over s t) (hb : belows s.nx ds = false) : clean s.nx (.tup ds) t = (.tup ds, t) := by
  unfold clean
  simp only [h.filter W]
  have e : s.cs.all (fun p => belowC s.nx p.2) = true := List.all_eq_true.mpr fun p hp => (W p hp).2
  rw [if_pos e, if_neg (by show ¬ belows s.nx ds = true; rw [hb]; exact Bool.false_ne_true)]
theorem rk_is (W : Wf s) {f : Fm} (h : f.Ok) {caps : List Int} (hc : FCap f caps) : IsRk (nxF f caps) (rkF f caps) :=
  (c_franks_by (wf := 602) (n := 0) W (Nat.le_refl _) (by rw [nx_len]; exact fplaces_600 h hc) (fun row hr => nx_row h hr) (nx_inr h hc)).1
theorem wf0 : Wf ⟨0, []⟩ := fun p hp => by cases hp
theorem rkIs {f : Fm} (h : f.Ok) {caps : List Int} (hc : FCap f caps) : IsRk (nxF f caps) (rkF f caps) := rk_is wf0 h hc
theorem c_web_of (W : Wf s) (hwf : 602 ≤ wf) {f : Fm} (h : f.Ok) {caps : List Int} (hc : FCap f caps) : callN tab wf (n + 5) 309 [eF f, eT caps] s = .ok (.tup [.lst ((placesF f caps).map enc), enc (nxF f caps), .ref s.nx]) (s.add (.lst false ((rkF f caps).map eO))) := by
  have e := call_eq (tab := tab) (wf := wf) (n := n + 4) (s := s) t_caps_web_of (ds := [eF f, eT caps]) rfl
  have hR := (c_franks_by (wf := wf) (n := n + 3) W hwf (nx := nxF f caps) (by rw [nx_len]; exact fplaces_600 h hc) (fun row hr => nx_row h hr) (nx_inr h hc)).2
  have go : (evSs (cc tab wf (n + 4)) b_caps_web_of (startT 4 [eF f, eT caps]) s).W noT (fun x t => x = .tup [.lst ((placesF f caps).map enc), enc (nxF f caps), .ref s.nx] ∧ t = s.add (.lst false ((rkF f caps).map eO))) noT noT := by
    simp only [↓wS, ↓wE, ↓wC, ↓wI, wV, wX, wM, wY, wB, wK, wT, b_caps_web_of, c_places_within W h hc, c_nexts_of W h hc, hR, true_and]
    rfl
  rw [e]
  cases q : evSs (cc tab wf (n + 4)) b_caps_web_of (startT 4 [eF f, eT caps]) s with
  | rt x t =>
    rw [q] at go
    obtain ⟨rfl, rfl⟩ := go
    have hb : belows s.nx [.lst ((placesF f caps).map enc), enc (nxF f caps), .ref s.nx] = false := by
      simp [belows, below]
    simp only [endOf, clean_tup W (Over.add (Over.refl s)) hb]
  | nx => rw [q] at go; exact go.elim
  | ct => rw [q] at go; exact go.elim
  | bk => rw [q] at go; exact go.elim
  | exc => rw [q] at go; exact go.elim
  | stuck => rw [q] at go; exact go.elim
theorem c_ranks (W : Wf s) (hwf : 602 ≤ wf) {f : Fm} (h : f.Ok) {caps : List Int} (hc : FCap f caps) : callN tab wf (n + 8) 324 [eF f, eT caps] s = .ok (.ref s.nx) (s.add (.lst false ((rkF f caps).map eO))) := by
  refine call_Wcell t_caps_ranks rfl W eO_low ?_
  simp only [↓wS, ↓wE, ↓wC, ↓wI, wV, wX, wM, wY, wB, wK, wT, b_caps_ranks, c_fcheck_caps W h hc, c_fcheck_few W hc hc.few, c_web_of W hwf h hc]
  exact ⟨_, rfl, Nat.le_refl _, get_add, Over.add (Over.refl s)⟩
theorem c_fplaces (W : Wf s) {f : Fm} (h : f.Ok) {caps : List Int} (hc : FCap f caps) : callN tab wf (n + 8) 319 [eF f, eT caps] s = .ok (.lst ((placesF f caps).map enc)) s := by
  refine call_W t_caps_places rfl W lst_low ?_
  simp only [↓wS, ↓wE, ↓wC, ↓wI, wV, wX, wM, wY, wB, wK, wT, b_caps_places, c_fcheck_caps W h hc, c_fcheck_few W hc hc.few, c_places_within W h hc, wO]
theorem zipD_eO (xs : List Pl) (ys : List (Option Int)) : zipD (xs.map enc) (ys.map eO) = (xs.zip ys).map fun q => .tup [enc q.1, eO q.2] := by
  induction xs generalizing ys with
  | nil => rfl
  | cons x xs ih =>
    cases ys with
    | nil => rfl
    | cons y ys => rw [List.map_cons, List.map_cons, zipD, ih, List.zip_cons_cons, List.map_cons]
theorem c_lasting (W : Wf s) (hwf : 602 ≤ wf) {f : Fm} (h : f.Ok) {caps : List Int} (hc : FCap f caps) : callN tab wf (n + 8) 323 [eF f, eT caps] s = .ok (.lst ((lastF f caps).map enc)) s := by
  have hP := fplaces_600 h hc
  have k := rkIs h hc
  refine call_W t_caps_lasting rfl W lst_low ?_
  simp only [↓wS, ↓wE, ↓wC, ↓wI, wV, wX, wM, wY, wB, wK, wT, b_caps_lasting, c_fcheck_caps W h hc, c_fcheck_few W hc hc.few, c_web_of W hwf h hc, zipD_eO]
  refine ⟨by rw [List.length_zip]; omega, W_filter (fun q : Pl × Option Int => q.2.isNone) (fun q : Pl × Option Int => enc q.1) (fun q hq => ?_) ?_⟩
  · simp only [↓wS, ↓wE, ↓wC, ↓wI, wV, wX, wM, wY, wB, wK, wN]
    exact brT_if rfl fun _ => by simp only [↓wS, ↓wE, ↓wC, ↓wI, wV, wX, wM, wY, wB, wK]
  simp only [↓wS, ↓wE, ↓wC, ↓wI, wV, wX, wM, wY, wB, wK]
  refine ⟨?_, Over.add (Over.refl s)⟩
  rw [zip_fun (rkF f caps) none (placesF f caps) (rkF_len k).symm (places_nodup _ _), List.filter_map, List.map_map]
  rfl
end
end Mi.L76
set_option Elab.async false
set_option linter.all false
set_option maxRecDepth 100000
set_option maxHeartbeats 400000
namespace Mi.L76
open PySem PySem.W
open Mi.En (enc)
/-! ### the law's own steps and ranks -/
def eP : Option Pl → D
  | none => .non
  | some p => enc p
theorem isNon_eP {o : Option Pl} : isNon (eP o) = o.isNone := by cases o <;> rfl
def ledO (f : Fm) (caps : List Int) (p : Pl) (i : Int) : Option Pl := if letFB f p i = true then some (ledI f caps p i) else none
def nextL (f : Fm) (caps : List Int) (p : Pl) : List (Int × Pl) := (letF f p).map fun i => (i, ledI f caps p i)
/-- what is found so far is right -/
structure GL (f : Fm) (caps : List Int) (l : List (Pl × Int)) : Prop where
  nd : (l.map (·.1)).Nodup
  sub : ∀ p ∈ l.map (·.1), p ∈ placesF f caps
  val : ∀ q ∈ l, ∃ vs : List Int, (sucF f caps q.1).map (fun x => lk x l) = vs.map some ∧ q.2 = maxF vs
def Clo (f : Fm) (caps : List Int) (l : List (Pl × Int)) : Prop := ∀ p ∈ placesF f caps, p ∉ l.map (·.1) → ∃ q ∈ sucF f caps p, q ∉ l.map (·.1)
theorem GL.len {f : Fm} {caps : List Int} {l : List (Pl × Int)} (g : GL f caps l) : l.length ≤ (placesF f caps).length := by
  have := nodup_len g.nd g.sub
  simpa using this
theorem lk_snoc {p q : Pl} {b : Int} : ∀ {l : List (Pl × Int)}, lk p (l ++ [(q, b)]) = match lk p l with
    | some v => some v
    | none => if p = q then some b else none
  | [] => rfl
  | (r, c) :: l => by
    rw [List.cons_append, lk, lk]
    by_cases h : p = r
    · rw [if_pos h, if_pos h]
    · rw [if_neg h, if_neg h]
      exact lk_snoc
theorem lk_vals {l : List (Pl × Int)} : ∀ {qs : List Pl}, (∀ q ∈ qs, q ∈ l.map (·.1)) → ∃ vs : List Int, qs.map (fun x => lk x l) = vs.map some
  | [], _ => ⟨[], rfl⟩
  | q :: qs, h => by
    obtain ⟨vs, e⟩ := lk_vals fun x hx => h x (List.mem_cons_of_mem _ hx)
    have hq := h q List.mem_cons_self
    have hs : (lk q l).isSome = true := by rw [lookup_isSome]; simpa using hq
    obtain ⟨v, hv⟩ := Option.isSome_iff_exists.mp hs
    exact ⟨v :: vs, by rw [List.map_cons, List.map_cons, e, hv]⟩
theorem lk_keep {l : List (Pl × Int)} {p : Pl} {b : Int} {qs : List Pl} {vs : List Int} (h : qs.map (fun x => lk x l) = vs.map some) : qs.map (fun x => lk x (l ++ [(p, b)])) = vs.map some := by
  rw [← h]
  apply List.map_congr_left
  intro x hx
  have : lk x l ∈ vs.map some := by rw [← h]; exact List.mem_map.mpr ⟨x, hx, rfl⟩
  obtain ⟨v, _, e⟩ := List.mem_map.mp this
  rw [lk_snoc, ← e]
theorem GL.add {f : Fm} {caps : List Int} {l : List (Pl × Int)} (g : GL f caps l) {p : Pl} (hp : p ∈ placesF f caps) (hn : p ∉ l.map (·.1)) {vs : List Int} (hv : (sucF f caps p).map (fun x => lk x l) = vs.map some) : GL f caps (l ++ [(p, maxF vs)]) := by
  refine ⟨?_, fun q hq => ?_, fun q hq => ?_⟩
  · rw [List.map_append, List.nodup_append]
    exact ⟨g.nd, List.nodup_cons.mpr ⟨List.not_mem_nil, List.nodup_nil⟩, fun x hx y hy => by rw [List.map_cons, List.map_nil, List.mem_singleton] at hy; rw [hy]; intro z; rw [z] at hx; exact hn hx⟩
  · rw [List.map_append] at hq
    rcases List.mem_append.mp hq with hq | hq
    · exact g.sub q hq
    · rw [List.map_cons, List.map_nil, List.mem_singleton] at hq; rw [hq]; exact hp
  · rcases List.mem_append.mp hq with hq | hq
    · obtain ⟨ws, e1, e2⟩ := g.val q hq
      exact ⟨ws, lk_keep e1, e2⟩
    · rw [List.mem_singleton.mp hq]
      exact ⟨vs, lk_keep hv, rfl⟩
/-- the found ones are the ranks -/
theorem GL.rk {f : Fm} (h : f.Ok) {caps : List Int} (hc : FCap f caps) {l : List (Pl × Int)} (g : GL f caps l) (c : Clo f caps l) : (placesF f caps).map (fun p => lk p l) = rkF f caps := by
  refine IsRk.eq ⟨by rw [List.length_map, nx_len], fun i row r hi hr => ?_, fun i row hi hr => ?_⟩
  · have hlt : i < (placesF f caps).length := by have := (List.getElem?_eq_some_iff.mp hi).1; rwa [nx_len] at this
    have hp := List.getElem?_eq_getElem hlt
    generalize (placesF f caps)[i] = p at hp
    have hpm := List.mem_of_getElem? hp
    unfold nxF at hi
    rw [List.getElem?_map, hp] at hi hr
    cases hi
    have hr : lk p l = some r := Option.some.inj hr
    obtain ⟨vs, e1, e2⟩ := g.val _ (kd_mem hr)
    refine ⟨vs, ?_, e2⟩
    rw [row_map, show vs.map (fun v => some (some v)) = (vs.map some).map some by rw [List.map_map]; rfl, ← e1, List.map_map]
    apply List.map_congr_left
    intro q hq
    exact map_pos _ (suc_in h hc hpm hq)
  · have hlt : i < (placesF f caps).length := by have := (List.getElem?_eq_some_iff.mp hi).1; rwa [nx_len] at this
    have hp := List.getElem?_eq_getElem hlt
    generalize (placesF f caps)[i] = p at hp
    have hpm := List.mem_of_getElem? hp
    unfold nxF at hi
    rw [List.getElem?_map, hp] at hi hr
    cases hi
    have hr : lk p l = none := Option.some.inj hr
    have hpn : p ∉ l.map (·.1) := fun z => by
      have : (lk p l).isSome = true := by rw [lookup_isSome]; simpa using z
      rw [hr] at this
      cases this
    obtain ⟨q, hq, hqn⟩ := c p hpm hpn
    obtain ⟨j, hj, rfl⟩ := List.mem_map.mp hq
    refine ⟨_, List.mem_map.mpr ⟨j, hj, rfl⟩, ?_⟩
    rw [show (((pos0 (ledI f caps p j) (placesF f caps) : Nat) : Int)).toNat = pos0 (ledI f caps p j) (placesF f caps) from Int.toNat_natCast _, map_pos _ (led_mem h hc hpm hj), lookup_out hqn]
/-- one pass over the places -/
structure GI (f : Fm) (caps : List Int) (l0 : List (Pl × Int)) (pre : List Pl) (l : List (Pl × Int)) : Prop where
  g : GL f caps l
  c : Clo f caps l0 → l = l0
  p : (l = l0 ∧ ∀ p ∈ pre, p ∈ l0.map (·.1) ∨ ∃ q ∈ sucF f caps p, q ∉ l0.map (·.1)) ∨ l0.length < l.length
theorem GI.no {f : Fm} {caps : List Int} {l0 l : List (Pl × Int)} {pre : List Pl} (g : GI f caps l0 pre l) {p : Pl} (hn : ¬ (p ∉ l.map (·.1) ∧ ∀ q ∈ sucF f caps p, q ∈ l.map (·.1))) : GI f caps l0 (pre ++ [p]) l := by
  refine ⟨g.g, g.c, ?_⟩
  rcases g.p with ⟨e, h⟩ | h
  · left
    refine ⟨e, fun q hq => ?_⟩
    rcases List.mem_append.mp hq with hq | hq
    · exact h q hq
    · rw [List.mem_singleton.mp hq]
      rw [e] at hn
      by_cases z : p ∈ l0.map (·.1)
      · exact .inl z
      · right
        have := fun y => hn ⟨z, y⟩
        by_cases w : ∃ q ∈ sucF f caps p, q ∉ l0.map (·.1)
        · exact w
        · exact (this fun q hq => by
            by_cases y : q ∈ l0.map (·.1)
            · exact y
            · exact absurd ⟨q, hq, y⟩ w).elim
  · exact .inr h
theorem GI.yes {f : Fm} {caps : List Int} {l0 l : List (Pl × Int)} {pre : List Pl} (g : GI f caps l0 pre l) {p : Pl} (hp : p ∈ placesF f caps) (hn : p ∉ l.map (·.1)) (hq : ∀ q ∈ sucF f caps p, q ∈ l.map (·.1)) {vs : List Int} (hv : (sucF f caps p).map (fun x => lk x l) = vs.map some) : GI f caps l0 (pre ++ [p]) (l ++ [(p, maxF vs)]) := by
  refine ⟨g.g.add hp hn hv, fun c => ?_, .inr ?_⟩
  · exfalso
    have e := g.c c
    rw [e] at hn hq
    obtain ⟨q, h1, h2⟩ := c p hp hn
    exact h2 (hq q h1)
  · rw [List.length_append]
    rcases g.p with ⟨e, _⟩ | h
    · rw [e]; simp
    · simp; omega
theorem GI.done {f : Fm} {caps : List Int} {l0 l : List (Pl × Int)} (g : GI f caps l0 (placesF f caps) l) {k : Nat} (h0 : Clo f caps l0 ∨ k ≤ l0.length) : Clo f caps l ∨ k + 1 ≤ l.length := by
  rcases h0 with h0 | h0
  · rw [g.c h0]
    exact .inl h0
  · rcases g.p with ⟨e, h⟩ | h
    · left
      rw [e]
      intro p hp hn
      exact (h p hp).resolve_left hn
    · exact .inr (by omega)
section
variable {wf n : Nat} {s : S}
theorem c_law_rows (W : Wf s) {caps : List Int} (hc : ∀ x ∈ caps, 0 ≤ x ∧ x ≤ 9) (hl : caps.length ≤ 3) : callN tab wf (n + 1) 163 [eT caps] s = .ok (.lst ((rowsOf caps).map enc)) s :=
  call_W t__law_rows rfl W rows_low (body_rows W hc hl)
theorem c_law_places (W : Wf s) {f : Fm} (h : f.Ok) {caps : List Int} (hc : FCap f caps) : callN tab wf (n + 2) 43 [eF f, eT caps] s = .ok (.lst ((placesF f caps).map enc)) s := by
  have hl := fcaps_len h hc
  have hR := rows_le hc.c hl
  have hsd := h.sd6
  have hsd1 := h.sd1
  have hP := fplaces_600 h hc
  refine call_W t__law_places rfl W lst_low ?_
  simp only [↓wS, ↓wE, ↓wC, ↓wI, wV, wX, wM, wY, wB, wK, wT, b__law_places, c_law_rows W hc.c hl, wF0, rangeD_up]
  refine ⟨by omega, ?_⟩
  refine W_for (fun rs τ u => ∃ o5 o7, τ = [some (eF f), some (eT caps), some (.lst ((rowsOf caps).map enc)), some (.ref s.nx), o5, o7] ∧ u = s.add (.lst false ((rs.flatMap fun st => (rowsOf caps).map fun r => ((st, r) : Pl)).map enc))) ⟨none, none, rfl, rfl⟩ ?_ ?_
  · rintro rs i post2 τ2 u hx2 ⟨o5, o7, rfl, rfl⟩
    simp only [↓wS, ↓wE, ↓wC, ↓wI, wV, wX, wM, wY, wB, wK]
    refine ⟨by omega, ?_⟩
    refine W_map (fun r : Tup Int => enc ((i, r) : Pl)) (fun r hr => ?_) ?_
    · simp only [↓wS, ↓wE, ↓wC, ↓wI, wV, wX, wM, wY, wB, wK, enc_pair]
    · have h5 : ((rs ++ [i]).flatMap fun st => (rowsOf caps).map fun r => ((st, r) : Pl)).length ≤ (placesF f caps).length := by
        unfold placesF placesOf
        rw [hx2]
        exact length_le_flatMap (post := post2) (by simp)
      rw [List.flatMap_append] at h5
      simp at h5
      simp only [↓wS, ↓wE, ↓wC, ↓wI, wV, wX, wM, wY, wB, wK]
      refine ⟨by simp; omega, some (.int i), o7, rfl, ?_⟩
      simp [Function.comp_def]
  · rintro τ u ⟨o5, o7, rfl, rfl⟩
    simp only [↓wS, ↓wE, ↓wC, ↓wI, wV, wX, wM, wY, wB, wK]
    exact ⟨rfl, Over.add (Over.refl s)⟩
theorem eP_low {m : Nat} {o : Option Pl} : below m (eP o) = true := by
  cases o with
  | none => rfl
  | some p => exact En.low m p
theorem c_law_led (W : Wf s) {f : Fm} {caps : List Int} {p : Pl} (hp : p.2.items.length ≤ 64) (hcl : caps.length ≤ 64) {i : Int} (h0 : 0 ≤ i) (h1 : i < f.steps.length) : callN tab wf (n + 1) 164 [eF f, eT caps, enc p, .int i] s = .ok (eP (ledO f caps p i)) s := by
  have hlt : i.toNat < f.steps.length := by omega
  have ht : f.steps[i.toNat]? = some (f.steps[i.toNat]'hlt) := List.getElem?_eq_getElem hlt
  generalize f.steps[i.toNat]'hlt = t at ht
  have e1 : ledO f caps p i = if stF t p = true then some (ledF caps p t) else none := by
    unfold ledO letFB
    rw [ledI_at ht]
    simp only [ht]
  rw [e1]
  refine call_W t__law_led rfl W eP_low ?_
  simp only [↓wS, ↓wE, ↓wC, ↓wI, wV, wX, wM, wY, wB, wK, wT, b__law_led, enc_pair, wF0, xFStep h0 ht, eFS, enc_tup]
  by_cases hs : t.a = p.1
  · simp only [↓wS, ↓wE, ↓wC, ↓wI, wV, wX, wM, wY, wB, wK, hs, decide_true, Bool.not_true, wU, zipD_en, eT]
    refine ⟨by rw [List.length_zip]; omega, W_anyC (fun q : Int × Int => decide (q.1 < q.2)) (fun q _ => ?_) ?_⟩
    · simp only [↓wS, ↓wE, ↓wC, ↓wI, wV, wX, wM, wY, wB, wK, enc_pair]
    · have eg : ((p.2.items.zip t.wants).any fun q => decide (q.1 < q.2)) = !geAll p.2.items t.wants := by
        unfold geAll
        rw [Bool.eq_iff_iff]
        simp
      simp only [↓wS, ↓wE, ↓wC, ↓wI, wV, wX, wM, wY, wB, wK, eg]
      cases hg : geAll p.2.items t.wants with
      | false =>
        have : stF t p = false := by unfold stF; rw [hg, Bool.and_false]
        simp only [↓wS, ↓wE, ↓wC, ↓wI, wV, wX, wM, wY, wB, wK, Bool.not_false, this, wO]
        rfl
      | true =>
        have : stF t p = true := by unfold stF; rw [hg, decide_eq_true hs]; rfl
        simp only [↓wS, ↓wE, ↓wC, ↓wI, wV, wX, wM, wY, wB, wK, Bool.not_true, this, zipD3_en, wU]
        refine ⟨by simp [List.length_zip]; omega, W_map (fun q : Int × Int × Int => enc (if q.2.1 + q.2.2 < q.1 then q.2.1 + q.2.2 else q.1)) (fun q hq => ?_) ?_⟩
        · simp only [↓wS, ↓wE, ↓wC, ↓wI, wV, wX, wM, wY, wB, wK]
        · simp only [↓wS, ↓wE, ↓wC, ↓wI, wV, wX, wM, wY, wB, wK, wO]
          simp [eP, ledF, z3, enc_pair, enc_tup, Function.comp_def, e_int]
  · have : stF t p = false := by unfold stF; rw [decide_eq_false hs]; rfl
    simp only [↓wS, ↓wE, ↓wC, ↓wI, wV, wX, wM, wY, wB, wK, hs, decide_false, Bool.not_false, this, wO]
    rfl
theorem lows_fun {α : Type} {g : α → D} {m : Nat} (h : ∀ a, below m (g a) = true) : ∀ xs : List α, belows m (xs.map g) = true
  | [] => rfl
  | x :: xs => by rw [List.map_cons, belows, h, lows_fun h xs]; rfl
theorem c_law_next (W : Wf s) {f : Fm} (h : f.Ok) {caps : List Int} {p : Pl} (hp : p.2.items.length ≤ 64) (hcl : caps.length ≤ 64) : callN tab wf (n + 2) 165 [eF f, eT caps, enc p] s = .ok (.lst ((nextL f caps p).map enc)) s := by
  have hl := h.sl
  refine call_W t__law_next rfl W (lows_map _ _) ?_
  simp only [↓wS, ↓wE, ↓wC, ↓wI, wV, wX, wM, wY, wB, wK, wT, b__law_next, wF0, rangeD_up, Int.toNat_natCast]
  refine ⟨by omega, by rw [up_len]; omega, W_map (fun i : Int => D.tup [.int i, eP (ledO f caps p i)]) (fun i hi => ?_) ?_⟩
  · have hi := mem_up.mp hi
    simp only [↓wS, ↓wE, ↓wC, ↓wI, wV, wX, wM, wY, wB, wK, c_law_led W hp hcl hi.1 (show i < (f.steps.length : Int) by omega)]
  · simp only [↓wS, ↓wE, ↓wC, ↓wI, wV, wX, wM, wY, wB, wK]
    refine ⟨by simp; omega, W_filter (fun i : Int => letFB f p i) (fun i : Int => enc ((i, ledI f caps p i) : Int × Pl)) (fun i hi => ?_) ?_⟩
    · simp only [↓wS, ↓wE, ↓wC, ↓wI, wV, wX, wM, wY, wB, wK, isNon_eP]
      refine brT_if (by unfold ledO; cases letFB f p i <;> rfl) fun hb => ?_
      unfold ledO
      rw [if_pos hb]
      simp only [↓wS, ↓wE, ↓wC, ↓wI, wV, wX, wM, wY, wB, wK, eP, enc_pair]
    · simp only [↓wS, ↓wE, ↓wC, ↓wI, wV, wX, wM, wY, wB, wK, wO]
      unfold nextL letF
      rw [List.map_map]
      rfl
theorem next_suc (f : Fm) (caps : List Int) (p : Pl) : (nextL f caps p).map (fun q => q.2) = sucF f caps p := by
  unfold nextL sucF
  rw [List.map_map]
  rfl
theorem next_len {f : Fm} (h : f.Ok) {caps : List Int} {p : Pl} : (nextL f caps p).length ≤ 12 := by
  have := letF_len f p
  have := h.sl
  simp [nextL]
  omega
theorem c_law_ranks (W : Wf s) {f : Fm} (h : f.Ok) {caps : List Int} (hc : FCap f caps) : callN tab wf (n + 3) 166 [eF f, eT caps] s = .ok (.lst ((rkF f caps).map eO)) s := by
  have hP := fplaces_600 h hc
  have hcl := fcaps_len h hc
  refine call_W t__law_ranks rfl W eO_low ?_
  simp only [↓wS, ↓wE, ↓wC, ↓wI, wV, wX, wM, wY, wB, wK, wT, b__law_ranks, c_law_places W h hc, List.length_map, rangeD_up]
  refine ⟨by omega, ?_⟩
  refine W_for (fun (pre : List Int) τ u => ∃ (l : List (Pl × Int)) (o4 o5 o6 : Option D), GL f caps l ∧ (Clo f caps l ∨ pre.length ≤ l.length) ∧ τ = [some (eF f), some (eT caps), some (.lst ((placesF f caps).map enc)), some (.ref s.nx), o4, o5, o6, none, none] ∧ u = s.add (.dic false (kD l) (vD D.int l))) ⟨[], none, none, none, ⟨by simp, by simp, by simp⟩, .inr (Nat.zero_le _), rfl, rfl⟩ ?_ ?_
  · rintro pre i post τ u hx ⟨l0, o4, o5, o6, g0, hcl0, rfl, rfl⟩
    simp only [↓wS, ↓wE, ↓wC, ↓wI, wV, wX, wM, wY, wB, wK]
    refine W_for (fun (ps : List Pl) τ u => ∃ (l : List (Pl × Int)) (o5 o6 : Option D), GI f caps l0 ps l ∧ τ = [some (eF f), some (eT caps), some (.lst ((placesF f caps).map enc)), some (.ref s.nx), some (.int i), o5, o6, none, none] ∧ u = s.add (.dic false (kD l) (vD D.int l))) ⟨l0, o5, o6, ⟨g0, fun _ => rfl, .inl ⟨rfl, fun _ hp => by cases hp⟩⟩, rfl, rfl⟩ ?_ ?_
    · rintro ps p post2 τ u hx2 ⟨l, o5, o6, gi, rfl, rfl⟩
      have hp : p ∈ placesF f caps := by rw [hx2]; simp
      have hpl := frow_len hc hp
      have hll := gi.g.len
      have hnl := next_len h (caps := caps) (p := p)
      have Wu : Wf (s.add (.dic false (kD l) (vD D.int l))) := W.add (dicC_low fun b => rfl)
      simp only [↓wS, ↓wE, ↓wC, ↓wI, wV, wX, wM, wY, wB, wK, c_law_next Wu h (show p.2.items.length ≤ 64 by omega) (show caps.length ≤ 64 by omega)]
      refine ⟨by omega, W_map (fun q : Int × Pl => enc q.2) (fun q hq => ?_) ?_⟩
      · simp only [↓wS, ↓wE, ↓wC, ↓wI, wV, wX, wM, wY, wB, wK, enc_pair]
      have esuc : (nextL f caps p).map (fun q : Int × Pl => (enc q.2 : D)) = (sucF f caps p).map enc := by rw [← next_suc, List.map_map]; rfl
      have hsl : (sucF f caps p).length ≤ 12 := by rw [← next_suc, List.length_map]; exact hnl
      simp only [↓wS, ↓wE, ↓wC, ↓wI, wV, wX, wM, wY, wB, wK, esuc]
      refine brAnd_pure ((sucF f caps p).all fun q => isin q (l.map (·.1))) (fun _ => ?_) ?_
      · simp only [↓wS, ↓wE, ↓wC, ↓wI, wV, wX, wM, wY, wB, wK]
        refine ⟨by omega, W_allC (fun q => isin q (l.map (·.1))) (fun q hq => ?_) ?_⟩
        · simp only [↓wS, ↓wE, ↓wC, ↓wI, wV, wX, wM, wY, wB, wK]
        · simp only [↓wS, ↓wE, ↓wC, ↓wI, wV, wX, wM, wY, wB, wK, isQ_self]
      simp only [↓wS, ↓wE, ↓wC, ↓wI, wV, wX, wM, wY, wB, wK]
      refine brS_by (fun ht => ?_) (fun ht => ?_)
      · rw [Bool.and_eq_true, isin_neg, List.all_eq_true] at ht
        obtain ⟨t1, t2⟩ := ht
        have t3 : ∀ q ∈ sucF f caps p, q ∈ l.map (·.1) := fun q hq => by have := t2 q hq; rwa [isin_iff] at this
        obtain ⟨vs, hv⟩ := lk_vals t3
        have hlen : vs.length = (sucF f caps p).length := by have := congrArg List.length hv; simpa using this.symm
        simp only [↓wS, ↓wE, ↓wC, ↓wI, wV, wX, wM, wY, wB, wK]
        refine ⟨by omega, W_map (fun q : Pl => D.int ((lk q l).getD 0 + 1)) (fun q hq => ?_) ?_⟩
        · have : lk q l ∈ vs.map some := by rw [← hv]; exact List.mem_map.mpr ⟨q, hq, rfl⟩
          obtain ⟨v, _, ev⟩ := List.mem_map.mp this
          simp only [↓wS, ↓wE, ↓wC, ↓wI, wV, wX, wM, wY, wB, wK, ← ev]
          exact ⟨rfl, rfl⟩
        have emx : (sucF f caps p).map (fun q : Pl => D.int ((lk q l).getD 0 + 1)) = (vs.map (· + 1)).map enc := by
          have e2 : (sucF f caps p).map (fun q => (lk q l).getD 0) = vs := by
            have := congrArg (List.map fun o : Option Int => o.getD 0) hv
            simpa [List.map_map, Function.comp_def] using this
          rw [← e2, List.map_map, List.map_map]
          rfl
        have ecat : ([D.int 0] ++ (sucF f caps p).map (fun q : Pl => D.int ((lk q l).getD 0 + 1))) = ((0 : Int) :: vs.map (· + 1)).map enc := by rw [emx]; rfl
        simp only [↓wS, ↓wE, ↓wC, ↓wI, wV, wX, wM, wY, wB, wK, ecat, v_maxI]
        refine ⟨by simp; omega, ?_⟩
        refine set_new (f := D.int) t1 (by omega) ?_
        simp only [↓wS, ↓wE, ↓wC, ↓wI, wV, wX, wM, wY, wB, wK]
        exact ⟨_, some (enc p), _, gi.yes hp t1 t3 hv, rfl, rfl⟩
      · simp only [↓wS, ↓wE, ↓wC, ↓wI, wV, wX, wM, wY, wB, wK]
        refine ⟨l, some (enc p), _, gi.no fun z => ?_, rfl, rfl⟩
        have : (!isin p (l.map (·.1)) && (sucF f caps p).all fun q => isin q (l.map (·.1))) = true := by
          rw [Bool.and_eq_true, isin_neg, List.all_eq_true]
          exact ⟨z.1, fun q hq => by rw [isin_iff]; exact z.2 q hq⟩
        rw [this] at ht
        cases ht
    · rintro τ u ⟨l, o5, o6, gi, rfl, rfl⟩
      refine ⟨l, some (.int i), o5, o6, gi.g, ?_, rfl, rfl⟩
      rw [List.length_append]
      exact gi.done hcl0
  · rintro τ u ⟨l, o4, o5, o6, g, hcl0, rfl, rfl⟩
    have hclo : Clo f caps l := by
      rcases hcl0 with h1 | h1
      · exact h1
      · have := g.len
        rw [up_len] at h1
        omega
    simp only [↓wS, ↓wE, ↓wC, ↓wI, wV, wX, wM, wY, wB, wK]
    refine ⟨by omega, W_map (fun p => eO (lk p l)) (fun p hp => ?_) ?_⟩
    · simp only [↓wS, ↓wE, ↓wC, ↓wI, wV, wX, wM, wY, wB, wK, wN, Option.isSome_some, true_and]
    · simp only [↓wS, ↓wE, ↓wC, ↓wI, wV, wX, wM, wY, wB, wK, wO]
      rw [← g.rk h hc hclo, List.map_map]
      rfl
end
end Mi.L76
set_option Elab.async false
set_option linter.all false
set_option maxRecDepth 100000
set_option maxHeartbeats 400000
namespace Mi.L76
open PySem PySem.W
open Mi.En (enc)
/-! ### judges of ranks -/
/-- a value in the place of a rank -/
inductive Rq where
  | non | int (i : Int) | bl (b : Bool)
def Rq.d : Rq → D
  | .non => .non
  | .int i => .int i
  | .bl b => .bl b
def Rq.ty : Rq → Ty
  | .non => .non
  | .int _ => .int
  | .bl _ => .bl
def Rq.ok : Rq → Bool
  | .non => true
  | .int i => decide (0 ≤ i)
  | .bl _ => false
def Rq.o : Rq → Option Int
  | .int i => some i
  | _ => none
/-- a value in the place of ranks: none, or so many values, in a tuple or in a list -/
def seqD (tl : Bool) (ds : List D) : D := if tl = true then .tup ds else .lst ds
def valAt (ps : List Pl) (vals : List (Option Int)) (x : Pl) : Option Int := (vals[pos0 x ps]?).getD none
def ltO (r : Int) : Option Int → Bool
  | some v => decide (v < r)
  | none => false
def jB (f : Fm) (caps : List Int) (vals : List (Option Int)) (p : Pl) : Option Int → Bool
  | none => (sucF f caps p).any fun x => (valAt (placesF f caps) vals x).isNone
  | some r => (sucF f caps p).all fun x => ltO r (valAt (placesF f caps) vals x)
def jS (f : Fm) (caps : List Int) (qs : List Rq) : Bool := decide (qs.length = (placesF f caps).length) && (qs.all Rq.ok && ((placesF f caps).zip (qs.map Rq.o)).all fun z => jB f caps (qs.map Rq.o) z.1 z.2)
theorem ok_eO {qs : List Rq} (h : qs.all Rq.ok = true) : qs.map Rq.d = (qs.map Rq.o).map eO := by
  rw [List.map_map]
  apply List.map_congr_left
  intro q hq
  have := List.all_eq_true.mp h q hq
  cases q with
  | bl b => cases this
  | non => rfl
  | int i => rfl
theorem d_ty {s : S} {q : Rq} : s.tyOf q.d = some q.ty := by cases q <;> rfl
theorem isNon_d {q : Rq} : isNon q.d = (match q with | .non => true | _ => false) := by cases q <;> rfl
theorem rowF_len {f : Fm} (h : f.Ok) {caps : List Int} {p : Pl} : (rowF f caps p).length ≤ 12 := by
  have := letF_len f p
  have := h.sl
  simp [rowF]
  omega
theorem any_map' {α β : Type} (g : α → β) (q : β → Bool) : ∀ xs : List α, (xs.map g).any q = xs.any fun x => q (g x)
  | [] => rfl
  | x :: xs => by rw [List.map_cons, List.any_cons, List.any_cons, any_map' g q xs]
theorem all_map' {α β : Type} (g : α → β) (q : β → Bool) : ∀ xs : List α, (xs.map g).all q = xs.all fun x => q (g x)
  | [] => rfl
  | x :: xs => by rw [List.map_cons, List.all_cons, List.all_cons, all_map' g q xs]
section
variable {wf n : Nat} {s : S} {Q : VQ}
theorem x_seq {tl : Bool} {ds : List D} {i : Int} : (evIx (seqD tl ds) (.int i) s).W Q = wAt (L2.atI ds i) id s Q := by
  cases tl
  · exact x_lst
  · exact x_tup
theorem len_seq {tl : Bool} {ds : List D} : (evBi .len [seqD tl ds] s).W Q = Q (.int ds.length) s := by cases tl <;> rfl
theorem walk_seq {tl : Bool} {ds : List D} : s.walk (seqD tl ds) = some ds := by cases tl <;> rfl
theorem walkS_seq {tl : Bool} {ds : List D} : s.walkS (seqD tl ds) = some ds := by cases tl <;> rfl
theorem ty_seq {tl : Bool} {ds : List D} : s.tyOf (seqD tl ds) = some (if tl = true then .tup else .lst) := by cases tl <;> rfl
theorem wQ :
    (∀ {s Q} {tl : Bool} {ds : List D} {i : Int}, (evIx (seqD tl ds) (.int i) s).W Q = wAt (L2.atI ds i) id s Q) ∧ (∀ {s Q} {tl : Bool} {ds : List D}, (evBi .len [seqD tl ds] s).W Q = Q (.int ds.length) s) ∧
    (∀ {s} {tl : Bool} {ds : List D}, S.walk s (seqD tl ds) = some ds) ∧ (∀ {s} {tl : Bool} {ds : List D}, S.walkS s (seqD tl ds) = some ds) ∧ (∀ {s} {tl : Bool} {ds : List D}, S.tyOf s (seqD tl ds) = some (if tl = true then .tup else .lst)) ∧
    (∀ {s} {q : Rq}, S.tyOf s q.d = some q.ty) :=
  ⟨x_seq, len_seq, walk_seq, walkS_seq, ty_seq, d_ty⟩
theorem at_pos {f : Fm} (h : f.Ok) {caps : List Int} (hc : FCap f caps) {vals : List (Option Int)} (hl : vals.length = (placesF f caps).length) {x : Pl} (hx : x ∈ placesF f caps) : (vals.map eO)[pos0 x (placesF f caps)]? = some (eO (valAt (placesF f caps) vals x)) := by
  have := pos0_lt hx
  rw [List.getElem?_map]
  unfold valAt
  rw [List.getElem?_eq_getElem (by omega)]
  rfl
theorem c_rank_right (W : Wf s) {f : Fm} (h : f.Ok) {caps : List Int} (hc : FCap f caps) {tl : Bool} {vals : List (Option Int)} (hl : vals.length = (placesF f caps).length) {p : Pl} (hp : p ∈ placesF f caps) {o : Option Int} : callN tab wf (n + 1) 314 [seqD tl (vals.map eO), eO o, .lst ((rowF f caps p).map enc)] s = .ok (.bl (jB f caps vals p o)) s := by
  refine call_W t_caps_rank_is_right rfl W rfl ?_
  have h12 := rowF_len h (caps := caps) (p := p)
  have at_ : ∀ q ∈ rowF f caps p, ∃ x, x ∈ sucF f caps p ∧ q.2 = ((pos0 x (placesF f caps) : Nat) : Int) ∧ (vals.map eO)[pos0 x (placesF f caps)]? = some (eO (valAt (placesF f caps) vals x)) := by
    intro q hq
    obtain ⟨i, hi, rfl⟩ := List.mem_map.mp hq
    have hm := led_mem h hc hp hi
    exact ⟨_, List.mem_map.mpr ⟨i, hi, rfl⟩, rfl, at_pos h hc hl hm⟩
  cases o with
  | none =>
    simp only [↓wS, ↓wE, ↓wC, ↓wI, wV, wX, wM, wY, wB, wK, wT, b_caps_rank_is_right, wQ, eO]
    refine ⟨by omega, W_anyC (fun q : Int × Int => ((vals[q.2.toNat]?).getD none).isNone) (fun q hq => ?_) ?_⟩
    · obtain ⟨x, hx, e1, e2⟩ := at_ q hq
      rw [e1]
      simp only [↓wS, ↓wE, ↓wC, ↓wI, wV, wX, wM, wY, wB, wK, enc_pair, e1, wQ, at_nat, e2, wN]
      rw [Int.toNat_natCast]
      exact ⟨rfl, rfl⟩
    · have : (rowF f caps p).any (fun q : Int × Int => ((vals[q.2.toNat]?).getD none).isNone) = jB f caps vals p none := by
        unfold jB rowF sucF
        rw [any_map', any_map']
        congr 1
      simp only [↓wS, ↓wE, ↓wC, ↓wI, wV, wX, wM, wY, wB, wK, this, wO]
  | some r =>
    simp only [↓wS, ↓wE, ↓wC, ↓wI, wV, wX, wM, wY, wB, wK, wT, b_caps_rank_is_right, wQ, eO]
    refine ⟨by omega, W_allC (fun q : Int × Int => ltO r ((vals[q.2.toNat]?).getD none)) (fun q hq => ?_) ?_⟩
    · obtain ⟨x, hx, e1, e2⟩ := at_ q hq
      rw [show (vals[q.2.toNat]?).getD none = valAt (placesF f caps) vals x by rw [e1, Int.toNat_natCast]; rfl]
      cases e3 : valAt (placesF f caps) vals x with
      | none =>
        rw [e3] at e2
        simp only [↓wS, ↓wE, ↓wC, ↓wI, wV, wX, wM, wY, wB, wK, enc_pair, e1, wQ, at_nat, e2, wN, Option.isNone_none, Bool.not_true]
        exact ⟨rfl, rfl⟩
      | some v =>
        rw [e3] at e2
        simp only [↓wS, ↓wE, ↓wC, ↓wI, wV, wX, wM, wY, wB, wK, enc_pair, e1, wQ, at_nat, e2, wN, Option.isNone_some, Bool.not_false, eO]
        exact ⟨rfl, rfl⟩
    · have : (rowF f caps p).all (fun q : Int × Int => ltO r ((vals[q.2.toNat]?).getD none)) = jB f caps vals p (some r) := by
        show (rowF f caps p).all _ = (sucF f caps p).all _
        unfold rowF sucF
        rw [all_map', all_map']
        congr 1
      simp only [↓wS, ↓wE, ↓wC, ↓wI, wV, wX, wM, wY, wB, wK, this, wO]
end
end Mi.L76
set_option Elab.async false
set_option linter.all false
set_option maxRecDepth 100000
set_option maxHeartbeats 400000
namespace Mi.L76
open PySem PySem.W
open Mi.En (enc)
def yO : Option Int → PyData
  | none => .none
  | some i => .int i
theorem pys_O (lk : Nat → Option PyData) : ∀ os : List (Option Int), toPys lk (os.map eO) = some (os.map yO)
  | [] => rfl
  | none :: os => by rw [List.map_cons, List.map_cons, toPys, pys_O lk os]; rfl
  | some i :: os => by rw [List.map_cons, List.map_cons, toPys, pys_O lk os]; rfl
theorem lay_O : ∀ os : List (Option Int), PyData.canLayAll0 (os.map yO) = true
  | [] => rfl
  | none :: os => by rw [List.map_cons, PyData.canLayAll0, lay_O os]; rfl
  | some i :: os => by rw [List.map_cons, PyData.canLayAll0, lay_O os]; rfl
theorem depth_O : ∀ os : List (Option Int), PyData.depthAll (os.map yO) ≤ 1
  | [] => by decide
  | none :: os => by
    have := depth_O os
    rw [List.map_cons, PyData.depthAll]
    simp only [yO, PyData.depth]
    omega
  | some i :: os => by
    have := depth_O os
    rw [List.map_cons, PyData.depthAll]
    simp only [yO, PyData.depth]
    omega
theorem shaped_O (os : List (Option Int)) : SeqAt.shaped (.list (os.map yO)) = true := by
  unfold SeqAt.shaped
  rw [Bool.and_eq_true]
  refine ⟨lay_O os, ?_⟩
  have := depth_O os
  rw [decide_eq_true_eq]
  show PyData.depthAll (os.map yO) + 1 ≤ 64
  omega
theorem any_O : ∀ os : List (Option Int), ((os.map yO).any fun z => PyData.eqv z .none) = os.any fun o => o.isNone
  | [] => rfl
  | none :: os => by rw [List.map_cons, List.any_cons, List.any_cons, any_O os]; rfl
  | some i :: os => by rw [List.map_cons, List.any_cons, List.any_cons, any_O os]; rfl
theorem notin_O {s : S} {Q : VQ} {os : List (Option Int)} : (evCmp .notin .non (.lst (os.map eO)) s).W Q = Q (.bl (!os.any fun o => o.isNone)) s := by
  have h1 : s.py .non = some .none := rfl
  have h2 : s.pys (os.map eO) = some (os.map yO) := pys_O _ os
  have h3 : SeqAt.shaped .none = true := rfl
  have e : s.isIn .non (.lst (os.map eO)) = some (os.any fun o => o.isNone) := by
    show (match s.py .non, s.pys (os.map eO) with | some p, some ps => if (SeqAt.shaped p && SeqAt.shaped (.list ps)) = true then some (ps.any fun z => PyData.eqv z p) else none | _, _ => none) = _
    rw [h1, h2]
    simp only [h3, shaped_O, Bool.and_self, if_true, any_O]
  show Res.W (match s.isIn .non (.lst (os.map eO)) with | some r => .ok (.bl (!r)) s | none => .stuck) Q = _
  rw [e]
  rfl
theorem zip_swap {α β : Type} : ∀ (xs : List α) (ys : List β) (g : α → β → Bool), ((xs.zip ys).all fun z => g z.1 z.2) = (ys.zip xs).all fun z => g z.2 z.1
  | [], ys, g => by simp
  | x :: xs, [], g => by simp
  | x :: xs, y :: ys, g => by rw [List.zip_cons_cons, List.zip_cons_cons, List.all_cons, List.all_cons, zip_swap xs ys g]
section
variable {wf n : Nat} {s : S} {Q : VQ}
theorem zipD_gen {α β : Type} (g : α → D) (k : β → D) : ∀ (xs : List α) (ys : List β), zipD (xs.map g) (ys.map k) = (xs.zip ys).map fun z => .tup [g z.1, k z.2]
  | [], _ => rfl
  | _ :: _, [] => rfl
  | x :: xs, y :: ys => by rw [List.map_cons, List.map_cons, zipD, zipD_gen g k xs ys, List.zip_cons_cons, List.map_cons]
theorem c_franks_right (W : Wf s) {f : Fm} (h : f.Ok) {caps : List Int} (hc : FCap f caps) {tl : Bool} {qs : List Rq} (hq : qs.length ≤ 10000) : callN tab wf (n + 3) 315 [seqD tl (qs.map Rq.d), enc (nxF f caps)] s = .ok (.bl (jS f caps qs)) s := by
  have hP := fplaces_600 h hc
  refine call_W t_caps_ranks_are_right rfl W rfl ?_
  have hlist : decide ((if tl = true then Ty.tup else Ty.lst) = .lst ∨ (if tl = true then Ty.tup else Ty.lst) = .tup) = true := by cases tl <;> rfl
  simp only [↓wS, ↓wE, ↓wC, ↓wI, wV, wX, wM, wY, wB, wK, wT, b_caps_ranks_are_right, c_is_list W ty_seq, hlist, Bool.not_true, wQ, enc_list, List.length_map, nx_len]
  by_cases hl : qs.length = (placesF f caps).length
  · have hl' : ((qs.length : Int) = ((placesF f caps).length : Int)) := by omega
    simp only [↓wS, ↓wE, ↓wC, ↓wI, wV, wX, wM, wY, wB, wK, hl', decide_true, Bool.not_true, wQ]
    refine ⟨by omega, W_allC Rq.ok (fun q _ => ?_) ?_⟩
    · simp only [↓wS, ↓wE, ↓wC, ↓wI, wV, wX, wM, wY, wB, wK, isNon_d]
      cases q with
      | non => simp only [↓wS, ↓wE, ↓wC, ↓wI, wV, wX, wM, wY, wB, wK]; exact ⟨rfl, rfl⟩
      | int i => simp only [↓wS, ↓wE, ↓wC, ↓wI, wV, wX, wM, wY, wB, wK, Rq.d, c_is_count W (d := .int i) (t := .int) rfl]; exact ⟨rfl, rfl⟩
      | bl b => simp only [↓wS, ↓wE, ↓wC, ↓wI, wV, wX, wM, wY, wB, wK, Rq.d, c_is_count W (d := .bl b) (t := .bl) rfl]; exact ⟨rfl, rfl⟩
    simp only [↓wS, ↓wE, ↓wC, ↓wI, wV, wX, wM, wY, wB, wK]
    cases ha : qs.all Rq.ok with
    | false =>
      simp only [↓wS, ↓wE, ↓wC, ↓wI, wV, wX, wM, wY, wB, wK, Bool.not_false, wO]
      unfold jS
      rw [ha]
      simp
    | true =>
      have hv := ok_eO ha
      have hvl : (qs.map Rq.o).length = (placesF f caps).length := by rw [List.length_map]; exact hl
      have enx : (nxF f caps).map (enc : List (Int × Int) → D) = (placesF f caps).map fun p => .lst ((rowF f caps p).map enc) := by
        unfold nxF
        rw [List.map_map]
        rfl
      simp only [↓wS, ↓wE, ↓wC, ↓wI, wV, wX, wM, wY, wB, wK, Bool.not_true, wQ, hv, enx, zipD_gen]
      refine ⟨by rw [List.length_zip]; omega, W_allC (fun z : Option Int × Pl => jB f caps (qs.map Rq.o) z.2 z.1) (fun z hz => ?_) ?_⟩
      · have hp := (List.of_mem_zip hz).2
        simp only [↓wS, ↓wE, ↓wC, ↓wI, wV, wX, wM, wY, wB, wK, c_rank_right W h hc hvl hp]
      · simp only [↓wS, ↓wE, ↓wC, ↓wI, wV, wX, wM, wY, wB, wK, wO]
        unfold jS
        rw [ha, decide_eq_true hl, zip_swap (placesF f caps) (qs.map Rq.o) fun a b => jB f caps (qs.map Rq.o) a b]
        simp
  · have hl' : ¬ ((qs.length : Int) = ((placesF f caps).length : Int)) := by omega
    simp only [↓wS, ↓wE, ↓wC, ↓wI, wV, wX, wM, wY, wB, wK, hl', decide_false, Bool.not_false, wO]
    unfold jS
    rw [decide_eq_false hl]
    rfl
theorem c_franks_non (W : Wf s) {nx : Nx} : callN tab wf (n + 3) 315 [.non, enc nx] s = .ok (.bl false) s := by
  refine call_W t_caps_ranks_are_right rfl W rfl ?_
  have e : decide (Ty.non = Ty.lst ∨ Ty.non = Ty.tup) = false := rfl
  simp only [↓wS, ↓wE, ↓wC, ↓wI, wV, wX, wM, wY, wB, wK, wT, b_caps_ranks_are_right, c_is_list W (d := .non) (t := .non) rfl, e, Bool.not_false, wO]
/-- a value that is judged -/
def Vq : Option (Bool × List Rq) → D
  | none => .non
  | some (tl, qs) => seqD tl (qs.map Rq.d)
def jV (f : Fm) (caps : List Int) : Option (Bool × List Rq) → Bool
  | none => false
  | some (_, qs) => jS f caps qs
def VqOk : Option (Bool × List Rq) → Prop
  | none => True
  | some (_, qs) => qs.length ≤ 10000
theorem c_are_ranks (W : Wf s) {f : Fm} (h : f.Ok) {caps : List Int} (hc : FCap f caps) {v : Option (Bool × List Rq)} (hv : VqOk v) : callN tab wf (n + 8) 325 [eF f, eT caps, Vq v] s = .ok (.bl (jV f caps v)) s := by
  refine call_W t_caps_are_ranks rfl W rfl ?_
  simp only [↓wS, ↓wE, ↓wC, ↓wI, wV, wX, wM, wY, wB, wK, wT, b_caps_are_ranks, c_fcheck_caps W h hc, c_fcheck_few W hc hc.few, c_places_within W h hc, c_nexts_of W h hc]
  cases v with
  | none => simp only [↓wS, ↓wE, ↓wC, ↓wI, wV, wX, wM, wY, wB, wK, Vq, c_franks_non W, wO]; rfl
  | some z =>
    obtain ⟨tl, qs⟩ := z
    simp only [↓wS, ↓wE, ↓wC, ↓wI, wV, wX, wM, wY, wB, wK, Vq, c_franks_right W h hc hv, wO]
    rfl
theorem c_law_are_ranks (W : Wf s) {f : Fm} (h : f.Ok) {caps : List Int} (hc : FCap f caps) {v : Option (Bool × List Rq)} (hv : VqOk v) : callN tab wf (n + 3) 50 [eF f, eT caps, Vq v] s = .ok (.bl (jV f caps v)) s := by
  have hP := fplaces_600 h hc
  have hcl := fcaps_len h hc
  refine call_W t__law_are_ranks rfl W rfl ?_
  simp only [↓wS, ↓wE, ↓wC, ↓wI, wV, wX, wM, wY, wB, wK, wT, b__law_are_ranks, c_law_places W h hc]
  cases v with
  | none =>
    simp only [↓wS, ↓wE, ↓wC, ↓wI, wV, wX, wM, wY, wB, wK, Vq]
    exact ⟨rfl, Over.refl s⟩
  | some z =>
    obtain ⟨tl, qs⟩ := z
    have hlist : (([Ty.lst, Ty.tup].any fun u => (if tl = true then Ty.tup else Ty.lst).isa u) = true) := by cases tl <;> rfl
    have hv : qs.length ≤ 10000 := hv
    simp only [↓wS, ↓wE, ↓wC, ↓wI, wV, wX, wM, wY, wB, wK, Vq, wQ, hlist, Bool.not_true, List.length_map]
    by_cases hl : qs.length = (placesF f caps).length
    · have hl' : ((qs.length : Int) = ((placesF f caps).length : Int)) := by omega
      simp only [↓wS, ↓wE, ↓wC, ↓wI, wV, wX, wM, wY, wB, wK, hl', decide_true, Bool.not_true, wQ]
      refine W_for (fun (pre : List Rq) τ t => ∃ o4 : Option D, pre.all Rq.ok = true ∧ τ = [some (eF f), some (eT caps), some (seqD tl (qs.map Rq.d)), some (.lst ((placesF f caps).map enc)), o4, none, none, none, none, none] ∧ t = s) ⟨none, rfl, rfl, rfl⟩ ?_ ?_
      · rintro pre q post τ t hx ⟨o4, hpre, rfl, rfl⟩
        have bad : q.ok = false → jS f caps qs = false := fun hb => by
          have : qs.all Rq.ok = false := by rw [hx, List.all_append, List.all_cons, hb]; simp
          unfold jS
          rw [this]
          simp
        cases q with
        | non =>
          simp only [↓wS, ↓wE, ↓wC, ↓wI, wV, wX, wM, wY, wB, wK, Rq.d]
          exact ⟨some .non, by rw [List.all_append, hpre]; rfl, rfl⟩
        | int i =>
          simp only [↓wS, ↓wE, ↓wC, ↓wI, wV, wX, wM, wY, wB, wK, Rq.d]
          refine brS_by (fun hb => ?_) (fun hb => ?_)
          · simp only [↓wS, ↓wE, ↓wC, ↓wI, wV, wX, wM, wY, wB, wK]
            rw [show jV f caps (some (tl, qs)) = jS f caps qs from rfl, bad (by simp [Rq.ok]; simpa using hb)]
            first | exact ⟨rfl, Over.refl _⟩ | rfl
          · simp only [↓wS, ↓wE, ↓wC, ↓wI, wV, wX, wM, wY, wB, wK]
            exact ⟨some (.int i), by rw [List.all_append, hpre]; simp [Rq.ok]; simpa using hb, rfl⟩
        | bl b =>
          simp only [↓wS, ↓wE, ↓wC, ↓wI, wV, wX, wM, wY, wB, wK, Rq.d]
          rw [show jV f caps (some (tl, qs)) = jS f caps qs from rfl, bad rfl]
          first | exact ⟨rfl, Over.refl _⟩ | rfl
      · rintro τ t ⟨o4, ha, rfl, rfl⟩
        have hvd := ok_eO ha
        have hvl : (qs.map Rq.o).length = (placesF f caps).length := by rw [List.length_map]; exact hl
        simp only [↓wS, ↓wE, ↓wC, ↓wI, wV, wX, wM, wY, wB, wK, wQ, hvd, zipD_eO]
        refine W_for (fun (pre : List (Pl × Option Int)) τ u => ∃ o4 o5 o6 o7 : Option D, (pre.all fun z => jB f caps (qs.map Rq.o) z.1 z.2) = true ∧ τ = [some (eF f), some (eT caps), some (seqD tl ((qs.map Rq.o).map eO)), some (.lst ((placesF f caps).map enc)), o4, o5, o6, o7, none, none] ∧ u = t) ⟨o4, none, none, none, rfl, rfl, rfl⟩ ?_ ?_
        · rintro pre ⟨p, o⟩ post τ u hx ⟨o4, o5, o6, o7, hpre, rfl, rfl⟩
          have hp : p ∈ placesF f caps := (List.of_mem_zip (show (p, o) ∈ (placesF f caps).zip (qs.map Rq.o) by rw [hx]; simp)).1
          have hpl := frow_len hc hp
          have hnl := next_len h (caps := caps) (p := p)
          have bad : jB f caps (qs.map Rq.o) p o = false → jS f caps qs = false := fun hb => by
            unfold jS
            rw [hx, List.all_append, List.all_cons, hb]
            simp
          simp only [↓wS, ↓wE, ↓wC, ↓wI, wV, wX, wM, wY, wB, wK, c_law_next W h (show p.2.items.length ≤ 64 by omega) (show caps.length ≤ 64 by omega)]
          refine ⟨by omega, W_map (fun z : Int × Pl => eO (valAt (placesF f caps) (qs.map Rq.o) z.2)) (fun z hz => ?_) ?_⟩
          · have hm : z.2 ∈ placesF f caps := suc_in h hc hp (by rw [← next_suc]; exact List.mem_map.mpr ⟨z, hz, rfl⟩)
            have ez : (enc z : D) = .tup [.int z.1, enc z.2] := rfl
            simp only [↓wS, ↓wE, ↓wC, ↓wI, wV, wX, wM, wY, wB, wK, ez, i_lst, Option.isSome_some, m_index hm, wQ, at_nat, at_pos h hc hvl hm, true_and]
          have esm : (nextL f caps p).map (fun z : Int × Pl => eO (valAt (placesF f caps) (qs.map Rq.o) z.2)) = ((sucF f caps p).map (valAt (placesF f caps) (qs.map Rq.o))).map eO := by
            rw [← next_suc, List.map_map, List.map_map]
            rfl
          have hsl : (sucF f caps p).length ≤ 12 := by rw [← next_suc, List.length_map]; exact hnl
          cases o with
          | none =>
            simp only [↓wS, ↓wE, ↓wC, ↓wI, wV, wX, wM, wY, wB, wK, esm, eO_n, notin_O]
            have ej : (((sucF f caps p).map (valAt (placesF f caps) (qs.map Rq.o))).any fun o => o.isNone) = jB f caps (qs.map Rq.o) p none := any_map' _ _ _
            rw [ej]
            cases hj : jB f caps (qs.map Rq.o) p none with
            | true =>
              simp only [↓wS, ↓wE, ↓wC, ↓wI, wV, wX, wM, wY, wB, wK, Bool.not_true]
              refine ⟨o4, some (enc p), some .non, _, ?_, rfl⟩
              rw [List.all_append, hpre]
              simp [hj]
            | false =>
              simp only [↓wS, ↓wE, ↓wC, ↓wI, wV, wX, wM, wY, wB, wK, Bool.not_false]
              rw [show jV f caps (some (tl, qs)) = jS f caps qs from rfl, bad hj]
              exact ⟨rfl, Over.refl _⟩
          | some r =>
            simp only [↓wS, ↓wE, ↓wC, ↓wI, wV, wX, wM, wY, wB, wK, esm, eO_s]
            refine ⟨by first | omega | (simp; omega), W_anyC (fun o : Option Int => !ltO r o) (fun o _ => ?_) ?_⟩
            · simp only [↓wS, ↓wE, ↓wC, ↓wI, wV, wX, wM, wY, wB, wK, wN]
              cases o with
              | none => simp only [↓wS, ↓wE, ↓wC, ↓wI, wV, wX, wM, wY, wB, wK, Option.isNone_none]; exact ⟨rfl, rfl⟩
              | some v =>
                simp only [↓wS, ↓wE, ↓wC, ↓wI, wV, wX, wM, wY, wB, wK, Option.isNone_some, eO_s]
                refine ⟨?_, rfl⟩
                congr 2
                unfold ltO
                rw [Bool.eq_iff_iff]
                simp
            have ej : (((sucF f caps p).map (valAt (placesF f caps) (qs.map Rq.o))).any fun o => !ltO r o) = !jB f caps (qs.map Rq.o) p (some r) := by
              show _ = !((sucF f caps p).all _)
              rw [any_map']
              simp [List.not_all_eq_any_not]
            simp only [↓wS, ↓wE, ↓wC, ↓wI, wV, wX, wM, wY, wB, wK, ej]
            cases hj : jB f caps (qs.map Rq.o) p (some r) with
            | true =>
              simp only [↓wS, ↓wE, ↓wC, ↓wI, wV, wX, wM, wY, wB, wK, Bool.not_true]
              refine ⟨o4, some (enc p), some (.int r), _, ?_, rfl⟩
              rw [List.all_append, hpre]
              simp [hj]
            | false =>
              simp only [↓wS, ↓wE, ↓wC, ↓wI, wV, wX, wM, wY, wB, wK, Bool.not_false]
              rw [show jV f caps (some (tl, qs)) = jS f caps qs from rfl, bad hj]
              exact ⟨rfl, Over.refl _⟩
        · rintro τ u ⟨o4, o5, o6, o7, hall, rfl, rfl⟩
          simp only [↓wS, ↓wE, ↓wC, ↓wI, wV, wX, wM, wY, wB, wK]
          refine ⟨?_, Over.refl _⟩
          show D.bl true = .bl (jS f caps qs)
          unfold jS
          rw [ha, decide_eq_true hl, hall]
          rfl
    · have hl' : ¬ ((qs.length : Int) = ((placesF f caps).length : Int)) := by omega
      simp only [↓wS, ↓wE, ↓wC, ↓wI, wV, wX, wM, wY, wB, wK, hl', decide_false, Bool.not_false]
      refine ⟨?_, Over.refl _⟩
      show D.bl false = .bl (jS f caps qs)
      unfold jS
      rw [decide_eq_false hl]
      rfl
end
end Mi.L76
set_option Elab.async false
set_option linter.all false
set_option maxRecDepth 100000
set_option maxHeartbeats 400000
/-! Pq: texts of places; how great ranks are. -/
namespace Mi
open PySem PySem.W
open Mi.En (enc)
theorem Fit_tup {xs : List Int} (hx : ∀ x ∈ xs, x.natAbs < 10 ^ 20) (hl : xs.length ≤ 8) : Fit 187 1 (.tuple (xs.map .int)) :=
  Fit.tup (n := 21) (d := 0) (k := 8) (fun q hq => by obtain ⟨x, h, rfl⟩ := List.mem_map.mp hq; exact Fit.int (hx x h)) (by rw [List.length_map]; exact hl) (by decide)
theorem Fit_pl {p : Pl} (h1 : p.1.natAbs < 10 ^ 20) (hx : ∀ x ∈ p.2.items, x.natAbs < 10 ^ 20) (hl : p.2.items.length ≤ 8) : Fit 381 2 (Datum.toD p) := by
  have e : (Datum.toD p : PyData) = .tuple [.int p.1, .tuple (p.2.items.map .int)] := rfl
  rw [e]
  refine Fit.tup (n := 187) (d := 1) (k := 2) ?_ (Nat.le_refl 2) (by decide)
  intro q hq
  rcases List.mem_cons.mp hq with rfl | hq
  · exact (Fit.int h1).mono (by decide) (by decide)
  · rw [List.mem_singleton.mp hq]
    exact Fit_tup hx hl
theorem maxF_at (vs : List Int) : maxF vs = 0 ∨ ∃ v ∈ vs, maxF vs = v + 1 := by
  have key : ∀ (l : List Int) (a : Int), l.foldl max a = a ∨ l.foldl max a ∈ l := by
    intro l
    induction l with
    | nil => exact fun a => .inl rfl
    | cons x l ih =>
      intro a
      rw [List.foldl_cons]
      rcases ih (max a x) with h | h
      · rw [h]
        by_cases hax : a ≤ x
        · right
          rw [Int.max_eq_right hax]
          exact List.mem_cons_self
        · left
          exact Int.max_eq_left (by omega)
      · exact .inr (List.mem_cons_of_mem _ h)
  rcases key (vs.map (· + 1)) 0 with h | h
  · exact .inl h
  · obtain ⟨v, hv, e⟩ := List.mem_map.mp h
    exact .inr ⟨v, hv, e.symm⟩
/-- a rank is less than the number of places -/
theorem IsRk.lt {nx : Nx} {R : List (Option Int)} (h : IsRk nx R) : ∀ {i : Nat} {r : Int}, R[i]? = some (some r) → 0 ≤ r ∧ r < nx.length := by
  have down : ∀ (n : Nat) (i : Nat) (r : Int), R[i]? = some (some r) → r = n → ∀ k : Int, 0 ≤ k → k ≤ r → k ∈ R.filterMap id := by
    intro n
    induction n with
    | zero =>
      intro i r hr hn k h0 h1
      have : k = r := by omega
      rw [this, List.mem_filterMap]
      exact ⟨some r, List.mem_of_getElem? hr, rfl⟩
    | succ n ih =>
      intro i r hr hn k h0 h1
      by_cases hk : k = r
      · rw [hk, List.mem_filterMap]
        exact ⟨some r, List.mem_of_getElem? hr, rfl⟩
      · have hlt : i < nx.length := by rw [← h.len]; exact (List.getElem?_eq_some_iff.mp hr).1
        obtain ⟨vs, e1, e2⟩ := h.som i _ r (List.getElem?_eq_getElem hlt) hr
        rcases maxF_at vs with e | ⟨v, hv, e⟩
        · omega
        · have : some (some v) ∈ (nx[i]).map (fun q => R[q.2.toNat]?) := by rw [e1]; exact List.mem_map.mpr ⟨v, hv, rfl⟩
          obtain ⟨q, _, eq⟩ := List.mem_map.mp this
          exact ih _ v eq (by omega) k h0 (by omega)
  intro i r hr
  have hlt : i < nx.length := by rw [← h.len]; exact (List.getElem?_eq_some_iff.mp hr).1
  obtain ⟨vs, _, e2⟩ := h.som i _ r (List.getElem?_eq_getElem hlt) hr
  have h0 : 0 ≤ r := by rw [e2]; exact maxF_nonneg vs
  refine ⟨h0, ?_⟩
  have hn : (up 0 (r.toNat + 1)).Nodup := (up_pair 0 (r.toNat + 1)).imp fun h => by omega
  have := nodup_len (ys := R.filterMap id) hn fun k hk => by
    have := mem_up.mp hk
    exact down r.toNat i r hr (by omega) k this.1 (by omega)
  have h2 : (R.filterMap id).length ≤ R.length := List.length_filterMap_le _ _
  rw [up_len, ] at this
  rw [h.len] at h2
  omega
end Mi
set_option Elab.async false
set_option linter.all false
set_option maxRecDepth 100000
set_option maxHeartbeats 1000000
namespace Mi.L76
open PySem PySem.W
open Mi.En (enc)
/-! ### texts of farms, of ranks -/
def yT (xs : List Int) : PyData := .tuple (xs.map .int)
def yFS (t : FSt) : PyData := .tuple [.str "step", .int t.a, .int t.g, yT t.wants, yT t.effs, .int t.y]
def yF (f : Fm) : PyData := .tuple [.str "farm", .int f.sd, .int f.sk, .tuple (f.steps.map yFS)]
theorem py_T (lk : Nat → Option PyData) (xs : List Int) : toPy lk (eT xs) = some (yT xs) := by
  show (toPys lk (xs.map enc)).map PyData.tuple = _
  rw [toPys_map]
  rfl
theorem py_FS (lk : Nat → Option PyData) (t : FSt) : toPy lk (eFS t) = some (yFS t) := by
  show (toPys lk [.str "step", .int t.a, .int t.g, eT t.wants, eT t.effs, .int t.y]).map PyData.tuple = _
  simp only [toPys, py_T]
  rfl
theorem py_F (lk : Nat → Option PyData) (f : Fm) : toPy lk (eF f) = some (yF f) := by
  show (toPys lk [.str "farm", .int f.sd, .int f.sk, .tup (f.steps.map eFS)]).map PyData.tuple = _
  have h2 : toPy lk (.tup (f.steps.map eFS)) = some (.tuple (f.steps.map yFS)) := by
    show (toPys lk (f.steps.map eFS)).map PyData.tuple = _
    rw [toPys_of (py_FS lk)]
    rfl
  simp only [toPys, h2]
  rfl
theorem Fit_fstep {sd sk : Int} {t : FSt} (h : t.Ok sd sk) (h6 : sd ≤ 6) (h3 : sk ≤ 3) : Fit 1137 2 (yFS t) := by
  have a0 := h.a0
  have a1 := h.a1
  have g0 := h.g0
  have g1 := h.g1
  have wl := h.wl
  have el := h.el
  have y0 := h.y0
  have y1 := h.y1
  refine Fit.tup (n := 187) (d := 1) (k := 6) ?_ (Nat.le_refl 6) (by decide)
  intro q hq
  simp only [List.mem_cons, List.not_mem_nil, or_false] at hq
  rcases hq with rfl | rfl | rfl | rfl | rfl | rfl
  · exact ⟨rfl, rfl, by decide +kernel, Nat.zero_le _, by decide +kernel⟩
  · exact (Fit.int (by omega)).mono (by decide) (by decide)
  · exact (Fit.int (by omega)).mono (by decide) (by decide)
  · exact (Fit_tup (fun x hx => by have := h.wr x hx; omega) (by omega)).mono (by decide) (by decide)
  · exact (Fit_tup (fun x hx => by have := h.er x hx; omega) (by omega)).mono (by decide) (by decide)
  · exact (Fit.int (by omega)).mono (by decide) (by decide)
theorem Fit_farm {f : Fm} (h : f.Ok) : Fit 60000 4 (yF f) := by
  have h6 := h.sd6
  have h1 := h.sd1
  have k3 := h.sk3
  have k1 := h.sk1
  refine Fit.tup (n := 13671) (d := 3) (k := 4) ?_ (Nat.le_refl 4) (by decide)
  intro q hq
  simp only [List.mem_cons, List.not_mem_nil, or_false] at hq
  rcases hq with rfl | rfl | rfl | rfl
  · exact ⟨rfl, rfl, by decide +kernel, Nat.zero_le _, by decide +kernel⟩
  · exact (Fit.int (by omega)).mono (by decide) (by decide)
  · exact (Fit.int (by omega)).mono (by decide) (by decide)
  · refine Fit.tup (n := 1137) (d := 2) (k := 12) ?_ (by rw [List.length_map]; exact h.sl) (by decide)
    intro q hq
    obtain ⟨t, ht, rfl⟩ := List.mem_map.mp hq
    exact Fit_fstep (h.st t ht) h6 k3
theorem Fit_capsT {f : Fm} (h : f.Ok) {caps : List Int} (hc : FCap f caps) : Fit 187 1 (yT caps) :=
  Fit_tup (fun x hx => by have := hc.c x hx; omega) (by have := fcaps_len h hc; omega)
theorem py_FC (s : S) (f : Fm) (caps : List Int) : s.py (.lst [eF f, eT caps]) = some (.list [yF f, yT caps]) := by
  show (toPys _ [eF f, eT caps]).map PyData.list = _
  simp only [toPys, py_F, py_T]
  rfl
theorem Fit_FC {f : Fm} (h : f.Ok) {caps : List Int} (hc : FCap f caps) : Fit 16777216 64 (.list [yF f, yT caps]) := by
  refine Fit.mono (n := 120100) (d := 5) ?_ (by decide) (by decide)
  refine Fit.list (n := 60000) (d := 4) (k := 2) ?_ (Nat.le_refl 2) (by decide)
  intro q hq
  simp only [List.mem_cons, List.not_mem_nil, or_false] at hq
  rcases hq with rfl | rfl
  · exact Fit_farm h
  · exact (Fit_capsT h hc).mono (by decide) (by decide)
theorem Fit_fplace {f : Fm} (h : f.Ok) {caps : List Int} (hc : FCap f caps) {p : Pl} (hp : p ∈ placesF f caps) : Fit 381 2 (Datum.toD p) := by
  have hl := frow_len hc hp
  have hcl := fcaps_len h hc
  unfold placesF at hp
  rw [mem_places] at hp
  unfold within at hp
  simp only [Bool.and_eq_true, decide_eq_true_eq] at hp
  have h6 := h.sd6
  have hcc := hc.c
  refine Fit_pl (by omega) ?_ (by omega)
  have key : ∀ (xs cs : List Int), xs.length = cs.length → (∀ c ∈ cs, 0 ≤ c ∧ c ≤ 9) → (xs.zip cs).all (fun q => decide (0 ≤ q.1) && decide (q.1 ≤ q.2)) = true → ∀ x ∈ xs, x.natAbs < 10 ^ 20 := by
    intro xs
    induction xs with
    | nil => intro _ _ _ _ x hx; cases hx
    | cons y xs ih =>
      intro cs hl hcs ha x hx
      cases cs with
      | nil => cases hl
      | cons c cs =>
        rw [List.zip_cons_cons, List.all_cons, Bool.and_eq_true] at ha
        rcases List.mem_cons.mp hx with rfl | hx
        · have h1 := ha.1
          have h2 := hcs c List.mem_cons_self
          simp at h1
          omega
        · exact ih cs (by simpa using hl) (fun d hd => hcs d (List.mem_cons_of_mem _ hd)) ha.2 x hx
  exact key _ _ hp.2.1 hcc (by simpa using hp.2.2)
theorem Fit_fplaces {f : Fm} (h : f.Ok) {caps : List Int} (hc : FCap f caps) {ps : List Pl} (hp : ∀ p ∈ ps, p ∈ placesF f caps) (hl : ps.length ≤ 600) : Fit 229802 3 (.list (ps.map Datum.toD)) := by
  refine Fit.list (n := 381) (d := 2) (k := 600) ?_ (by rw [List.length_map]; exact hl) (by decide)
  intro q hq
  obtain ⟨p, h1, rfl⟩ := List.mem_map.mp hq
  exact Fit_fplace h hc (hp p h1)
theorem Fit_ranks {f : Fm} (h : f.Ok) {caps : List Int} (hc : FCap f caps) : Fit 229802 3 (.list ((rkF f caps).map yO)) := by
  have k := rkIs h hc
  have hP := fplaces_600 h hc
  have hl := rkF_len k
  refine Fit.list (n := 381) (d := 2) (k := 600) ?_ (by rw [List.length_map]; omega) (by decide)
  intro q hq
  obtain ⟨o, ho, rfl⟩ := List.mem_map.mp hq
  cases o with
  | none => exact Fit.none.mono (by decide) (by decide)
  | some r =>
    obtain ⟨i, hi, e⟩ := List.mem_iff_getElem.mp ho
    have := k.lt (i := i) (r := r) (by rw [List.getElem?_eq_getElem hi, e])
    rw [nx_len] at this
    exact (Fit.int (by omega)).mono (by decide) (by decide)
theorem py_bls (s : S) (a b : Bool) : s.py (.lst [.bl a, .bl b]) = some (.list [.bool a, .bool b]) := rfl
theorem Fit_bls (a b : Bool) : Fit 16777216 64 (.list [.bool a, .bool b]) := by
  refine Fit.mono (n := 16) (d := 1) (Fit.list (n := 5) (d := 0) (k := 2) ?_ (Nat.le_refl 2) (by decide)) (by decide) (by decide)
  intro q hq
  simp only [List.mem_cons, List.not_mem_nil, or_false] at hq
  rcases hq with rfl | rfl <;> exact Fit.bool _
end Mi.L76
set_option Elab.async false
set_option linter.all false
set_option maxRecDepth 100000
set_option maxHeartbeats 400000
namespace Mi.L76
open PySem PySem.W
open Mi.En (enc)
/-! ### capped runs -/
def goalF (f : Fm) (i : Int) : Int := match f.steps[i.toNat]? with
  | some t => t.g
  | none => 0
def startF (f : Fm) (i : Int) : Int := match f.steps[i.toNat]? with
  | some t => t.a
  | none => 0
structure WayOk (f : Fm) (way : List Int) : Prop where
  r : ∀ i ∈ way, 0 ≤ i ∧ i < f.steps.length
  l : ∀ q ∈ way.zip (way.drop 1), goalF f q.1 = startF f q.2
  n : way.length ≤ 5000
def alongF (f : Fm) (caps : List Int) : Pl → List Int → Option (List Pl)
  | p, [] => some [p]
  | p, i :: w => if letFB f p i = true then (alongF f caps (ledI f caps p i) w).map (p :: ·) else none
def eLs : Option (List Pl) → D
  | none => .non
  | some ps => .lst (ps.map enc)
theorem eLs_low {m : Nat} {o : Option (List Pl)} : below m (eLs o) = true := by
  cases o with
  | none => rfl
  | some ps => exact lst_low
theorem isNon_eLs {o : Option (List Pl)} : isNon (eLs o) = o.isNone := by cases o <;> rfl
theorem cut_from1 (ds : List D) : cutD ds (some 1) none = ds.drop 1 := by
  cases ds with
  | nil => rfl
  | cons d ds => simp [cutD, HT.sIx]
section
variable {wf n : Nat} {s : S}
theorem step_at {f : Fm} {i : Int} (h0 : 0 ≤ i) (h1 : i < f.steps.length) : ∃ t, f.steps[i.toNat]? = some t := ⟨_, List.getElem?_eq_getElem (by omega)⟩
theorem c_way_right (W : Wf s) {f : Fm} {way : List Int} (hw : WayOk f way) : callN tab wf (n + 3) 300 [eF f, eT way] s = .ok (.bl true) s := by
  refine call_W t_ways_way_is_right rfl W rfl ?_
  have hn := hw.n
  simp only [↓wS, ↓wE, ↓wC, ↓wI, wV, wX, wM, wY, wB, wK, wT, b_ways_way_is_right, wU]
  refine ⟨by omega, W_allT (fun i hi => ?_) ?_⟩
  · have := hw.r i hi
    simp only [↓wS, ↓wE, ↓wC, ↓wI, wV, wX, wM, wY, wB, wK, wF0, c_is_positionI W, this.1, this.2, decide_true]
  · have ez : zipD (way.map enc) ((way.map enc).drop 1) = (way.zip (way.drop 1)).map enc := by
      rw [← List.map_drop]
      exact zipD_en way (way.drop 1)
    simp only [↓wS, ↓wE, ↓wC, ↓wI, wV, wX, wM, wY, wB, wK, eT, cut_from1, ez]
    refine ⟨by rw [List.length_zip]; omega, W_allT (fun q hq => ?_) ?_⟩
    · have hq1 := hw.r _ (List.of_mem_zip hq).1
      have hq2 := hw.r _ (List.mem_of_mem_drop (List.of_mem_zip hq).2)
      obtain ⟨t1, e1⟩ := step_at hq1.1 hq1.2
      obtain ⟨t2, e2⟩ := step_at hq2.1 hq2.2
      have e3 := hw.l q hq
      unfold goalF startF at e3
      rw [e1, e2] at e3
      have e3 : t1.g = t2.a := e3
      simp only [↓wS, ↓wE, ↓wC, ↓wI, wV, wX, wM, wY, wB, wK, enc_pair, wF0, xFStep hq1.1 e1, xFStep hq2.1 e2, e3, decide_true]
    · simp only [↓wS, ↓wE, ↓wC, ↓wI, wV, wX, wM, wY, wB, wK, wO]
theorem c_check_way (W : Wf s) {f : Fm} {way : List Int} (hw : WayOk f way) : callN tab wf (n + 4) 301 [eF f, eT way] s = .ok .non s := by
  refine call_W t_ways_check_way rfl W rfl ?_
  have hn := hw.n
  have : ¬ (5000 : Int) < (way.length : Int) := by omega
  simp only [↓wS, ↓wE, ↓wC, ↓wI, wV, wX, wM, wY, wB, wK, wT, b_ways_check_way, c_way_right W hw, wU, this, decide_false, wO]
theorem c_frow_within (W : Wf s) {caps xs : List Int} (hl : xs.length = caps.length) (hc : caps.length ≤ 64) (hw : (xs.zip caps).all (fun q => decide (0 ≤ q.1) && decide (q.1 ≤ q.2)) = true) : callN tab wf (n + 3) 312 [eT caps, eT xs] s = .ok (.bl true) s := by
  refine call_W t_caps_row_is_within rfl W rfl ?_
  simp only [↓wS, ↓wE, ↓wC, ↓wI, wV, wX, wM, wY, wB, wK, wT, b_caps_row_is_within, wU, hl, decide_true, zipD_en]
  refine ⟨by rw [List.length_zip]; omega, W_allT (fun q hq => ?_) ?_⟩
  · have := List.all_eq_true.mp hw q hq
    rw [Bool.and_eq_true] at this
    simp only [↓wS, ↓wE, ↓wC, ↓wI, wV, wX, wM, wY, wB, wK, enc_pair, c_is_countI W, this.1, this.2]
  · simp only [↓wS, ↓wE, ↓wC, ↓wI, wV, wX, wM, wY, wB, wK, wO]
theorem c_fhere_right (W : Wf s) {f : Fm} (h : f.Ok) {caps : List Int} (hc : FCap f caps) {p : Pl} (hp : p ∈ placesF f caps) : callN tab wf (n + 4) 313 [eF f, eT caps, enc p] s = .ok (.bl true) s := by
  have hcl := fcaps_len h hc
  unfold placesF at hp
  rw [mem_places] at hp
  unfold within at hp
  simp only [Bool.and_eq_true, decide_eq_true_eq] at hp
  refine call_W t_caps_here_is_right rfl W rfl ?_
  simp only [↓wS, ↓wE, ↓wC, ↓wI, wV, wX, wM, wY, wB, wK, wT, b_caps_here_is_right, wU, wF0, c_is_positionI W, hp.1.1, hp.1.2, decide_true, c_frow_within W hp.2.1 (by omega) (by simpa using hp.2.2), wO]
theorem c_fcheck_here (W : Wf s) {f : Fm} (h : f.Ok) {caps : List Int} (hc : FCap f caps) {p : Pl} (hp : p ∈ placesF f caps) : callN tab wf (n + 8) 317 [eF f, eT caps, enc p] s = .ok .non s := by
  refine call_W t_caps_check_here rfl W rfl ?_
  simp only [↓wS, ↓wE, ↓wC, ↓wI, wV, wX, wM, wY, wB, wK, wT, b_caps_check_here, c_fcheck_caps W h hc, c_fhere_right W h hc hp, wO]
theorem along_at {f : Fm} {caps : List Int} {p : Pl} {i : Int} {w : List Int} : alongF f caps p (i :: w) = if letFB f p i = true then (alongF f caps (ledI f caps p i) w).map (p :: ·) else none := rfl
theorem c_capped_along (W : Wf s) {f : Fm} (h : f.Ok) {caps : List Int} (hc : FCap f caps) {p : Pl} (hp : p ∈ placesF f caps) {way : List Int} (hw : WayOk f way) : callN tab wf (n + 3) 310 [eF f, eT caps, enc p, eT way] s = .ok (eLs (alongF f caps p way)) s := by
  have hcl := fcaps_len h hc
  have hwn := hw.n
  refine call_W t_caps_capped_along rfl W eLs_low ?_
  simp only [↓wS, ↓wE, ↓wC, ↓wI, wV, wX, wM, wY, wB, wK, wT, b_caps_capped_along, wU]
  refine W_for (fun (pre : List Int) τ t => ∃ (fs : List Pl) (q : Pl) (o5 : Option D), fs.length = pre.length ∧ q ∈ placesF f caps ∧ (∀ post, way = pre ++ post → alongF f caps p way = (alongF f caps q post).map (fs ++ ·)) ∧ τ = [some (eF f), some (eT caps), some (enc p), some (eT way), some (.ref s.nx), o5] ∧ t = s.add (.lst false (fs.map enc ++ [enc q]))) ⟨[], p, none, rfl, hp, fun post hx => by rw [List.nil_append] at hx; rw [hx]; simp, rfl, rfl⟩ ?_ ?_
  · rintro pre i post τ t hx ⟨fs, q, o5, hl, hq, he, rfl, rfl⟩
    obtain ⟨i0, i1⟩ := hw.r i (by rw [hx]; simp)
    obtain ⟨st, hst⟩ := step_at i0 i1
    have hql : q.2.items.length ≤ 64 := by have := frow_len hc hq; omega
    have Wt : Wf (s.add (.lst false (fs.map enc ++ [enc q]))) := W.add (by
      have : (fs ++ [q]).map (enc : Pl → D) = fs.map enc ++ [enc q] := by simp
      rw [← this]
      exact lows_map _ _)
    have hpl : pre.length < way.length := by rw [hx]; simp
    simp only [↓wS, ↓wE, ↓wC, ↓wI, wV, wX, wM, wY, wB, wK, at_last]
    rw [c_fis_let Wt hql i0 hst]
    have e1 := he (i :: post) hx
    rw [along_at] at e1
    have elb : letFB f q i = stF st q := by unfold letFB; rw [hst]
    simp only [↓wS, ↓wE, ↓wC, ↓wI, wV, wX, wM, wY, wB, wK]
    cases hs : stF st q with
    | false =>
      rw [elb, hs, if_neg Bool.false_ne_true] at e1
      simp only [↓wS, ↓wE, ↓wC, ↓wI, wV, wX, wM, wY, wB, wK, Bool.not_false]
      rw [e1]
      exact ⟨rfl, Over.add (Over.refl s)⟩
    | true =>
      rw [elb, hs, if_pos rfl] at e1
      have hin := led_in h hc hq (List.mem_of_getElem? hst) hs
      simp only [↓wS, ↓wE, ↓wC, ↓wI, wV, wX, wM, wY, wB, wK, Bool.not_true, at_last]
      rw [c_capped_by Wt hql i0 hst]
      simp only [↓wS, ↓wE, ↓wC, ↓wI, wV, wX, wM, wY, wB, wK]
      refine ⟨by simp; omega, fs ++ [q], ledF caps q st, some (.int i), by simp [hl], hin, fun post' hx' => ?_, rfl, by simp⟩
      have : post' = post := by
        rw [hx, List.append_assoc] at hx'
        have := List.append_cancel_left hx'
        simpa using this.symm
      rw [this, e1, ledI_at hst, Option.map_map]
      congr 1
      funext z
      simp
  · rintro τ t ⟨fs, q, o5, hl, hq, he, rfl, rfl⟩
    simp only [↓wS, ↓wE, ↓wC, ↓wI, wV, wX, wM, wY, wB, wK]
    rw [he [] (by simp)]
    exact ⟨by simp [alongF, eLs], Over.add (Over.refl s)⟩
theorem c_capped_places (W : Wf s) {f : Fm} (h : f.Ok) {caps : List Int} (hc : FCap f caps) {p : Pl} (hp : p ∈ placesF f caps) {way : List Int} (hw : WayOk f way) : callN tab wf (n + 9) 322 [eF f, eT caps, enc p, eT way] s = .ok (eLs (alongF f caps p way)) s := by
  refine call_W t_caps_capped_places rfl W eLs_low ?_
  simp only [↓wS, ↓wE, ↓wC, ↓wI, wV, wX, wM, wY, wB, wK, wT, b_caps_capped_places, c_fcheck_here W h hc hp, c_check_way W hw, c_fcheck_few W hc hc.few, c_capped_along W h hc hp hw, wO]
theorem c_is_capped_run (W : Wf s) {f : Fm} (h : f.Ok) {caps : List Int} (hc : FCap f caps) {p : Pl} (hp : p ∈ placesF f caps) {way : List Int} (hw : WayOk f way) : callN tab wf (n + 10) 321 [eF f, eT caps, enc p, eT way] s = .ok (.bl (alongF f caps p way).isSome) s := by
  refine call_W t_caps_is_capped_run rfl W rfl ?_
  simp only [↓wS, ↓wE, ↓wC, ↓wI, wV, wX, wM, wY, wB, wK, wT, b_caps_is_capped_run, c_capped_places W h hc hp hw, isNon_eLs, wO]
  cases alongF f caps p way <;> rfl
theorem c_led_capped (W : Wf s) {f : Fm} (h : f.Ok) {caps : List Int} (hc : FCap f caps) {p : Pl} (hp : p ∈ placesF f caps) {i : Int} (h0 : 0 ≤ i) (h1 : i < f.steps.length) : callN tab wf (n + 9) 320 [eF f, eT caps, enc p, .int i] s = .ok (eP (ledO f caps p i)) s := by
  have hcl := fcaps_len h hc
  have hpl : p.2.items.length ≤ 64 := by have := frow_len hc hp; omega
  obtain ⟨st, hst⟩ := step_at h0 h1
  have elb : letFB f p i = stF st p := by unfold letFB; rw [hst]
  refine call_W t_caps_led_capped rfl W eP_low ?_
  simp only [↓wS, ↓wE, ↓wC, ↓wI, wV, wX, wM, wY, wB, wK, wT, b_caps_led_capped, c_fcheck_here W h hc hp, c_fcheck_step W h0 h1, c_fcheck_few W hc hc.few, c_fis_let W hpl h0 hst]
  unfold ledO
  rw [elb, ledI_at hst]
  cases hs : stF st p with
  | false => simp only [↓wS, ↓wE, ↓wC, ↓wI, wV, wX, wM, wY, wB, wK, wO]; rfl
  | true => simp only [↓wS, ↓wE, ↓wC, ↓wI, wV, wX, wM, wY, wB, wK, c_capped_by W hpl h0 hst, wO]; rfl
end
end Mi.L76
set_option Elab.async false
set_option linter.all false
set_option maxRecDepth 100000
set_option maxHeartbeats 400000
namespace Mi.L76
open PySem PySem.W
open Mi.En (enc)
/-! ### what is drawn -/
section
variable {wf n : Nat} {s : S} {p : Nat}
theorem ints_low' {m : Nat} {b : Bool} {xs : List Int} : belowC m (.lst b (xs.map enc)) = true := lows_map m xs
theorem mulOk_r {i j : Int} (h0 : -18446744073709551616 < j) (h1 : j < 18446744073709551616) : mulOk i j = true := by
  simp only [mulOk, Bool.or_eq_true, Bool.and_eq_true, decide_eq_true_eq]
  right
  omega
theorem mulOk_l {i j : Int} (h0 : -18446744073709551616 < i) (h1 : i < 18446744073709551616) : mulOk i j = true := by
  simp only [mulOk, Bool.or_eq_true, Bool.and_eq_true, decide_eq_true_eq]
  left
  omega
theorem c_draw (hp : PotAt s p) {m : Int} (h0 : 0 < m) (h1 : m < 1073741824) : (callN tab wf (n + 1) 38 [.ref p, .int m] s).W fun d t => ∃ v, d = .int v ∧ 0 ≤ v ∧ v < m ∧ Mv s p t := by
  refine call_Wex t__law_draw rfl ?_
  obtain ⟨a, b, e⟩ := hp.at_
  unfold pc at e
  simp only [↓wS, ↓wE, ↓wC, ↓wI, wV, wX, wM, wY, wB, wK, wT, b__law_draw, e]
  have g1 : ∀ x y, (s.put p (.lst false [.int x, .int y])).get p = some (.lst false [.int x, .int y]) := fun x y => get_put e
  refine brS_by (fun hq => ?_) (fun hq => ?_)
  · simp only [↓wS, ↓wE, ↓wC, ↓wI, wV, wX, wM, wY, wB, wK, e]
    exact ⟨⟨h0, h1⟩, s.put p (pc _ _), rfl, hp.wf.put pc_low, Over.refl _, rfl, _, rfl, Int.emod_nonneg _ (by omega), Int.emod_lt_of_pos _ h0, _, _, rfl⟩
  · simp only [↓wS, ↓wE, ↓wC, ↓wI, wV, wX, wM, wY, wB, wK, e]
    refine ⟨mulOk_r (by decide) (by decide), by decide, ?_⟩
    simp only [↓wS, ↓wE, ↓wC, ↓wI, wV, wX, wM, wY, wB, wK, e, g1]
    refine ⟨mulOk_r (by omega) (by omega), by decide, ⟨by decide, by decide⟩, h0, ?_⟩
    exact ⟨s.put p (pc _ _), rfl, hp.wf.put pc_low, Over.refl _, rfl, _, rfl, Int.emod_nonneg _ (by omega), Int.emod_lt_of_pos _ h0, _, _, rfl⟩
theorem c_pick (hp : PotAt s p) {ds : List D} (h0 : 0 < ds.length) (h1 : ds.length < 1073741824) (hb : ∀ d ∈ ds, below s.nx d = true) : (callN tab wf (n + 2) 39 [.ref p, .lst ds] s).W fun d t => d ∈ ds ∧ Mv s p t := by
  refine call_Wex t__law_pick rfl ?_
  simp only [↓wS, ↓wE, ↓wC, ↓wI, wV, wX, wM, wY, wB, wK, wT, b__law_pick]
  refine (c_draw hp (by omega) (by omega)).mono ?_
  rintro d t ⟨v, rfl, hv0, hv1, hm⟩
  have hlt : v.toNat < ds.length := by omega
  have hg : ds[v.toNat]? = some (ds[v.toNat]'hlt) := List.getElem?_eq_getElem hlt
  simp only [↓wS, ↓wE, ↓wC, ↓wI, wV, wX, wM, wY, wB, wK, at_of hv0, hg]
  have hmem := List.getElem_mem hlt
  have hnx := hm.nx
  exact ⟨t, hnx, (hp.mv hm).wf, Over.refl t, hb _ hmem, hmem, hm⟩
end
end Mi.L76
set_option Elab.async false
set_option linter.all false
set_option maxRecDepth 100000
set_option maxHeartbeats 400000
namespace Mi.L76
open PySem PySem.W
open Mi.En (enc)
/-! ### farms that are drawn -/
theorem eFS_low {m : Nat} {t : FSt} : below m (eFS t) = true := by
  show (true && (true && (true && (belows m (t.wants.map enc) && (belows m (t.effs.map enc) && (true && true)))))) = true
  rw [lows_map, lows_map]
  rfl
theorem eFSs_low {m : Nat} : ∀ {ts : List FSt}, belows m (ts.map eFS) = true
  | [] => rfl
  | t :: ts => by
    rw [List.map_cons, belows, eFS_low, eFSs_low]
    rfl
theorem eF_low {m : Nat} {f : Fm} : below m (eF f) = true := by
  show (true && (true && (true && (belows m (f.steps.map eFS) && true)))) = true
  rw [eFSs_low]
  rfl
theorem many_le : ∀ (caps : List Int) (sd B : Int), 0 ≤ sd → (∀ x ∈ caps, 0 ≤ x ∧ x ≤ B) → many sd caps ≤ sd * (B + 1) ^ caps.length
  | [], sd, B, h0, _ => by simp [many]
  | c :: caps, sd, B, h0, h => by
    have hc := h c List.mem_cons_self
    have h1 : 0 ≤ sd * (c + 1) := Int.mul_nonneg h0 (by omega)
    have ih := many_le caps (sd * (c + 1)) B h1 fun x hx => h x (List.mem_cons_of_mem _ hx)
    have e : many sd (c :: caps) = many (sd * (c + 1)) caps := rfl
    rw [e, List.length_cons, Int.pow_succ]
    refine Int.le_trans ih ?_
    have h2 : (0 : Int) ≤ (B + 1) ^ caps.length := Int.pow_nonneg (by omega)
    have h3 : sd * (c + 1) ≤ sd * (B + 1) := Int.mul_le_mul_of_nonneg_left (by omega) h0
    calc sd * (c + 1) * (B + 1) ^ caps.length ≤ sd * (B + 1) * (B + 1) ^ caps.length := Int.mul_le_mul_of_nonneg_right h3 h2
      _ = sd * ((B + 1) ^ caps.length * (B + 1)) := by rw [Int.mul_assoc, Int.mul_comm (B + 1)]
theorem zip_ok {xs ys : List Int} (h : ∀ q ∈ ys.zip xs, 0 ≤ q.2 ∧ q.2 ≤ 9 ∧ 0 ≤ q.2 + q.1) (hl : xs.length = ys.length) : (∀ x ∈ xs, 0 ≤ x ∧ x ≤ 9) ∧ ∀ q ∈ xs.zip ys, 0 ≤ q.1 + q.2 := by
  induction xs generalizing ys with
  | nil => exact ⟨(fun _ hx => by cases hx), (fun _ hq => by simp at hq)⟩
  | cons x xs ih =>
    cases ys with
    | nil => cases hl
    | cons y ys =>
      obtain ⟨h1, h2⟩ := ih (ys := ys) (fun q hq => h q (by rw [List.zip_cons_cons]; exact List.mem_cons_of_mem _ hq)) (by simpa using hl)
      have h0 := h (y, x) (by simp)
      refine ⟨fun z hz => ?_, fun q hq => ?_⟩
      · rcases List.mem_cons.mp hz with rfl | hz
        · exact ⟨h0.1, h0.2.1⟩
        · exact h1 z hz
      · rw [List.zip_cons_cons] at hq
        rcases List.mem_cons.mp hq with rfl | hq
        · exact h0.2.2
        · exact h2 q hq
section
variable {wf n : Nat} {s : S} {p : Nat}
theorem fmul2 {m : Int} : mulOk 2 m = true := mulOk_l (by decide) (by decide)
theorem c_law_step (hp : PotAt s p) {sd sk most : Int} (hsd : 1 ≤ sd ∧ sd ≤ 6) (hsk : 1 ≤ sk ∧ sk ≤ 3) (hm : 0 ≤ most ∧ most ≤ 8) : (callN tab wf (n + 3) 123 [.ref p, .int sd, .int sk, .int most] s).W fun d t => ∃ st : FSt, d = eFS st ∧ st.Ok sd sk ∧ Mv s p t := by
  refine call_Wex t__law_step rfl ?_
  simp only [↓wS, ↓wE, ↓wC, ↓wI, wV, wX, wM, wY, wB, wK, wT, b__law_step, rangeD_up]
  refine ⟨by omega, by rw [up_len]; omega, W_ex (fun t => Mv s p t) (fun x : Int => -most ≤ x ∧ x ≤ most) D.int (Mv.refl hp) (fun x hx t ht => ?_) (fun effs t hl hG ht => ?_)⟩
  · simp only [↓wS, ↓wE, ↓wC, ↓wI, wV, wX, wM, wY, wB, wK, fmul2, true_and]
    refine (c_draw (hp.mv ht) (by omega) (by omega)).mono ?_
    rintro d u ⟨v, rfl, hv0, hv1, hm2⟩
    simp only [↓wS, ↓wE, ↓wC, ↓wI, wV, wX, wM, wY, wB, wK]
    exact ⟨v - most, rfl, ht.trans hm2, by omega, by omega⟩
  have el : effs.map D.int = effs.map enc := rfl
  rw [up_len] at hl
  simp only [↓wS, ↓wE, ↓wC, ↓wI, wV, wX, wM, wY, wB, wK, el]
  refine ⟨by omega, W_exF (fun t => Mv s p t) (fun (x y : Int) => 0 ≤ y ∧ y ≤ 9 ∧ 0 ≤ y + x) D.int ht (fun x hx t ht => ?_) (fun wants t hl2 hG2 ht => ?_)⟩
  · have hx := hG x hx
    simp only [↓wS, ↓wE, ↓wC, ↓wI, wV, wX, wM, wY, wB, wK]
    refine (c_draw (hp.mv ht) (by omega) (by omega)).mono ?_
    rintro d u ⟨v, rfl, hv0, hv1, hm2⟩
    simp only [↓wS, ↓wE, ↓wC, ↓wI, wV, wX, wM, wY, wB, wK]
    refine ⟨_, rfl, ht.trans hm2, ?_⟩
    split <;> split <;> omega
  have el2 : wants.map D.int = wants.map enc := rfl
  simp only [↓wS, ↓wE, ↓wC, ↓wI, wV, wX, wM, wY, wB, wK, el2]
  refine (c_draw (hp.mv ht) (by omega) (by omega)).mono ?_
  rintro d t1 ⟨a, rfl, ha0, ha1, hm1⟩
  have hm1 := ht.trans hm1
  simp only [↓wS, ↓wE, ↓wC, ↓wI, wV, wX, wM, wY, wB, wK]
  refine (c_draw (hp.mv hm1) (by omega) (by omega)).mono ?_
  rintro d t2 ⟨g, rfl, hg0, hg1, hm2⟩
  have hm2 := hm1.trans hm2
  simp only [↓wS, ↓wE, ↓wC, ↓wI, wV, wX, wM, wY, wB, wK]
  refine (c_draw (hp.mv hm2) (by omega) (by omega)).mono ?_
  rintro d t3 ⟨y, rfl, hy0, hy1, hm3⟩
  have hm3 := hm2.trans hm3
  simp only [↓wS, ↓wE, ↓wC, ↓wI, wV, wX, wM, wY, wB, wK]
  obtain ⟨z1, z2⟩ := zip_ok hG2 hl2
  refine ⟨t3, hm3.nx, (hp.mv hm3).wf, Over.refl _, eFS_low (t := ⟨a, g, wants, effs, y⟩), ⟨a, g, wants, effs, y⟩, rfl, ?_, hm3⟩
  exact ⟨ha0, ha1, hg0, hg1, by show ((wants.length : Nat) : Int) = sk; omega, by show ((effs.length : Nat) : Int) = sk; omega, z1, fun x hx => by have := hG x hx; omega, z2, hy0, by show y ≤ 99; omega⟩
theorem c_law_farm (hp : PotAt s p) {sd sk k most : Int} (hsd : 1 ≤ sd ∧ sd ≤ 6) (hsk : 1 ≤ sk ∧ sk ≤ 3) (hk : 0 ≤ k ∧ k ≤ 12) (hm : 0 ≤ most ∧ most ≤ 8) : (callN tab wf (n + 4) 161 [.ref p, .int sd, .int sk, .int k, .int most] s).W fun d t => ∃ f : Fm, d = eF f ∧ f.Ok ∧ f.sd = sd ∧ f.sk = sk ∧ (f.steps.length : Int) = k ∧ Mv s p t := by
  refine call_Wex t__law_farm rfl ?_
  simp only [↓wS, ↓wE, ↓wC, ↓wI, wV, wX, wM, wY, wB, wK, wT, b__law_farm, rangeD_up]
  refine ⟨by omega, by rw [up_len]; omega, W_ex (fun t => Mv s p t) (fun st : FSt => st.Ok sd sk) eFS (Mv.refl hp) (fun x hx t ht => ?_) (fun sts t hl hG ht => ?_)⟩
  · simp only [↓wS, ↓wE, ↓wC, ↓wI, wV, wX, wM, wY, wB, wK]
    refine (c_law_step (hp.mv ht) hsd hsk hm).mono ?_
    rintro d u ⟨st, rfl, hst, hm2⟩
    simp only [↓wS, ↓wE, ↓wC, ↓wI, wV, wX, wM, wY, wB, wK]
    exact ⟨st, rfl, ht.trans hm2, hst⟩
  rw [up_len] at hl
  simp only [↓wS, ↓wE, ↓wC, ↓wI, wV, wX, wM, wY, wB, wK]
  refine ⟨t, ht.nx, (hp.mv ht).wf, Over.refl _, eF_low (f := ⟨sd, sk, sts⟩), ⟨sd, sk, sts⟩, rfl, ?_, rfl, rfl, by show ((sts.length : Nat) : Int) = k; omega, ht⟩
  exact ⟨hsd.1, hsd.2, hsk.1, hsk.2, by show sts.length ≤ 12; omega, hG⟩
theorem cut6a {a b c d e g : D} : cutD [a, b, c, d, e, g] none (some 1) = [a] := rfl
theorem cut6b {a b c d e g : D} : cutD [a, b, c, d, e, g] (some 3) none = [d, e, g] := rfl
theorem c_law_ring_farm (hp : PotAt s p) {sd sk k most : Int} (hsd : 1 ≤ sd ∧ sd ≤ 6) (hsk : 1 ≤ sk ∧ sk ≤ 3) (hk : 0 ≤ k ∧ k ≤ 6) (hm : 0 ≤ most ∧ most ≤ 8) : (callN tab wf (n + 4) 162 [.ref p, .int sd, .int sk, .int k, .int most] s).W fun d t => ∃ f : Fm, d = eF f ∧ f.Ok ∧ f.sd = sd ∧ f.sk = sk ∧ (f.steps.length : Int) = sd + k ∧ Mv s p t := by
  refine call_Wex t__law_ring_farm rfl ?_
  simp only [↓wS, ↓wE, ↓wC, ↓wI, wV, wX, wM, wY, wB, wK, wT, b__law_ring_farm, rangeD_up]
  refine ⟨by omega, ?_⟩
  refine W_for (fun (pre : List Int) τ t => ∃ (sts : List FSt) (u : S) (o6 o7 : Option D), Mv s p u ∧ t = u.add (.lst false (sts.map eFS)) ∧ sts.length = pre.length ∧ (∀ st ∈ sts, st.Ok sd sk) ∧ τ = [some (.ref p), some (.int sd), some (.int sk), some (.int k), some (.int most), some (.ref s.nx), o6, o7]) ⟨[], s, none, none, Mv.refl hp, rfl, rfl, (fun _ h => by cases h), rfl⟩ ?_ ?_
  · rintro pre x post τ t hx ⟨sts, u, o6, o7, hm1, rfl, hl, hG, rfl⟩
    have hxr := mem_up.mp (show x ∈ up 0 sd.toNat by rw [hx]; simp)
    have hpl : pre.length < 6 := by
      have := congrArg List.length hx
      rw [up_len] at this
      simp at this
      omega
    have enx : u.nx = s.nx := hm1.nx
    simp only [↓wS, ↓wE, ↓wC, ↓wI, wV, wX, wM, wY, wB, wK]
    refine (c_law_step ((hp.mv hm1).add (c := .lst false (sts.map eFS)) eFSs_low) hsd hsk hm).mono ?_
    rintro d t2 ⟨st, rfl, hst, hm2⟩
    obtain ⟨u2, hm3, rfl⟩ := Mv.add (hp.mv hm1) hm2
    have enx2 : u2.nx = s.nx := by rw [hm3.nx, enx]
    rw [← enx2]
    simp only [↓wS, ↓wE, ↓wC, ↓wI, wV, wX, wM, wY, wB, wK, eFS, cut6a, cut6b]
    refine ⟨by omega, by simp, by simp, by omega, ?_⟩
    have hmod : 0 ≤ (x + 1) % sd ∧ (x + 1) % sd < sd := ⟨Int.emod_nonneg _ (by omega), Int.emod_lt_of_pos _ (by omega)⟩
    refine ⟨sts ++ [⟨x, (x + 1) % sd, st.wants, st.effs, st.y⟩], u2, some (.int x), _, hm1.trans hm3, ?_, by simp [hl], ?_, rfl⟩
    · simp [eFS]
    · intro z hz
      rcases List.mem_append.mp hz with hz | hz
      · exact hG z hz
      · rw [List.mem_singleton.mp hz]
        exact ⟨hxr.1, by show x < sd; omega, hmod.1, hmod.2, hst.wl, hst.el, hst.wr, hst.er, hst.ow, hst.y0, hst.y1⟩
  · rintro τ t ⟨sts, u, o6, o7, hm1, rfl, hl, hG, rfl⟩
    have enx : u.nx = s.nx := hm1.nx
    rw [up_len] at hl
    rw [← enx]
    simp only [↓wS, ↓wE, ↓wC, ↓wI, wV, wX, wM, wY, wB, wK, rangeD_up]
    refine ⟨by omega, by rw [up_len]; omega, W_ex (fun t => ∃ u, Mv s p u ∧ t = u.add (.lst false (sts.map eFS))) (fun st : FSt => st.Ok sd sk) eFS ⟨u, hm1, rfl⟩ (fun x hx t ht => ?_) (fun sts2 t hl2 hG2 ht => ?_)⟩
    · obtain ⟨u1, hu1, rfl⟩ := ht
      simp only [↓wS, ↓wE, ↓wC, ↓wI, wV, wX, wM, wY, wB, wK]
      refine (c_law_step ((hp.mv hu1).add (c := .lst false (sts.map eFS)) eFSs_low) hsd hsk hm).mono ?_
      rintro d t2 ⟨st, rfl, hst, hm2⟩
      obtain ⟨u2, hm3, rfl⟩ := Mv.add (hp.mv hu1) hm2
      simp only [↓wS, ↓wE, ↓wC, ↓wI, wV, wX, wM, wY, wB, wK]
      exact ⟨st, rfl, ⟨u2, hu1.trans hm3, rfl⟩, hst⟩
    obtain ⟨u1, hu1, rfl⟩ := ht
    have enx1 : u1.nx = u.nx := hu1.nx.trans enx.symm
    rw [up_len] at hl2
    rw [← enx1]
    simp only [↓wS, ↓wE, ↓wC, ↓wI, wV, wX, wM, wY, wB, wK]
    refine ⟨by simp; omega, ?_⟩
    have ecat : sts.map eFS ++ sts2.map eFS = (sts ++ sts2).map eFS := by simp
    simp only [↓wS, ↓wE, ↓wC, ↓wI, wV, wX, wM, wY, wB, wK, ecat]
    refine ⟨u1, rfl, (hp.mv hu1).wf, Over.add (Over.refl _), eF_low (f := ⟨sd, sk, sts ++ sts2⟩), ⟨sd, sk, sts ++ sts2⟩, rfl, ?_, rfl, rfl, by show (((sts ++ sts2).length : Nat) : Int) = sd + k; rw [List.length_append]; omega, hu1⟩
    refine ⟨hsd.1, hsd.2, hsk.1, hsk.2, by show (sts ++ sts2).length ≤ 12; rw [List.length_append]; omega, fun st hst => ?_⟩
    rcases List.mem_append.mp hst with hst | hst
    · exact hG st hst
    · exact hG2 st hst
end
end Mi.L76
set_option Elab.async false
set_option linter.all false
set_option maxRecDepth 100000
set_option maxHeartbeats 1000000
namespace Mi.L76
open PySem PySem.W
open Mi.En (enc)
/-! ### a drawn capped run, asked -/
instance : Sh (Int × Pl) := ⟨by decide⟩
def endF (f : Fm) (caps : List Int) : Pl → List Int → Pl
  | p, [] => p
  | p, i :: w => endF f caps (ledI f caps p i) w
theorem end_snoc {f : Fm} {caps : List Int} {i : Int} : ∀ {w : List Int} {p : Pl}, endF f caps p (w ++ [i]) = ledI f caps (endF f caps p w) i
  | [], _ => rfl
  | _ :: w, _ => end_snoc (w := w)
theorem along_snoc {f : Fm} {caps : List Int} {i : Int} : ∀ {w : List Int} {p : Pl} {cs : List Pl}, alongF f caps p w = some cs → alongF f caps p (w ++ [i]) = if letFB f (endF f caps p w) i = true then some (cs ++ [ledI f caps (endF f caps p w) i]) else none
  | [], p, cs, h => by
    have h : some [p] = some cs := h
    cases h
    show (if letFB f p i = true then (some [ledI f caps p i]).map (p :: ·) else none) = _
    rfl
  | j :: w, p, cs, h => by
    rw [along_at] at h
    by_cases hj : letFB f p j = true
    · rw [if_pos hj] at h
      cases e : alongF f caps (ledI f caps p j) w with
      | none => rw [e] at h; cases h
      | some ds =>
        rw [e] at h
        have h : some (p :: ds) = some cs := h
        cases h
        rw [List.cons_append, along_at, if_pos hj, along_snoc e]
        show (if _ then _ else none : Option (List Pl)).map (p :: ·) = if letFB f (endF f caps (ledI f caps p j) w) i = true then _ else none
        split <;> rfl
    · rw [if_neg hj] at h
      cases h
theorem let_start {f : Fm} {p : Pl} {i : Int} (h : letFB f p i = true) : startF f i = p.1 := by
  unfold letFB at h
  unfold startF
  cases e : f.steps[i.toNat]? with
  | none => rw [e] at h; cases h
  | some t =>
    rw [e] at h
    have h : stF t p = true := h
    unfold stF at h
    simp only [Bool.and_eq_true, decide_eq_true_eq] at h
    exact h.1
theorem zip_snoc2 {α : Type} {a b : α} : ∀ {xs : List α}, (xs ++ [a] ++ [b]).zip ((xs ++ [a] ++ [b]).drop 1) = (xs ++ [a]).zip ((xs ++ [a]).drop 1) ++ [(a, b)]
  | [] => rfl
  | x :: xs => by
    have ih := zip_snoc2 (a := a) (b := b) (xs := xs)
    cases xs with
    | nil => rfl
    | cons y xs =>
      simp only [List.cons_append, List.drop_succ_cons, List.drop_zero, List.zip_cons_cons] at ih ⊢
      rw [ih]
theorem WayOk.snoc {f : Fm} {w : List Int} {i : Int} (h : WayOk f w) (i0 : 0 ≤ i) (i1 : i < f.steps.length) (hl : w.length < 5000) (hk : w = [] ∨ ∃ w' j, w = w' ++ [j] ∧ goalF f j = startF f i) : WayOk f (w ++ [i]) := by
  refine ⟨fun j hj => ?_, ?_, by rw [List.length_append]; simp; omega⟩
  · rcases List.mem_append.mp hj with hj | hj
    · exact h.r j hj
    · rw [List.mem_singleton.mp hj]; exact ⟨i0, i1⟩
  · rcases hk with rfl | ⟨w', j, rfl, e⟩
    · intro q hq
      simp at hq
    · rw [zip_snoc2]
      intro q hq
      rcases List.mem_append.mp hq with hq | hq
      · exact h.l q hq
      · rw [List.mem_singleton.mp hq]; exact e
theorem led_goal {f : Fm} {caps : List Int} {p : Pl} {i : Int} (i0 : 0 ≤ i) (i1 : i < f.steps.length) : (ledI f caps p i).1 = goalF f i := by
  obtain ⟨t, e⟩ := step_at i0 i1
  unfold goalF
  rw [ledI_at e, e]
  rfl
structure RunI (f : Fm) (caps : List Int) (here : Pl) (w : List Int) (cs : List Pl) : Prop where
  al : alongF f caps here w = some cs
  wok : WayOk f w
  at_ : endF f caps here w ∈ placesF f caps
  gl : w = [] ∨ ∃ w' j, w = w' ++ [j] ∧ goalF f j = (endF f caps here w).1
theorem RunI.step {f : Fm} (h : f.Ok) {caps : List Int} (hc : FCap f caps) {here : Pl} {w : List Int} {cs : List Pl} (r : RunI f caps here w cs) (hl : w.length < 5000) {i : Int} (hi : i ∈ letF f (endF f caps here w)) : RunI f caps here (w ++ [i]) (cs ++ [ledI f caps (endF f caps here w) i]) := by
  obtain ⟨t, h0, h1, h2⟩ := mem_letF.mp hi
  have hb : letFB f (endF f caps here w) i = true := by unfold letFB; rw [h1]; exact h2
  have hlt : i < f.steps.length := by have := (List.getElem?_eq_some_iff.mp h1).1; omega
  refine ⟨by rw [along_snoc r.al, if_pos hb], r.wok.snoc h0 hlt hl ?_, by rw [end_snoc]; exact led_mem h hc r.at_ hi, .inr ⟨w, i, rfl, by rw [end_snoc]; exact (led_goal h0 hlt).symm⟩⟩
  rcases r.gl with e | ⟨w', j, e1, e2⟩
  · exact .inl e
  · exact .inr ⟨w', j, e1, by rw [e2]; exact (let_start hb).symm⟩
theorem RunI.len {f : Fm} {caps : List Int} : ∀ {w : List Int} {p : Pl} {cs : List Pl}, alongF f caps p w = some cs → cs.length = w.length + 1
  | [], p, cs, h => by
    have h : some [p] = some cs := h
    cases h
    rfl
  | j :: w, p, cs, h => by
    rw [along_at] at h
    split at h
    · cases e : alongF f caps (ledI f caps p j) w with
      | none => rw [e] at h; cases h
      | some ds =>
        rw [e] at h
        have h : some (p :: ds) = some cs := h
        cases h
        rw [List.length_cons, RunI.len e, List.length_cons]
    · cases h
theorem along_in {f : Fm} (h : f.Ok) {caps : List Int} (hc : FCap f caps) : ∀ {w : List Int} {p : Pl} {cs : List Pl}, p ∈ placesF f caps → (∀ i ∈ w, 0 ≤ i ∧ i < f.steps.length) → alongF f caps p w = some cs → ∀ q ∈ cs, q ∈ placesF f caps
  | [], p, cs, hp, _, e => by
    have e : some [p] = some cs := e
    cases e
    intro q hq
    rw [List.mem_singleton.mp hq]; exact hp
  | j :: w, p, cs, hp, hw, e => by
    rw [along_at] at e
    by_cases hj : letFB f p j = true
    · rw [if_pos hj] at e
      cases e2 : alongF f caps (ledI f caps p j) w with
      | none => rw [e2] at e; cases e
      | some ds =>
        rw [e2] at e
        have e : some (p :: ds) = some cs := e
        cases e
        have hj2 := hw j List.mem_cons_self
        obtain ⟨t, ht⟩ := step_at hj2.1 hj2.2
        have hs : stF t p = true := by unfold letFB at hj; rw [ht] at hj; exact hj
        have hin := led_in h hc hp (List.mem_of_getElem? ht) hs
        rw [ledI_at ht] at e2
        intro q hq
        rcases List.mem_cons.mp hq with rfl | hq
        · exact hp
        · exact along_in h hc hin (fun i hi => hw i (List.mem_cons_of_mem _ hi)) e2 q hq
    · rw [if_neg hj] at e
      cases e
theorem py_run (s : S) (b : Bool) (cs : List Pl) : s.py (.lst [.bl b, .lst (cs.map enc)]) = some (.list [.bool b, .list (cs.map Datum.toD)]) := by
  show (toPys _ [.bl b, .lst (cs.map enc)]).map PyData.list = _
  have h : toPy (s.look 4) (.lst (cs.map enc)) = some (.list (cs.map Datum.toD)) := by
    show (toPys _ (cs.map enc)).map PyData.list = _
    rw [toPys_map]
    rfl
  simp only [toPys, h]
  rfl
def yP : Option Pl → PyData
  | none => .none
  | some p => Datum.toD p
theorem py_eP (lk : Nat → Option PyData) (o : Option Pl) : toPy lk (eP o) = some (yP o) := by
  cases o with
  | none => rfl
  | some p => exact En.py lk p
theorem py_dues (s : S) (o : Option Pl) : s.py (.lst [eP o, eP o]) = some (.list [yP o, yP o]) := by
  show (toPys _ [eP o, eP o]).map PyData.list = _
  simp only [toPys, py_eP]
  rfl
section
variable {wf n : Nat} {s : S} {p : Nat}
theorem c_law_run_right (hp : PotAt s p) {f : Fm} (h : f.Ok) {caps : List Int} (hc : FCap f caps) : (callN tab wf (n + 12) 168 [.ref p, eF f, eT caps, .lst ((placesF f caps).map enc)] s).W fun d t => d = .bl true ∧ Mv s p t := by
  have hP := fplaces_600 h hc
  have hcl := fcaps_len h hc
  have hne : 0 < (placesF f caps).length := by
    have e := fplaces_many h hc
    have h1 := h.sd1
    have : 1 ≤ many f.sd caps := by
      unfold many
      have key : ∀ (cs : List Int) (a : Int), 1 ≤ a → (∀ c ∈ cs, 0 ≤ c) → 1 ≤ cs.foldl (fun a c => a * (c + 1)) a := by
        intro cs
        induction cs with
        | nil => exact fun a ha _ => ha
        | cons c cs ih =>
          intro a ha hcs
          rw [List.foldl_cons]
          refine ih _ ?_ fun d hd => hcs d (List.mem_cons_of_mem _ hd)
          have := hcs c List.mem_cons_self
          calc (1 : Int) = 1 * 1 := rfl
            _ ≤ a * (c + 1) := Int.mul_le_mul ha (by omega) (by decide) (by omega)
      exact key caps f.sd h1 fun c hc' => (hc.c c hc').1
    omega
  refine call_Wex t__law_run_right rfl ?_
  simp only [↓wS, ↓wE, ↓wC, ↓wI, wV, wX, wM, wY, wB, wK, wT, b__law_run_right]
  refine (c_pick (n := n + 9) hp (by rw [List.length_map]; omega) (by rw [List.length_map]; omega) (fun d hd => by obtain ⟨q, _, rfl⟩ := List.mem_map.mp hd; exact En.low _ q)).mono ?_
  rintro d t ⟨hd, hm⟩
  obtain ⟨here, hhere, rfl⟩ := List.mem_map.mp hd
  have hpt := hp.mv hm
  have enx : t.nx = s.nx := hm.nx
  simp only [↓wS, ↓wE, ↓wC, ↓wI, wV, wX, wM, wY, wB, wK]
  have hpt2 : PotAt ((t.add (.lst false [])).add (.lst false [enc here])) p := (hpt.add rfl).add (by show (below _ (enc here) && true) = true; rw [En.low]; rfl)
  refine (c_draw (n := n + 10) hpt2 (by decide) (by decide)).mono ?_
  rintro d t2 ⟨k, rfl, hk0, hk1, hm2⟩
  obtain ⟨u, hm3, rfl⟩ := Mv.add (hpt.add rfl) hm2
  obtain ⟨u2, hm4, rfl⟩ := Mv.add hpt hm3
  have hm := hm.trans hm4
  clear hm2 hm3 hm4 hpt2
  have enx2 : u2.nx = s.nx := hm.nx
  have enx3 : t.nx = u2.nx := by omega
  rw [enx3]
  simp only [↓wS, ↓wE, ↓wC, ↓wI, wV, wX, wM, wY, wB, wK, rangeD_up]
  refine ⟨by omega, ?_⟩
  refine W_for (fun (pre : List Int) τ t => ∃ (w : List Int) (cs : List Pl) (v : S) (o8 o9 o10 : Option D), RunI f caps here w cs ∧ w.length ≤ pre.length ∧ Mv s p v ∧ t = (v.add (.lst false (w.map enc))).add (.lst false (cs.map enc)) ∧ τ = [some (.ref p), some (eF f), some (eT caps), some (.lst ((placesF f caps).map enc)), some (enc here), some (.ref s.nx), some (.ref (s.nx + 1)), some (enc (endF f caps here w)), o8, o9, o10, none, none, none, none]) ⟨[], [here], u2, none, none, none, ⟨rfl, ⟨(fun _ hj => by cases hj), (fun _ hj => by simp at hj), Nat.zero_le _⟩, hhere, .inl rfl⟩, Nat.le_refl _, hm, rfl, by rw [enx2]; rfl⟩ ?_ ?_
  · rintro pre x post τ t3 hx ⟨w, cs, v, o8, o9, o10, r, hwl, hmv, rfl, rfl⟩
    have hprel : pre.length < 6 := by
      have := congrArg List.length hx
      rw [up_len] at this
      simp at this
      omega
    have hcsl := RunI.len r.al
    have hpl := frow_len hc r.at_
    have hnl := next_len h (caps := caps) (p := endF f caps here w)
    have hpv := hp.mv hmv
    have hlow1 : belowC v.nx (.lst false (w.map enc)) = true := lows_map _ _
    have hpv1 : PotAt ((v.add (.lst false (w.map enc))).add (.lst false (cs.map enc))) p := (hpv.add hlow1).add (lows_map _ _)
    have env : v.nx = s.nx := hmv.nx
    rw [← env]
    simp only [↓wS, ↓wE, ↓wC, ↓wI, wV, wX, wM, wY, wB, wK, c_law_next hpv1.wf h (show (endF f caps here w).2.items.length ≤ 64 by omega) (show caps.length ≤ 64 by omega)]
    have eemp : (nextL f caps (endF f caps here w)).isEmpty = false ∨ (nextL f caps (endF f caps here w)).isEmpty = true := by cases (nextL f caps (endF f caps here w)).isEmpty <;> simp
    rcases eemp with he | he
    · have hlen : 0 < (nextL f caps (endF f caps here w)).length := by
        cases e : nextL f caps (endF f caps here w) with
        | nil => rw [e] at he; cases he
        | cons => simp
      simp only [↓wS, ↓wE, ↓wC, ↓wI, wV, wX, wM, wY, wB, wK, he, Bool.not_false]
      refine (c_pick (n := n + 9) hpv1 (by rw [List.length_map]; omega) (by rw [List.length_map]; omega) (fun d hd => by obtain ⟨q, _, rfl⟩ := List.mem_map.mp hd; exact En.low _ q)).mono ?_
      rintro d t4 ⟨hd, hm5⟩
      obtain ⟨⟨i, q⟩, hq, rfl⟩ := List.mem_map.mp hd
      obtain ⟨u4, hm6, rfl⟩ := Mv.add (hpv.add hlow1) hm5
      obtain ⟨u5, hm7, rfl⟩ := Mv.add hpv hm6
      have env5 : u5.nx = v.nx := hm7.nx
      rw [← env5]
      have hiq : i ∈ letF f (endF f caps here w) ∧ q = ledI f caps (endF f caps here w) i := by
        unfold nextL at hq
        obtain ⟨j, hj, e⟩ := List.mem_map.mp hq
        cases e
        exact ⟨hj, rfl⟩
      obtain ⟨hi, rfl⟩ := hiq
      have ep : (enc ((i, ledI f caps (endF f caps here w) i) : Int × Pl) : D) = .tup [.int i, enc (ledI f caps (endF f caps here w) i)] := rfl
      simp only [↓wS, ↓wE, ↓wC, ↓wI, wV, wX, wM, wY, wB, wK, ep]
      refine ⟨by omega, by omega, ?_⟩
      have r' := r.step h hc (by omega) hi
      refine ⟨w ++ [i], _, u5, some (.int x), some (.lst ((nextL f caps (endF f caps here w)).map enc)), some (.int i), r', by simp; omega, hmv.trans hm7, ?_, ?_⟩
      · simp [e_int]
      · rw [end_snoc]
    · simp only [↓wS, ↓wE, ↓wC, ↓wI, wV, wX, wM, wY, wB, wK, he, Bool.not_true]
      exact ⟨w, cs, v, some (.int x), some (.lst ((nextL f caps (endF f caps here w)).map enc)), o10, r, by simp; omega, hmv, rfl, rfl⟩
  · rintro τ t3 ⟨w, cs, v, o8, o9, o10, r, hwl, hmv, rfl, rfl⟩
    rw [up_len] at hwl
    have hpv := hp.mv hmv
    have env : v.nx = s.nx := hmv.nx
    have hcsl := RunI.len r.al
    rw [← env]
    simp only [↓wS, ↓wE, ↓wC, ↓wI, wV, wX, wM, wY, wB, wK]
    have hU : Up s p ((v.add (.lst true (w.map enc))).add (.lst true (cs.map enc))) := (((Up.refl hp).mv hp hmv).add (show belowC _ (.lst true (w.map enc)) = true from lows_map _ _)).add (show belowC _ (.lst true (cs.map enc)) = true from lows_map _ _)
    generalize (v.add (.lst true (w.map enc))).add (.lst true (cs.map enc)) = x at hU
    have hcin := along_in h hc hhere r.wok.r r.al
    have Frun : Fit 16777216 64 (.list [.bool true, .list (cs.map Datum.toD)]) := by
      refine Fit.mono (n := 500000) (d := 4) ?_ (by decide) (by decide)
      refine Fit.list (n := 229802) (d := 3) (k := 2) ?_ (Nat.le_refl 2) (by decide)
      intro q hq
      simp only [List.mem_cons, List.not_mem_nil, or_false] at hq
      rcases hq with rfl | rfl
      · exact (Fit.bool _).mono (by decide) (by decide)
      · exact Fit_fplaces h hc hcin (by omega)
    have ewd : (.tup (w.map enc) : D) = eT w := rfl
    have eal : (alongF f caps here w).isSome = true := by rw [r.al]; rfl
    have eal2 : eLs (alongF f caps here w) = .lst (cs.map enc) := by rw [r.al]; rfl
    have hwo := r.wok
    simp only [↓wS, ↓wE, ↓wC, ↓wI, wV, wX, wM, wY, wB, wK, ewd, c_is_capped_run hU.wf h hc hhere hwo, c_capped_places hU.wf h hc hhere hwo, eal, eal2, v_repr (py_run _ true cs) Frun, c_neself Frun.ok, wF0]
    refine brS_by (fun h0 => ?_) (fun h0 => ?_)
    · simp only [↓wS, ↓wE, ↓wC, ↓wI, wV, wX, wM, wY, wB, wK]
      rw [env]
      exact Up.done (d := .bl true) (P := fun _ u => Mv s p u) hp hU rfl fun u hu => hu
    · have hsl : 0 < (f.steps.length : Int) := by
        have : ¬ ((f.steps.length : Int) = 0) := by simpa using h0
        omega
      have hsl2 := h.sl
      simp only [↓wS, ↓wE, ↓wC, ↓wI, wV, wX, wM, wY, wB, wK, wF0]
      refine (c_draw (n := n + 10) (hU.pot hp) hsl (by omega)).mono ?_
      rintro d x2 ⟨j, rfl, hj0, hj1, hmx⟩
      have hU := hU.mv hp hmx
      clear hmx
      have hhl := frow_len hc hhere
      have hel := frow_len hc r.at_
      have Fd : Fit 16777216 64 (.list [yP (ledO f caps here j), yP (ledO f caps here j)]) := by
        refine Fit.mono (n := 1000) (d := 3) ?_ (by decide) (by decide)
        refine Fit.list (n := 381) (d := 2) (k := 2) ?_ (Nat.le_refl 2) (by decide)
        have one : Fit 381 2 (yP (ledO f caps here j)) := by
          unfold ledO
          split
          · rename_i hb
            have : j ∈ letF f here := by
              unfold letF
              rw [List.mem_filter, mem_up]
              exact ⟨by omega, hb⟩
            exact Fit_fplace h hc (led_mem h hc hhere this)
          · exact Fit.none.mono (by decide) (by decide)
        intro q hq
        simp only [List.mem_cons, List.not_mem_nil, or_false] at hq
        rcases hq with rfl | rfl <;> exact one
      obtain ⟨tj, htj⟩ := step_at hj0 hj1
      simp only [↓wS, ↓wE, ↓wC, ↓wI, wV, wX, wM, wY, wB, wK, wP, c_law_led hU.wf (show here.2.items.length ≤ 64 by omega) (show caps.length ≤ 64 by omega) hj0 hj1, c_led_capped hU.wf h hc hhere hj0 hj1, v_repr (py_dues _ (ledO f caps here j)) Fd, c_neself Fd.ok, c_law_led hU.wf (show (endF f caps here w).2.items.length ≤ 64 by omega) (show caps.length ≤ 64 by omega) hj0 hj1, wF0, wU, xFStep hj0 htj, isNon_eP]
      refine ⟨by simp; omega, brS_by (fun hb => ?_) (fun hb => ?_)⟩
      · simp only [↓wS, ↓wE, ↓wC, ↓wI, wV, wX, wM, wY, wB, wK]
        rw [env]
        exact Up.done (d := .bl true) (P := fun _ u => Mv s p u) hp hU rfl fun u hu => hu
      · have hb : tj.a = (endF f caps here w).1 := by simpa using hb
        have est : startF f j = (endF f caps here w).1 := by unfold startF; rw [htj]; exact hb
        have hwo2 : WayOk f (w ++ [j]) := hwo.snoc hj0 hj1 (by omega) (by
          rcases r.gl with e | ⟨w', i, e1, e2⟩
          · exact .inl e
          · exact .inr ⟨w', i, e1, by rw [e2, est]⟩)
        have ewd2 : (.tup (w.map enc ++ [.int j]) : D) = eT (w ++ [j]) := by simp [eT, e_int]
        have e1 : (alongF f caps here (w ++ [j])).isSome = !(ledO f caps (endF f caps here w) j).isNone := by
          rw [along_snoc r.al]
          unfold ledO
          split <;> rfl
        have Fb : ∀ b : Bool, Fit 16777216 64 (.bool b) := fun b => (Fit.bool b).mono (by decide) (by decide)
        have pyb : ∀ (s : S) (b : Bool), s.py (.bl b) = some (.bool b) := fun _ _ => rfl
        simp only [↓wS, ↓wE, ↓wC, ↓wI, wV, wX, wM, wY, wB, wK, wP, ewd2, c_is_capped_run hU.wf h hc hhere hwo2, e1, v_repr (pyb _ _) (Fb _), isNon_eP, c_eqs (Fb _).ok (Fb _).ok, decide_true]
        rw [env]
        exact Up.done (d := .bl true) (P := fun _ u => Mv s p u) hp hU rfl fun u hu => hu
end
end Mi.L76
set_option Elab.async false
set_option linter.all false
set_option maxRecDepth 100000
set_option maxHeartbeats 1000000
namespace Mi.L76
open PySem PySem.W
open Mi.En (enc)
/-! ### one farm, asked -/
def rq : Option Int → Rq
  | none => .non
  | some i => .int i
def rqP : Option Int → Rq
  | none => .non
  | some i => .int (i + 1)
def rqA (v : Int) (q : Int × Option Int) : Rq := if q.1 = v then (match q.2 with | none => .int 5 | some _ => .non) else rq q.2
def rqB (v : Int) (q : Int × Option Int) : Rq := if q.1 = v then (match q.2 with | none => .non | some i => .int (i + 3)) else rq q.2
def rqC (v : Int) (q : Int × Option Int) : Rq := if q.1 = v then .bl true else rq q.2
theorem rq_d (o : Option Int) : (rq o).d = eO o := by cases o <;> rfl
theorem rqs_d (os : List (Option Int)) : (os.map rq).map Rq.d = os.map eO := by rw [List.map_map]; exact List.map_congr_left fun o _ => rq_d o
/-- the values that are judged -/
def vsJ (rk : List (Option Int)) (v : Int) : List (Option (Bool × List Rq)) :=
  [some (false, rk.map rq), some (true, rk.map rq), some (false, (rk.map rq).dropLast), some (false, rk.map rq ++ [.int 0]), some (false, rk.map rqP), none, some (false, List.replicate rk.length (.int 0)), some (false, List.replicate rk.length .non),
    some (false, (enumL 0 rk).map (rqA v)), some (false, (enumL 0 rk).map (rqB v)), some (false, (enumL 0 rk).map (rqC v))]
theorem vsJ_ok {rk : List (Option Int)} {v : Int} (h : rk.length ≤ 600) : ∀ x ∈ vsJ rk v, VqOk x := by
  intro x hx
  simp only [vsJ, List.mem_cons, List.not_mem_nil, or_false] at hx
  rcases hx with rfl | rfl | rfl | rfl | rfl | rfl | rfl | rfl | rfl | rfl | rfl <;> first
    | trivial
    | (show List.length _ ≤ 10000; simp [enumL_len]; omega)
theorem flat_rep {α : Type} (a : α) : ∀ n : Nat, (List.replicate n [a]).flatten = List.replicate n a
  | 0 => rfl
  | n + 1 => by rw [List.replicate_succ, List.flatten_cons, flat_rep a n]; rfl
theorem cut_m1 (ds : List D) : cutD ds none (some (-1)) = ds.dropLast := by
  unfold cutD HT.sIx
  have e : (-1 + (ds.length : Int)).toNat = ds.length - 1 := by omega
  simp [List.dropLast_eq_take, e]
theorem Vq_low {m : Nat} {x : Option (Bool × List Rq)} : below m (Vq x) = true := by
  have hq : ∀ qs : List Rq, belows m (qs.map Rq.d) = true := fun qs => by
    induction qs with
    | nil => rfl
    | cons q qs ih => rw [List.map_cons, belows, ih]; cases q <;> rfl
  cases x with
  | none => rfl
  | some z =>
    obtain ⟨tl, qs⟩ := z
    cases tl
    · exact hq qs
    · exact hq qs
theorem Vqs_low {m : Nat} : ∀ {xs : List (Option (Bool × List Rq))}, belows m (xs.map Vq) = true
  | [] => rfl
  | x :: xs => by rw [List.map_cons, belows, Vq_low, Vqs_low]; rfl
noncomputable def yTold (f : Fm) (caps : List Int) : PyData := .list [.list ((placesF f caps).map Datum.toD), .list ((rkF f caps).map yO), .list ((lastF f caps).map Datum.toD), .list ((rkF f caps).map yO)]
theorem py_pls (lk : Nat → Option PyData) (ps : List Pl) : toPy lk (.lst (ps.map enc)) = some (.list (ps.map Datum.toD)) := by
  show (toPys lk (ps.map enc)).map PyData.list = _
  rw [toPys_map]
  rfl
theorem py_rks (lk : Nat → Option PyData) (os : List (Option Int)) : toPy lk (.lst (os.map eO)) = some (.list (os.map yO)) := by
  show (toPys lk (os.map eO)).map PyData.list = _
  rw [pys_O]
  rfl
theorem look_rk {s : S} {n : Nat} {b : Bool} {os : List (Option Int)} {k : Nat} (h : s.get n = some (.lst b (os.map eO))) : toPy (s.look (k + 1)) (.ref n) = some (.list (os.map yO)) := by
  show s.look (k + 1) n = _
  rw [look_lst h, pys_O]
  rfl
theorem py_told {s : S} {f : Fm} {caps : List Int} {a b : Nat} {z1 z2 : Bool} (h1 : s.get a = some (.lst z1 ((rkF f caps).map eO))) (h2 : s.get b = some (.lst z2 ((rkF f caps).map eO))) : s.py (.lst [.lst ((placesF f caps).map enc), .ref a, .lst ((lastF f caps).map enc), .ref b]) = some (yTold f caps) := by
  show (toPys _ [.lst ((placesF f caps).map enc), .ref a, .lst ((lastF f caps).map enc), .ref b]).map PyData.list = _
  simp only [toPys, py_pls, look_rk (k := 3) h1, look_rk (k := 3) h2]
  rfl
theorem py_own (s : S) (f : Fm) (caps : List Int) : s.py (.lst [.lst ((placesF f caps).map enc), .lst ((rkF f caps).map eO), .lst ((lastF f caps).map enc), .lst ((rkF f caps).map eO)]) = some (yTold f caps) := by
  show (toPys _ [.lst ((placesF f caps).map enc), .lst ((rkF f caps).map eO), .lst ((lastF f caps).map enc), .lst ((rkF f caps).map eO)]).map PyData.list = _
  simp only [toPys, py_pls, py_rks]
  rfl
theorem last_sub {f : Fm} {caps : List Int} : ∀ p ∈ lastF f caps, p ∈ placesF f caps := fun p hp => (mem_last.mp hp).1
theorem last_len {f : Fm} (h : f.Ok) {caps : List Int} (hc : FCap f caps) : (lastF f caps).length ≤ 600 := Nat.le_trans (List.length_filter_le _ _) (fplaces_600 h hc)
theorem Fit_told {f : Fm} (h : f.Ok) {caps : List Int} (hc : FCap f caps) : Fit 16777216 64 (yTold f caps) := by
  refine Fit.mono (n := 1000000) (d := 4) ?_ (by decide) (by decide)
  refine Fit.list (n := 229802) (d := 3) (k := 4) ?_ (Nat.le_refl 4) (by decide)
  intro q hq
  simp only [List.mem_cons, List.not_mem_nil, or_false] at hq
  rcases hq with rfl | rfl | rfl | rfl
  · exact Fit_fplaces h hc (fun p hp => hp) (fplaces_600 h hc)
  · exact Fit_ranks h hc
  · exact Fit_fplaces h hc last_sub (last_len h hc)
  · exact Fit_ranks h hc
section
variable {wf n : Nat} {s : S} {p : Nat}
theorem c_law_one_right (hp : PotAt s p) (hwf : 602 ≤ wf) {f : Fm} (h : f.Ok) {caps : List Int} (hc : FCap f caps) : (callN tab wf (n + 13) 169 [.ref p, eF f, eT caps] s).W fun d t => d = .bl true ∧ Mv s p t := by
  have hP := fplaces_600 h hc
  have k := rkIs h hc
  have hrl := rkF_len k
  have hne : 0 < (placesF f caps).length := by
    have e := fplaces_many h hc
    have h1 := h.sd1
    have : 1 ≤ many f.sd caps := by
      unfold many
      have key : ∀ (cs : List Int) (a : Int), 1 ≤ a → (∀ c ∈ cs, 0 ≤ c) → 1 ≤ cs.foldl (fun a c => a * (c + 1)) a := by
        intro cs
        induction cs with
        | nil => exact fun a ha _ => ha
        | cons c cs ih =>
          intro a ha hcs
          rw [List.foldl_cons]
          refine ih _ ?_ fun d hd => hcs d (List.mem_cons_of_mem _ hd)
          have := hcs c List.mem_cons_self
          calc (1 : Int) = 1 * 1 := rfl
            _ ≤ a * (c + 1) := Int.mul_le_mul ha (by omega) (by decide) (by omega)
      exact key caps f.sd h1 fun c hc' => (hc.c c hc').1
    omega
  refine call_Wex t__law_one_right rfl ?_
  simp only [↓wS, ↓wE, ↓wC, ↓wI, wV, wX, wM, wY, wB, wK, wT, b__law_one_right, v_repr (py_FC _ f caps) (Fit_FC h hc), c_law_places hp.wf h hc, c_law_ranks hp.wf h hc, zipD_eO]
  refine ⟨by rw [List.length_zip]; omega, W_filter (fun q : Pl × Option Int => q.2.isNone) (fun q : Pl × Option Int => enc q.1) (fun q hq => ?_) ?_⟩
  · simp only [↓wS, ↓wE, ↓wC, ↓wI, wV, wX, wM, wY, wB, wK, wN]
    exact brT_if rfl fun _ => by simp only [↓wS, ↓wE, ↓wC, ↓wI, wV, wX, wM, wY, wB, wK]
  have elast : (((placesF f caps).zip (rkF f caps)).filter fun q => q.2.isNone).map (fun q : Pl × Option Int => (enc q.1 : D)) = (lastF f caps).map enc := by
    rw [zip_fun (rkF f caps) none (placesF f caps) (rkF_len k).symm (places_nodup _ _), List.filter_map, List.map_map]
    rfl
  have W1 : Wf (s.add (.lst false ((rkF f caps).map eO))) := hp.wf.add eO_low
  have g1 : ((s.add (.lst false ((rkF f caps).map eO))).add (.lst false ((rkF f caps).map eO))).get s.nx = some (.lst false ((rkF f caps).map eO)) := get_add2
  have g2 : ((s.add (.lst false ((rkF f caps).map eO))).add (.lst false ((rkF f caps).map eO))).get (s.nx + 1) = some (.lst false ((rkF f caps).map eO)) := get_nx1
  simp only [↓wS, ↓wE, ↓wC, ↓wI, wV, wX, wM, wY, wB, wK, elast, wP, c_fplaces hp.wf h hc, c_ranks hp.wf hwf h hc, c_lasting W1 hwf h hc, c_ranks W1 hwf h hc, v_repr (py_told g1 g2) (Fit_told h hc), v_repr (py_own _ f caps) (Fit_told h hc), c_neself (Fit_told h hc).ok, List.length_map]
  refine ⟨by omega, ?_⟩
  have non_low : ∀ (m : Nat) (ds : List D), belows m ds = true → belows m (ds ++ [D.non]) = true := fun m ds h => by
    induction ds with
    | nil => rfl
    | cons d ds ih => simp only [List.cons_append, belows, Bool.and_eq_true] at h ⊢; exact ⟨h.1, ih h.2⟩
  have Ux := ((Up.refl hp).add (c := .lst false ((rkF f caps).map eO ++ [D.non])) (show belows _ _ = true from non_low _ _ eO_low)).add (c := .lst false ((rkF f caps).map eO)) (show belows _ _ = true from eO_low)
  generalize (s.add (.lst false ((rkF f caps).map eO ++ [D.non]))).add (.lst false ((rkF f caps).map eO)) = x at Ux
  have g3 : (x.add (.lst false ((rkF f caps).map eO))).get x.nx = some (.lst false ((rkF f caps).map eO)) := get_add
  have F1 : Fit 16777216 64 (.list ((rkF f caps).map yO)) := (Fit_ranks h hc).mono (by decide) (by decide)
  have g4 : (x.add (.lst false ((rkF f caps).map eO))).py (.ref x.nx) = some (.list ((rkF f caps).map yO)) := look_rk (k := 3) g3
  have g5 : ∀ s : S, s.py (.lst ((rkF f caps).map eO)) = some (.list ((rkF f caps).map yO)) := fun s => py_rks _ _
  simp only [↓wS, ↓wE, ↓wC, ↓wI, wV, wX, wM, wY, wB, wK, c_ranks Ux.wf hwf h hc, v_repr g4 F1, v_repr (g5 _) F1, c_neself F1.ok, List.length_map]
  have Uy := Ux.add (c := .lst false ((rkF f caps).map eO)) (show belows _ _ = true from eO_low)
  generalize x.add (.lst false ((rkF f caps).map eO)) = y at Uy
  refine (c_draw (n := n + 11) (Uy.pot hp) (by omega) (by omega)).mono ?_
  rintro d y2 ⟨v, rfl, hv0, hv1, hm⟩
  have Uz := Uy.mv hp hm
  clear hm
  simp only [↓wS, ↓wE, ↓wC, ↓wI, wV, wX, wM, wY, wB, wK, cut_m1]
  refine ⟨by simp; omega, by omega, W_map (fun o : Option Int => (rqP o).d) (fun o _ => ?_) ?_⟩
  · cases o with
    | none => simp only [↓wS, ↓wE, ↓wC, ↓wI, wV, wX, wM, wY, wB, wK, eO_n, wN]; exact ⟨rfl, rfl⟩
    | some i => simp only [↓wS, ↓wE, ↓wC, ↓wI, wV, wX, wM, wY, wB, wK, eO_s, wN]; exact ⟨rfl, rfl⟩
  simp only [↓wS, ↓wE, ↓wC, ↓wI, wV, wX, wM, wY, wB, wK, b_mulL, List.length_map, flat_rep, Int.toNat_natCast]
  have hsz : ∀ d : D, [d].length * (rkF f caps).length ≤ sizeLine := fun d => by
    rw [PySem.sizeLine_eq]
    simp
    omega
  refine ⟨⟨⟨by omega, by omega⟩, hsz _⟩, ⟨⟨by omega, by omega⟩, hsz _⟩, by simp, ?_⟩
  simp only [↓wS, ↓wE, ↓wC, ↓wI, wV, wX, wM, wY, wB, wK, enumD_map, List.length_map, enumL_len]
  have one : ∀ (e : ME) (g : Int × Option Int → Rq) (τ : Tau) (t : S), (∀ (i : Int) (o : Option Int), (evE (cc tab wf (n + 12)) e ((τ.set 12 (some (.int i))).set 14 (some (eO o))) t).W (isQ (g (i, o)).d t)) → ∀ q : Int × Option Int, (tnC (cc tab wf (n + 12)) (MG.tp (MGs.cons (MG.nm 12) (MGs.cons (MG.nm 14) MGs.nil))) MO.no e τ (.tup [.int q.1, eO q.2]) t).W (isQ (some (g q).d) t) := by
    intro e g τ t h q
    simp only [↓wS, ↓wE, ↓wC, ↓wI, wV, wX, wM, wY, wB, wK]
    exact (h q.1 q.2).mono (by rintro a u ⟨rfl, rfl⟩; exact ⟨rfl, rfl⟩)
  refine ⟨by omega, W_map (fun q : Int × Option Int => (rqA v q).d) (fun q _ => one _ (rqA v) _ _ (fun i o => ?_) q) ?_⟩
  · by_cases hi : i = v
    · cases o with
      | none =>
        rw [show rqA v (i, none) = .int 5 from if_pos hi]
        simp only [↓wS, ↓wE, ↓wC, ↓wI, wV, wX, wM, wY, wB, wK, hi, decide_true, Bool.not_true, eO_n, wN]
        exact ⟨rfl, rfl⟩
      | some k =>
        rw [show rqA v (i, some k) = .non from if_pos hi]
        simp only [↓wS, ↓wE, ↓wC, ↓wI, wV, wX, wM, wY, wB, wK, hi, decide_true, Bool.not_true, eO_s, wN]
        exact ⟨rfl, rfl⟩
    · rw [show rqA v (i, o) = rq o from if_neg hi, rq_d]
      simp only [↓wS, ↓wE, ↓wC, ↓wI, wV, wX, wM, wY, wB, wK, hi, decide_false, Bool.not_false]
  simp only [↓wS, ↓wE, ↓wC, ↓wI, wV, wX, wM, wY, wB, wK]
  refine ⟨by simp, ?_⟩
  simp only [↓wS, ↓wE, ↓wC, ↓wI, wV, wX, wM, wY, wB, wK, enumD_map, List.length_map, enumL_len]
  refine ⟨by omega, W_map (fun q : Int × Option Int => (rqB v q).d) (fun q _ => one _ (rqB v) _ _ (fun i o => ?_) q) ?_⟩
  · by_cases hi : i = v
    · cases o with
      | none =>
        rw [show rqB v (i, none) = .non from if_pos hi]
        simp only [↓wS, ↓wE, ↓wC, ↓wI, wV, wX, wM, wY, wB, wK, hi, decide_true, Bool.not_true, eO_n, wN]
        exact ⟨rfl, rfl⟩
      | some k =>
        rw [show rqB v (i, some k) = .int (k + 3) from if_pos hi]
        simp only [↓wS, ↓wE, ↓wC, ↓wI, wV, wX, wM, wY, wB, wK, hi, decide_true, Bool.not_true, eO_s, wN]
        exact ⟨rfl, rfl⟩
    · rw [show rqB v (i, o) = rq o from if_neg hi, rq_d]
      simp only [↓wS, ↓wE, ↓wC, ↓wI, wV, wX, wM, wY, wB, wK, hi, decide_false, Bool.not_false]
  simp only [↓wS, ↓wE, ↓wC, ↓wI, wV, wX, wM, wY, wB, wK]
  refine ⟨by simp, ?_⟩
  simp only [↓wS, ↓wE, ↓wC, ↓wI, wV, wX, wM, wY, wB, wK, enumD_map, List.length_map, enumL_len]
  refine ⟨by omega, W_map (fun q : Int × Option Int => (rqC v q).d) (fun q _ => one _ (rqC v) _ _ (fun i o => ?_) q) ?_⟩
  · by_cases hi : i = v
    · rw [show rqC v (i, o) = .bl true from if_pos hi]
      simp only [↓wS, ↓wE, ↓wC, ↓wI, wV, wX, wM, wY, wB, wK, hi, decide_true, Bool.not_true]
      exact ⟨rfl, rfl⟩
    · rw [show rqC v (i, o) = rq o from if_neg hi, rq_d]
      simp only [↓wS, ↓wE, ↓wC, ↓wI, wV, wX, wM, wY, wB, wK, hi, decide_false, Bool.not_false]
  simp only [↓wS, ↓wE, ↓wC, ↓wI, wV, wX, wM, wY, wB, wK]
  refine ⟨by simp, ?_⟩
  have eall : ([D.lst ((rkF f caps).map eO), D.tup ((rkF f caps).map eO), D.lst ((rkF f caps).map eO).dropLast, D.lst ((rkF f caps).map eO ++ [D.int 0]), D.lst ((rkF f caps).map fun o => (rqP o).d), D.non, D.lst (List.replicate (rkF f caps).length (D.int 0)), D.lst (List.replicate (rkF f caps).length D.non)] ++ [D.lst ((enumL 0 (rkF f caps)).map fun q => (rqA v q).d)] ++ [D.lst ((enumL 0 (rkF f caps)).map fun q => (rqB v q).d)] ++ [D.lst ((enumL 0 (rkF f caps)).map fun q => (rqC v q).d)]) = (vsJ (rkF f caps) v).map Vq := by
    simp only [vsJ, List.map_cons, List.map_nil, Vq, seqD, List.cons_append, List.nil_append, Bool.false_eq_true, if_false, if_true, ← List.map_dropLast, List.map_append, rqs_d, List.map_map, List.map_replicate]
    rw [show (Rq.d ∘ rq) = eO from funext rq_d]
    rfl
  rw [eall]
  have Uc := Uz.add (c := .lst true ((vsJ (rkF f caps) v).map Vq)) (show belows _ _ = true from Vqs_low)
  generalize y2.add (.lst true ((vsJ (rkF f caps) v).map Vq)) = z at Uc
  have hvs := vsJ_ok (rk := rkF f caps) (v := v) (by omega)
  refine W_for (fun (pre : List (Option (Bool × List Rq))) τ t => ∃ o10 o11 : Option D, t = z ∧ τ = [some (.ref p), some (eF f), some (eT caps), some (.str (PyData.list [yF f, yT caps]).shown), some (.lst ((placesF f caps).map enc)), some (.lst ((rkF f caps).map eO)), some (.lst ((lastF f caps).map enc)), some (.lst [.lst ((placesF f caps).map enc), .ref s.nx, .lst ((lastF f caps).map enc), .ref (s.nx + 1)]), some (.int v), some (.lst ((vsJ (rkF f caps) v).map Vq)), o10, o11, none, none, none]) ⟨none, none, rfl, rfl⟩ ?_ ?_
  · rintro pre x post τ t hx ⟨o10, o11, rfl, rfl⟩
    have hok := hvs x (by rw [hx]; simp)
    simp only [↓wS, ↓wE, ↓wC, ↓wI, wV, wX, wM, wY, wB, wK, wP, c_law_are_ranks Uc.wf h hc hok, c_are_ranks Uc.wf h hc hok, v_repr (py_bls _ _ _) (Fit_bls _ _), c_neself (Fit_bls _ _).ok]
    exact ⟨some (Vq x), some (.bl (jV f caps x)), rfl⟩
  · rintro τ t ⟨o10, o11, rfl, rfl⟩
    simp only [↓wS, ↓wE, ↓wC, ↓wI, wV, wX, wM, wY, wB, wK]
    refine (c_law_run_right (n := n) (Uc.pot hp) h hc).mono ?_
    rintro d u ⟨rfl, hmu⟩
    have Uu := Uc.mv hp hmu
    simp only [↓wS, ↓wE, ↓wC, ↓wI, wV, wX, wM, wY, wB, wK, v_repr (py_FC _ f caps) (Fit_FC h hc), c_eqs (Fit_FC h hc).ok (Fit_FC h hc).ok, decide_true]
    exact Up.done (d := .bl true) (P := fun _ u => Mv s p u) hp Uu rfl fun u hu => hu
end
end Mi.L76
set_option Elab.async false
set_option linter.all false
set_option maxRecDepth 100000
set_option maxHeartbeats 1000000
namespace Mi.L76
open PySem PySem.W
open Mi.En (enc)
/-! ### the law's pot; what it draws -/
section
variable {wf n : Nat} {s : S} {p : Nat}
theorem c_pot (W : Wf s) {ns : List Int} {k : Int} (h0 : 0 ≤ k) (h1 : k ≤ 100) : ∃ a b, callN tab wf (n + 1) 37 [.inp ns, .int k] s = .ok (.ref s.nx) (s.add (pc a b)) := by
  have hex : ∃ a b, evSs (cc tab wf n) b__law_pot (startT 4 [.inp ns, .int k]) s = .rt (.ref s.nx) (s.add (pc a b)) := by
    have hW : (evSs (cc tab wf n) b__law_pot (startT 4 [.inp ns, .int k]) s).W noT (fun d t => ∃ a b, d = .ref s.nx ∧ t = s.add (pc a b)) noT noT := by
      simp only [↓wS, ↓wE, ↓wC, ↓wI, wV, wX, wM, wY, wB, wK, wT, b__law_pot]
      refine brE_by (fun hq => ?_) (fun hq => ?_)
      · have hq := of_decide_eq_true hq
        have hlt : k.toNat < ns.length := by omega
        simp only [↓wS, ↓wE, ↓wC, ↓wI, wV, wX, wM, wY, wB, wK, at_of h0, List.getElem?_eq_getElem hlt]
        exact ⟨by decide, mulOk_r (by decide) (by decide), mulOk_r (by omega) (by omega), by decide, ⟨⟨by decide, by decide⟩, by decide⟩, _, _, rfl⟩
      · simp only [↓wS, ↓wE, ↓wC, ↓wI, wV, wX, wM, wY, wB, wK]
        refine ⟨mulOk_r (by omega) (by omega), ?_⟩
        exact ⟨by decide, mulOk_r (by decide) (by decide), mulOk_r (by omega) (by omega), by decide, ⟨⟨by decide, by decide⟩, by decide⟩, _, _, rfl⟩
    cases e : evSs (cc tab wf n) b__law_pot (startT 4 [.inp ns, .int k]) s with
    | rt d t => rw [e] at hW; obtain ⟨a, b, rfl, rfl⟩ := hW; exact ⟨a, b, rfl⟩
    | nx => rw [e] at hW; exact hW.elim
    | ct => rw [e] at hW; exact hW.elim
    | bk => rw [e] at hW; exact hW.elim
    | exc => rw [e] at hW; exact hW.elim
    | stuck => rw [e] at hW; exact hW.elim
  obtain ⟨a, b, e⟩ := hex
  exact ⟨a, b, call_cell t__law_pot rfl W e (Over.add (Over.refl s)) (Nat.le_refl _) get_add pc_low⟩
end
end Mi.L76
set_option Elab.async false
set_option linter.all false
set_option maxRecDepth 100000
set_option maxHeartbeats 1000000
namespace Mi.L76
open PySem PySem.W
open Mi.En (enc)
def fuel : Nat := 700
def depth : Nat := 15
section
variable {wf n : Nat} {s : S} {p : Nat}
theorem c_law_drawn (hp : PotAt s p) {way : Int} : (callN tab wf (n + 5) 167 [.ref p, .int way] s).W fun d t => ∃ (f : Fm) (caps : List Int), d = .tup [eF f, eT caps] ∧ f.Ok ∧ FCap f caps ∧ Mv s p t := by
  refine call_Wex t__law_drawn rfl ?_
  simp only [↓wS, ↓wE, ↓wC, ↓wI, wV, wX, wM, wY, wB, wK, wT, b__law_drawn]
  refine (c_draw (n := n + 3) hp (by decide) (by decide)).mono ?_
  rintro d t ⟨sd, rfl, hsd0, hsd1, hm⟩
  simp only [↓wS, ↓wE, ↓wC, ↓wI, wV, wX, wM, wY, wB, wK]
  refine (c_draw (n := n + 3) (hp.mv hm) (by decide) (by decide)).mono ?_
  rintro d t2 ⟨sk, rfl, hsk0, hsk1, hm2⟩
  have hm := hm.trans hm2
  clear hm2
  have fin : ∀ (f : Fm) (t : S), f.Ok → f.sd = 1 + sd → f.sk = 1 + sk → Mv s p t → (evSs (cc tab wf (n + 4)) (.cons (.ret (.tup (.cons (.slot 4) (.cons (.bi .tuple (.cons (.comp false (.nm 5) (.rng (.slot 3)) .no (.call 38 (.cons (.slot 0) (.cons (.cst (.int 5)) .nil))) [5]) .nil)) .nil)))) .nil) [some (.ref p), some (.int way), some (.int (1 + sd)), some (.int (1 + sk)), some (eF f), none] t).W (fun _ t => ∃ u, u.nx = s.nx ∧ Wf u ∧ Over u t ∧ ∃ (f : Fm) (caps : List Int), D.non = .tup [eF f, eT caps] ∧ f.Ok ∧ FCap f caps ∧ Mv s p u) (fun d t => ∃ u, u.nx = s.nx ∧ Wf u ∧ Over u t ∧ below s.nx d = true ∧ ∃ (f : Fm) (caps : List Int), d = .tup [eF f, eT caps] ∧ f.Ok ∧ FCap f caps ∧ Mv s p u) noT noT := by
    intro f t hf e1 e2 hm
    simp only [↓wS, ↓wE, ↓wC, ↓wI, wV, wX, wM, wY, wB, wK, rangeD_up]
    refine ⟨by omega, by rw [up_len]; omega, W_ex (fun t => Mv s p t) (fun x : Int => 0 ≤ x ∧ x ≤ 4) D.int hm (fun x hx t ht => ?_) (fun caps t hl hG ht => ?_)⟩
    · simp only [↓wS, ↓wE, ↓wC, ↓wI, wV, wX, wM, wY, wB, wK]
      refine (c_draw (n := n + 3) (hp.mv ht) (by decide) (by decide)).mono ?_
      rintro d u ⟨v, rfl, hv0, hv1, hm2⟩
      simp only [↓wS, ↓wE, ↓wC, ↓wI, wV, wX, wM, wY, wB, wK]
      exact ⟨v, rfl, ht.trans hm2, by omega, by omega⟩
    rw [up_len] at hl
    have el : (.tup (caps.map D.int) : D) = eT caps := rfl
    simp only [↓wS, ↓wE, ↓wC, ↓wI, wV, wX, wM, wY, wB, wK, el]
    refine ⟨t, ht.nx, (hp.mv ht).wf, Over.refl _, by show (below _ (eF f) && (below _ (eT caps) && true)) = true; rw [eF_low, eT_low]; rfl, f, caps, rfl, hf, ⟨by omega, fun x hx => by have := hG x hx; omega, ?_⟩, ht⟩
    have h1 := many_le caps f.sd 4 (by omega) hG
    have h2 : caps.length ≤ 2 := by omega
    have h3 : ((4 : Int) + 1) ^ caps.length ≤ 25 := by
      rcases Nat.lt_or_ge caps.length 1 with h | h
      · have : caps.length = 0 := by omega
        rw [this]; decide
      · rcases Nat.lt_or_ge caps.length 2 with h' | h'
        · have : caps.length = 1 := by omega
          rw [this]; decide
        · have : caps.length = 2 := by omega
          rw [this]; decide
    have h4 : f.sd * ((4 : Int) + 1) ^ caps.length ≤ f.sd * 25 := Int.mul_le_mul_of_nonneg_left h3 (by omega)
    omega
  simp only [↓wS, ↓wE, ↓wC, ↓wI, wV, wX, wM, wY, wB, wK]
  refine brS_by (fun hw => ?_) (fun hw => ?_)
  · simp only [↓wS, ↓wE, ↓wC, ↓wI, wV, wX, wM, wY, wB, wK]
    refine (c_draw (n := n + 3) (hp.mv hm) (by decide) (by decide)).mono ?_
    rintro d t3 ⟨k, rfl, hk0, hk1, hm3⟩
    have hm3 := hm.trans hm3
    simp only [↓wS, ↓wE, ↓wC, ↓wI, wV, wX, wM, wY, wB, wK]
    refine (c_law_farm (n := n) (hp.mv hm3) (by omega) (by omega) (by omega) (by omega)).mono ?_
    rintro d t4 ⟨f, rfl, hf, e1, e2, _, hm4⟩
    simp only [↓wS, ↓wE, ↓wC, ↓wI, wV, wX, wM, wY, wB, wK]
    have := fin f t4 hf e1 e2 (hm3.trans hm4)
    simp only [↓wS, ↓wE, ↓wC, ↓wI, wV, wX, wM, wY, wB, wK] at this
    exact this
  · simp only [↓wS, ↓wE, ↓wC, ↓wI, wV, wX, wM, wY, wB, wK]
    refine (c_draw (n := n + 3) (hp.mv hm) (by decide) (by decide)).mono ?_
    rintro d t3 ⟨k, rfl, hk0, hk1, hm3⟩
    have hm3 := hm.trans hm3
    simp only [↓wS, ↓wE, ↓wC, ↓wI, wV, wX, wM, wY, wB, wK]
    refine (c_law_ring_farm (n := n) (hp.mv hm3) (by omega) (by omega) (by omega) (by omega)).mono ?_
    rintro d t4 ⟨f, rfl, hf, e1, e2, _, hm4⟩
    simp only [↓wS, ↓wE, ↓wC, ↓wI, wV, wX, wM, wY, wB, wK]
    have := fin f t4 hf e1 e2 (hm3.trans hm4)
    simp only [↓wS, ↓wE, ↓wC, ↓wI, wV, wX, wM, wY, wB, wK] at this
    exact this
end
theorem pot2 {S0 : S} {a b c d : Int} (W : Wf S0) : PotAt ((S0.add (pc a b)).add (pc c d)) S0.nx ∧ PotAt ((S0.add (pc a b)).add (pc c d)) (S0.nx + 1) :=
  ⟨⟨(W.add pc_low).add pc_low, a, b, get_add2⟩, ⟨(W.add pc_low).add pc_low, c, d, get_nx1⟩⟩
theorem mv0 {S0 t : S} {a b c d : Int} (m : Mv ((S0.add (pc a b)).add (pc c d)) S0.nx t) : ∃ a' b', t = (S0.add (pc a' b')).add (pc c d) := by
  obtain ⟨a', b', rfl⟩ := m
  exact ⟨a', b', put_add2⟩
theorem mv1 {S0 t : S} {a b c d : Int} (m : Mv ((S0.add (pc a b)).add (pc c d)) (S0.nx + 1) t) : ∃ c' d', t = (S0.add (pc a b)).add (pc c' d') := by
  obtain ⟨c', d', rfl⟩ := m
  exact ⟨c', d', put_nx1⟩
theorem law_true : ∀ ns : List Int, ns.length ≤ 63 → ∃ s, callN tab fuel depth 53 [.inp ns] ⟨0, []⟩ = .ok (.bl true) s := by
  intro ns hns
  have W0 : Wf (⟨0, []⟩ : S) := fun p hp => by cases hp
  refine ⟨⟨0, []⟩, call_W (n := 14) t_law rfl W0 rfl ?_⟩
  obtain ⟨a, b, e1⟩ := c_pot (n := 13) (wf := fuel) W0 (ns := ns) (k := 0) (by decide) (by decide)
  obtain ⟨c, d, e2⟩ := c_pot (n := 13) (wf := fuel) (W0.add (c := pc a b) pc_low) (ns := ns) (k := 1) (by decide) (by decide)
  simp only [↓wS, ↓wE, ↓wC, ↓wI, wV, wX, wM, wY, wB, wK, wT, b_law, e1, e2, rangeD_up]
  refine ⟨by decide, ?_⟩
  refine W_for (fun (pre : List Int) τ t => ∃ (a b c d : Int) (o3 o4 o5 : Option D), t = ((⟨0, []⟩ : S).add (pc a b)).add (pc c d) ∧ τ = [some (.inp ns), some (.ref 0), some (.ref 1), o3, o4, o5]) ⟨a, b, c, d, none, none, none, rfl, rfl⟩ ?_ ?_
  · rintro pre x post τ t hx ⟨a, b, c, d, o3, o4, o5, rfl, rfl⟩
    have hP := pot2 (a := a) (b := b) (c := c) (d := d) W0
    simp only [↓wS, ↓wE, ↓wC, ↓wI, wV, wX, wM, wY, wB, wK]
    refine ⟨by decide, ?_⟩
    refine (c_law_drawn (n := 9) (wf := fuel) hP.1).mono ?_
    rintro r t2 ⟨f, caps, rfl, hf, hc, hm⟩
    obtain ⟨a', b', rfl⟩ := mv0 hm
    have hP2 := pot2 (a := a') (b := b') (c := c) (d := d) W0
    simp only [↓wS, ↓wE, ↓wC, ↓wI, wV, wX, wM, wY, wB, wK]
    refine (c_law_one_right (n := 1) (wf := fuel) hP2.2 (by decide) hf hc).mono ?_
    rintro r t3 ⟨rfl, hm2⟩
    obtain ⟨c', d', rfl⟩ := mv1 hm2
    simp only [↓wS, ↓wE, ↓wC, ↓wI, wV, wX, wM, wY, wB, wK]
    exact ⟨a', b', c', d', some (.int x), some (eF f), some (eT caps), rfl, rfl⟩
  · rintro τ t ⟨a, b, c, d, o3, o4, o5, rfl, rfl⟩
    simp only [↓wS, ↓wE, ↓wC, ↓wI, wV, wX, wM, wY, wB, wK]
    exact Over.add (Over.add (Over.refl _))
end Mi.L76
set_option Elab.async false
set_option linter.all false
set_option maxRecDepth 100000
set_option maxHeartbeats 0
open PySem PySem.W PySem.Calls PyProof.Rows
theorem PySem.Challenge.cw_neverspent_k76_whole_places_that_last_holds : PySem.Challenge.rw_neverspent_k76_whole_places_that_last.Holds := by
  w_on; o_law
  refine HandSHeadRun.head_any (r := OpenLaw.row PySem.Challenge.rw_neverspent_k76_whole_places_that_last) (q := view (OpenLaw.row PySem.Challenge.rw_neverspent_k76_whole_places_that_last).prog [76]) (H := Mi.L76.hk) (ob := Mi.L76.ob) (M := 6000) (loose := Mi.L76.names) (d := HandSHeadRun.topDef (OpenLaw.row PySem.Challenge.rw_neverspent_k76_whole_places_that_last).prog 76) (kwd := []) Mi.L76.ob_eq
    (by kernel_rfl) (fun s => by kernel_rfl) Mi.L76.run (by kernel_rfl) (by kernel_rfl) (by kernel_rfl) (by rfl) (by first | assumption | decide +kernel) (by decide +kernel) ⟨rfl, rfl, rfl, rfl, rfl, by decide +kernel⟩ ?hw ?hc
  case hw => w_witness2
  case hc =>
    refine Mi.walk_law (l := PySem.Challenge.rw_neverspent_k76_whole_places_that_last) (n := 63) (k := Mi.L76.depth) (wf := Mi.L76.fuel) (fl := 53) (tab := Mi.L76.tab) (x := "script") rfl (by decide) (by kernel_rfl) ⟨rfl, by decide, by decide⟩ ?F Mi.L76.law_true
    intro w mg fa h Y G hmg0
    obtain ⟨K, KX, c⟩ := Y
    have hmg : mg ("law" : PySem.Str) = some (.ref fa) := by
      have e : (HandSHeadRun.topDef (OpenLaw.row PySem.Challenge.rw_neverspent_k76_whole_places_that_last).prog 76).name = ("law" : PySem.Str) := by kernel_rfl
      rw [← e]
      exact hmg0
    exact Mi.Lw.walkF (l := Mi.L76.lw) (d := Mi.L76.d_law) (wf := Mi.L76.fuel) Mi.L76.lw_ok rfl rfl KX G hmg c
