import PyProof.Rows.All
import Wide.All
import OpenK.AllK
import Wide.FinOn
import HandS.ForMost
import KE.KDictKeyed
import KE.SortData
import HandS.Exc
import HandS.ExcOwn
import HandS.TupAny
import HandS.Conv
import HandS.Deep
import HandS.IsInst
import HandS.Style
import HandS.Zip
import KE.LtData
import KE.KDictSum
import HandS.RaiseMore
import KE.DataMinMax
import KE.GoesEnum
import KE.GoesMore
import PyProof.EnumStmt
import PyProof.EnumMake
import HandS.Iter
import HandS.CallLocal
import HandS.Defaults
import HandS.DictComp
import HandS.Lambda
import HandS.HeadHook1
import HandS.HeadHook2
import HandS.HeadEnd
import HandS.Ends
import HandS.HeadHook3
import HandS.HeadHook4
import HandS.Codes
import KE.Datum
import KE.DatumOrd
import HandS.Head0
import HandS.Head1
import HandS.Head2
import PyProof.ReprText
import PySem.Challenge.RW_neverspent_k86_whole_goals_made_sure_of
set_option Elab.async false
set_option linter.all false
set_option maxRecDepth 100000
/-! Mi: a small language of values and steps. -/
namespace Mi
open PySem

inductive Ty where
  | non | bl | int | str | tup | lst | dic
  deriving DecidableEq
def Ty.nm : Ty → String
  | .non => "NoneType"
  | .bl => "bool"
  | .int => "int"
  | .str => "str"
  | .tup => "tuple"
  | .lst => "list"
  | .dic => "dict"
/-- is an a a b -/
def Ty.isa (a b : Ty) : Bool := decide (a = b) || (decide (a = .bl) && decide (b = .int))

inductive D where
  | non | bl (b : Bool) | int (i : Int) | str (x : Str)
  | tup (ds : List D) | lst (ds : List D) | dic (ks vs : List D)
  | ref (n : Nat) | fn (i : Nat) | ty (t : Ty)
  /-- the law's own argument -/
  | inp (ns : List Int)
instance : Inhabited D := ⟨.non⟩

/-- what stands in a cell; fz: it changes no more -/
inductive Cl where
  | lst (fz : Bool) (ds : List D)
  | dic (fz : Bool) (ks vs : List D)
structure S where
  nx : Nat
  cs : List (Nat × Cl)
def S.get (s : S) (n : Nat) : Option Cl := s.cs.lookup n
def putC (n : Nat) (c : Cl) : List (Nat × Cl) → List (Nat × Cl)
  | [] => []
  | (k, d) :: r => if k = n then (k, c) :: r else (k, d) :: putC n c r
def S.put (s : S) (n : Nat) (c : Cl) : S := { s with cs := putC n c s.cs }
def S.add (s : S) (c : Cl) : S := { nx := s.nx + 1, cs := (s.nx, c) :: s.cs }

structure Exc where
  c : Nat
  fl : List (Str × D)

inductive Res (α : Type) where
  | ok (a : α) (s : S)
  | exc (x : Exc) (s : S)
  | stuck
@[reducible] def Res.bind {α β : Type} (r : Res α) (f : α → S → Res β) : Res β := match r with
  | .ok a s => f a s
  | .exc x s => .exc x s
  | .stuck => .stuck

mutual
def toPy (lk : Nat → Option PyData) : D → Option PyData
  | .non => some .none
  | .bl b => some (.bool b)
  | .int i => some (.int i)
  | .str x => some (.str x)
  | .tup ds => (toPys lk ds).map .tuple
  | .lst ds => (toPys lk ds).map .list
  | .ref n => lk n
  | .dic _ _ => none
  | .fn _ => none
  | .ty _ => none
  | .inp _ => none
def toPys (lk : Nat → Option PyData) : List D → Option (List PyData)
  | [] => some []
  | d :: ds => match toPy lk d, toPys lk ds with
    | some p, some ps => some (p :: ps)
    | _, _ => none
end
def S.look (s : S) : Nat → Nat → Option PyData
  | 0, _ => none
  | k + 1, n => match s.get n with
    | some (.lst _ ds) => (toPys (s.look k) ds).map .list
    | _ => none
/-- the data that a value reads as -/
def S.py (s : S) (d : D) : Option PyData := toPy (s.look 4) d
def S.pys (s : S) (ds : List D) : Option (List PyData) := toPys (s.look 4) ds

mutual
def toKey : D → Option NestedKey
  | .non => some .none
  | .bl b => some (.num (if b = true then 1 else 0))
  | .int i => some (.num i)
  | .str x => some (.text x)
  | .tup ds => (toKeys ds).map .tup
  | .lst _ => none
  | .dic _ _ => none
  | .ref _ => none
  | .fn _ => none
  | .ty _ => none
  | .inp _ => none
def toKeys : List D → Option (List NestedKey)
  | [] => some []
  | d :: ds => match toKey d, toKeys ds with
    | some k, some ks => some (k :: ks)
    | _, _ => none
end
/-- a tuple as a key -/
def keyT : D → Option NestedKey
  | .tup ds => match toKeys ds with
    | some ks => if (NestedKey.tup ks).depth ≤ 8 then some (.tup ks) else none
    | none => none
  | _ => none
/-- the value at a key; the keys are tuples all -/
def dget (k : NestedKey) : List D → List D → Option D
  | a :: ks, v :: vs => if keyT a = some k then some v else dget k ks vs
  | _, _ => none
def dputV (k : NestedKey) (w : D) : List D → List D → List D
  | a :: ks, v :: vs => if keyT a = some k then w :: vs else v :: dputV k w ks vs
  | _, _ => []
/-- d[kd] = w, k the key of kd -/
def dput (k : NestedKey) (kd w : D) (ks vs : List D) : List D × List D :=
  match dget k ks vs with
  | some _ => (ks, dputV k w ks vs)
  | none => (ks ++ [kd], vs ++ [w])

mutual
/-- no cell from n on is named in it -/
def below (n : Nat) : D → Bool
  | .ref k => decide (k < n)
  | .tup ds => belows n ds
  | .lst ds => belows n ds
  | .dic ks vs => belows n ks && belows n vs
  | .non => true
  | .bl _ => true
  | .int _ => true
  | .str _ => true
  | .fn _ => true
  | .ty _ => true
  | .inp _ => true
def belows (n : Nat) : List D → Bool
  | [] => true
  | d :: ds => below n d && belows n ds
end
def belowC (n : Nat) : Cl → Bool
  | .lst _ ds => belows n ds
  | .dic _ ks vs => belows n ks && belows n vs
/-- what a call leaves: the cells made in it go, but one that it hands back -/
def clean (n : Nat) (d : D) (s : S) : D × S :=
  let old := s.cs.filter fun p => decide (p.1 < n)
  if old.all (fun p => belowC n p.2) then
    if below n d then (d, ⟨n, old⟩)
    else match d with
      | .ref k => match s.get k with
        | some c => if belowC n c then (.ref n, ⟨n + 1, (n, c) :: old⟩) else (d, s)
        | none => (d, s)
      | _ => (d, s)
  else (d, s)

/-! ### operations -/
inductive Bo where
  | add | sub | mul | fdiv | mod | pow
  deriving DecidableEq
inductive Co where
  | eq | ne | lt | le | gt | ge | isin | notin | is | isnt
  deriving DecidableEq
inductive Bi where
  | len | all | any | min2 | max2 | sum | abs | int | tuple | list | sorted | repr | str | divmod
  deriving DecidableEq
inductive Mt where
  | append | extend | index | get
  deriving DecidableEq

def ok {α : Type} (a : α) (s : S) : Res α := .ok a s
def mulOk (i j : Int) : Bool := (decide (-(2 ^ 64) < i) && decide (i < 2 ^ 64)) || (decide (-(2 ^ 64) < j) && decide (j < 2 ^ 64))
/-- a list that is read: pure, or in a cell -/
def S.items (s : S) : D → Option (List D)
  | .lst ds => some ds
  | .ref n => match s.get n with
    | some (.lst _ ds) => some ds
    | _ => none
  | _ => none
def fits (ds : List D) : Bool := decide (ds.length ≤ sizeLine)
def rep (k : Nat) (ds : List D) : List D := (List.replicate k ds).flatten

def evBin (o : Bo) (a b : D) (s : S) : Res D := match o, a, b with
  | .add, .int i, .int j => .ok (.int (i + j)) s
  | .sub, .int i, .int j => .ok (.int (i - j)) s
  | .mul, .int i, .int j => if mulOk i j then .ok (.int (i * j)) s else .stuck
  | .fdiv, .int i, .int j => if 0 < j ∧ j < 1073741824 then .ok (.int (i / j)) s else .stuck
  | .mod, .int i, .int j => if 0 < j then .ok (.int (i % j)) s else .stuck
  | .pow, .int i, .int j => if (0 ≤ j ∧ j ≤ 1000) ∧ i.natAbs < 2 ^ 64 then .ok (.int (i ^ j.toNat)) s else .stuck
  | .add, .tup xs, .tup ys => if fits (xs ++ ys) then .ok (.tup (xs ++ ys)) s else .stuck
  | .add, x, y => match s.items x, s.items y with
    | some xs, some ys => if fits (xs ++ ys) then .ok (.lst (xs ++ ys)) s else .stuck
    | _, _ => .stuck
  | _, _, _ => .stuck

def S.eqv (s : S) (a b : D) : Option Bool := match s.py a, s.py b with
  | some p, some q => if SeqAt.shaped p && SeqAt.shaped q then some (PyData.eqv p q) else none
  | _, _ => none
/-- x in c -/
def S.isIn (s : S) (x c : D) : Option Bool := match c with
  | .dic ks vs => (keyT x).map fun k => (dget k ks vs).isSome
  | .ref n => match s.get n with
    | some (.dic _ ks vs) => (keyT x).map fun k => (dget k ks vs).isSome
    | some (.lst _ ds) => match s.py x, s.pys ds with
      | some p, some ps => if SeqAt.shaped p && SeqAt.shaped (.list ps) then some (ps.any fun z => PyData.eqv z p) else none
      | _, _ => none
    | none => none
  | .lst ds => match s.py x, s.pys ds with
      | some p, some ps => if SeqAt.shaped p && SeqAt.shaped (.list ps) then some (ps.any fun z => PyData.eqv z p) else none
      | _, _ => none
  | .tup ds => match s.py x, s.pys ds with
      | some p, some ps => if SeqAt.shaped p && SeqAt.shaped (.tuple ps) then some (ps.any fun z => PyData.eqv z p) else none
      | _, _ => none
  | _ => none
def S.lt (s : S) (a b : D) : Option Bool := match a, b with
  | .int i, .int j => some (decide (i < j))
  | .tup xs, .tup ys => match s.py (.tup xs), s.py (.tup ys) with
    | some p, some q => if SeqAt.shaped p && SeqAt.shaped q && W.alike p q then some (W.dataLt p q) else none
    | _, _ => none
  | _, _ => none
def isNon : D → Bool
  | .non => true
  | _ => false
def evCmp (o : Co) (a b : D) (s : S) : Res D := match o with
  | .eq => match s.eqv a b with
    | some r => .ok (.bl r) s
    | none => .stuck
  | .ne => match s.eqv a b with
    | some r => .ok (.bl (!r)) s
    | none => .stuck
  | .lt => match s.lt a b with
    | some r => .ok (.bl r) s
    | none => .stuck
  | .le => match a, b with
    | .int i, .int j => .ok (.bl (decide (i ≤ j))) s
    | _, _ => .stuck
  | .gt => match a, b with
    | .int i, .int j => .ok (.bl (decide (j < i))) s
    | _, _ => .stuck
  | .ge => match a, b with
    | .int i, .int j => .ok (.bl (decide (j ≤ i))) s
    | _, _ => .stuck
  | .isin => match s.isIn a b with
    | some r => .ok (.bl r) s
    | none => .stuck
  | .notin => match s.isIn a b with
    | some r => .ok (.bl (!r)) s
    | none => .stuck
  | .is => match b with
    | .non => .ok (.bl (isNon a)) s
    | _ => .stuck
  | .isnt => match b with
    | .non => .ok (.bl (!isNon a)) s
    | _ => .stuck

def S.tyOf (s : S) : D → Option Ty
  | .non => some .non
  | .bl _ => some .bl
  | .int _ => some .int
  | .str _ => some .str
  | .tup _ => some .tup
  | .lst _ => some .lst
  | .dic _ _ => some .dic
  | .ref n => match s.get n with
    | some (.lst _ _) => some .lst
    | some (.dic _ _ _) => some .dic
    | none => none
  | .fn _ => none
  | .ty _ => none
  | .inp _ => none

def allBl : List D → Option (List Bool)
  | [] => some []
  | .bl b :: r => (allBl r).map (b :: ·)
  | _ :: _ => none
def allInt : List D → Option (List Int)
  | [] => some []
  | .int i :: r => (allInt r).map (i :: ·)
  | _ :: _ => none
/-- the order by data -/
def leD (s : S) (a b : D) : Bool := !W.dataLt ((s.py b).getD .none) ((s.py a).getD .none)
def isTup : PyData → Bool
  | .tuple (_ :: _) => true
  | _ => false
def isAtom : PyData → Bool
  | .int _ => true
  | .str _ => true
  | _ => false
def sortOk (ps : List PyData) : Bool := ps.all (fun p => ps.all fun q => W.alike p q) && (ps.all isTup || ps.all isAtom) && ps.all (fun p => decide (p.depth ≤ 64))
/-- the first part -/
def fstD : PyData → PyData
  | .tuple (x :: _) => x
  | _ => .none
/-- all first parts are unlike -/
def apart : List PyData → Bool
  | [] => true
  | p :: ps => ps.all (fun q => W.alike (fstD p) (fstD q) && W.alike (fstD q) (fstD p) && !PyData.eqv (fstD p) (fstD q) && !PyData.eqv (fstD q) (fstD p)) && apart ps
def sortFst (ps : List PyData) : Bool := ps.all isTup && ps.all (fun p => W.alike p p) && apart ps && ps.all (fun p => decide (p.depth ≤ 64))

def allTupI : List D → Option (List (List Int))
  | [] => some []
  | .tup xs :: r => match allInt xs, allTupI r with
    | some a, some b => some (a :: b)
    | _, _ => none
  | _ :: _ => none
def tupP (t : List Int) : PyData := .tuple (t.map .int)
/-- the least of tuples of numbers -/
def minTI (t : List Int) (ts : List (List Int)) : List Int := ts.foldl (fun a y => if W.dataLt (tupP y) (tupP a) then y else a) t
def alikeTs (ts : List (List Int)) : Bool := (ts.map tupP).all fun x => (ts.map tupP).all fun y => W.alike x y
def minL (s : S) (x : D) : Res D := match s.items x with
  | some ds => match allInt ds with
    | some (n :: ns) => .ok (.int (ns.foldl min n)) s
    | some [] => .stuck
    | none => match allTupI ds with
      | some (t :: ts) => if alikeTs (t :: ts) then .ok (.tup ((minTI t ts).map .int)) s else .stuck
      | _ => .stuck
  | none => .stuck
def maxL (s : S) (x : D) : Res D := match s.items x with
  | some ds => match allInt ds with
    | some (n :: ns) => .ok (.int (ns.foldl max n)) s
    | _ => .stuck
  | none => .stuck
def evBi (b : Bi) (as : List D) (s : S) : Res D := match b, as with
  | .len, [.str x] => if x.length ≤ sizeLine then .ok (.int x.length) s else .stuck
  | .len, [.tup ds] => .ok (.int ds.length) s
  | .len, [.inp ns] => .ok (.int ns.length) s
  | .len, [x] => match s.items x with
    | some ds => .ok (.int ds.length) s
    | none => .stuck
  | .all, [x] => match (s.items x).bind allBl with
    | some bs => .ok (.bl (bs.all id)) s
    | none => .stuck
  | .any, [x] => match (s.items x).bind allBl with
    | some bs => .ok (.bl (bs.any id)) s
    | none => .stuck
  | .min2, [.int i, .int j] => .ok (.int (if j < i then j else i)) s
  | .max2, [.int i, .int j] => .ok (.int (if j > i then j else i)) s
  | .min2, [x] => minL s x
  | .max2, [x] => maxL s x
  | .sum, [x] => match (s.items x).bind allInt with
    | some ns => .ok (.int ns.sum) s
    | none => .stuck
  | .abs, [.int i] => .ok (.int (if i < 0 then -i else i)) s
  | .int, [.int i] => .ok (.int i) s
  | .tuple, [.tup ds] => .ok (.tup ds) s
  | .tuple, [x] => match s.items x with
    | some ds => .ok (.tup ds) s
    | none => .stuck
  | .list, [.tup ds] => .ok (.lst ds) s
  | .list, [x] => match s.items x with
    | some ds => .ok (.lst ds) s
    | none => .stuck
  | .sorted, [.dic ks _] => match s.pys ks with
    | some ps => if sortOk ps then .ok (.lst (ks.mergeSort (leD s))) s else .stuck
    | none => .stuck
  | .sorted, [x] => match s.items x with
    | some ds => match s.pys ds with
      | some ps => if (sortOk ps || sortFst ps) = true then .ok (.lst (ds.mergeSort (leD s))) s else .stuck
      | none => .stuck
    | none => .stuck
  | .repr, [x] => match s.py x with
    | some p => if p.showable && !p.hasDict && decide (p.depth ≤ 64) && decide (p.shown.length ≤ sizeLine) then .ok (.str p.shown) s else .stuck
    | none => .stuck
  | .str, [.int i] => if i.natAbs.log2 < 1920 then .ok (.str (toString i)) s else .stuck
  | .divmod, [.int i, .int j] => if 0 < j ∧ j < 1073741824 then .ok (.tup [.int (i / j), .int (i % j)]) s else .stuck
  | _, _ => .stuck

def firstIx (p : PyData) : Nat → List PyData → Option Nat
  | _, [] => none
  | i, q :: r => if PyData.eqv q p then some i else firstIx p (i + 1) r
def notRef (n : Nat) : D → Bool
  | .ref k => decide (k ≠ n)
  | _ => true
def evMt (m : Mt) (x : D) (as : List D) (s : S) : Res D := match m, x, as with
  | .append, .ref n, [d] => match s.get n with
    | some (.lst false ds) => if ds.length < sizeLine then .ok .non (s.put n (.lst false (ds ++ [d]))) else .stuck
    | _ => .stuck
  | .extend, .ref n, [y] => match s.get n, s.items y with
    | some (.lst false ds), some es => if fits (ds ++ es) && notRef n y then .ok .non (s.put n (.lst false (ds ++ es))) else .stuck
    | _, _ => .stuck
  | .index, x, [d] => match s.items x with
    | some ds => match s.py d, s.pys ds with
      | some p, some ps => if SeqAt.shaped p && SeqAt.shaped (.list ps) then (match firstIx p 0 ps with
        | some i => .ok (.int i) s
        | none => .stuck) else .stuck
      | _, _ => .stuck
    | none => .stuck
  | _, _, _ => .stuck

/-- a[b] -/
def evIx (a b : D) (s : S) : Res D := match a, b with
  | .tup ds, .int i => match L2.atI ds i with
    | some d => .ok d s
    | none => .stuck
  | .dic ks vs, k => match keyT k with
    | some q => match dget q ks vs with
      | some d => .ok d s
      | none => .stuck
    | none => .stuck
  | .ref n, b => match s.get n, b with
    | some (.lst _ ds), .int i => match L2.atI ds i with
      | some d => .ok d s
      | none => .stuck
    | some (.dic _ ks vs), k => match keyT k with
      | some q => match dget q ks vs with
        | some d => .ok d s
        | none => .stuck
      | none => .stuck
    | _, _ => .stuck
  | .lst ds, .int i => match L2.atI ds i with
      | some d => .ok d s
      | none => .stuck
  | .inp ns, .int i => match L2.atI ns i with
      | some n => .ok (.int n) s
      | none => .stuck
  | _, _ => .stuck
/-- a[b] = v -/
def setIx (a b v : D) (s : S) : Option S := match a with
  | .ref n => match s.get n, b with
    | some (.lst false ds), .int i => (L2.ixN ds.length i).map fun j => s.put n (.lst false (ds.set j v))
    | some (.dic false ks vs), k => match keyT k with
      | some q => if ks.length < sizeLine then some (s.put n (.dic false (dput q k v ks vs).1 (dput q k v ks vs).2)) else none
      | none => none
    | _, _ => none
  | _ => none
def cutD (ds : List D) (lo hi : Option Int) : List D := (ds.drop (HT.sIx ds.length 0 lo)).take (HT.sIx ds.length ds.length hi - HT.sIx ds.length 0 lo)
def evSl (a : D) (lo hi : Option Int) (s : S) : Res D := match a with
  | .tup ds => .ok (.tup (cutD ds lo hi)) s
  | .inp ns => .ok (.lst (cutD (ns.map .int) lo hi)) s
  | x => match s.items x with
    | some ds => .ok (.lst (cutD ds lo hi)) s
    | none => .stuck
def evRev (a : D) (s : S) : Res D := match s.items a with
  | some ds => .ok (.lst ds.reverse) s
  | none => .stuck
def evFrz (a : D) (s : S) : Res D := match a with
  | .ref n => match s.get n with
    | some (.lst _ ds) => .ok (.lst ds) (s.put n (.lst true ds))
    | some (.dic _ ks vs) => .ok (.dic ks vs) (s.put n (.dic true ks vs))
    | none => .stuck
  | d => .ok d s

/-! ### the language -/
mutual
inductive ME where
  | slot (i : Nat)
  | cst (d : D)
  | frz (e : ME)
  | bin (o : Bo) (a b : ME)
  | neg (a : ME)
  | cmp (o : Co) (a b : ME)
  | chain (o p : Co) (a b c : ME)
  | no (a : ME)
  | and (a b : ME)
  | or (a b : ME)
  | ife (t a b : ME)
  | tup (es : MEs)
  | lst (es : MEs)
  | cell (es : MEs)
  | dic0
  | ix (a b : ME)
  | sl (a : ME) (lo hi : MO)
  | rev (a : ME)
  | isi (a : ME) (ts : List Ty)
  | call (f : Nat) (es : MEs)
  | callK (f : Nat) (es : MEs) (perm : List Nat)
  | lcall (i : Nat) (es : MEs)
  | bi (b : Bi) (es : MEs)
  | mt (m : Mt) (a : ME) (es : MEs)
  | comp (mu : Bool) (g : MG) (src : MI) (t : MO) (e : ME) (own : List Nat)
  | dcomp (mu : Bool) (g : MG) (src : MI) (t : MO) (k v : ME) (own : List Nat)
inductive MEs where
  | nil
  | cons (e : ME) (r : MEs)
inductive MO where
  | no
  | so (e : ME)
inductive MG where
  | nm (i : Nat)
  | tp (gs : MGs)
  | sub (a b : ME)
inductive MGs where
  | nil
  | cons (g : MG) (r : MGs)
inductive MI where
  | it (e : ME)
  | rng (e : ME)
  | rng2 (a b : ME)
  | zip2 (a b : ME)
  | zip3 (a b c : ME)
  | enu (e : ME)
end
mutual
inductive MS where
  | set (i : Nat) (e : ME)
  | asg (g : MG) (e : ME)
  | par2 (i j : Nat) (a b : ME)
  | par3 (i j k : Nat) (a b c : ME)
  | aug (i : Nat) (o : Bo) (e : ME)
  | ex (e : ME)
  | ret (e : ME)
  | ifs (t : ME) (a b : MSs)
  | fors (g : MG) (src : MI) (b : MSs)
  | whl (t : ME) (b : MSs)
  | brk
  | cnt
  | pas
  | never
  | gfrz (i : Nat)
inductive MSs where
  | nil
  | cons (s : MS) (r : MSs)
end

abbrev Tau := List (Option D)
structure Cc where
  call : Nat → List D → S → Res D
  wf : Nat
  has : Nat → Bool
def wipeT (τ : Tau) : List Nat → Tau
  | [] => τ
  | v :: vs => (wipeT τ vs).set v none

/-- [f d for d in ds if ..]: f gives none where the test fails -/
def loopC (f : D → S → Res (Option D)) : List D → S → Res (List D)
  | [], s => .ok [] s
  | d :: ds, s => match f d s with
    | .ok o s1 => match loopC f ds s1 with
      | .ok r s2 => .ok (match o with | some x => x :: r | none => r) s2
      | .exc x s2 => .exc x s2
      | .stuck => .stuck
    | .exc x s1 => .exc x s1
    | .stuck => .stuck
def loopK (f : D → S → Res (Option (D × D))) : List D → List D → List D → S → Res (List D × List D)
  | [], ks, vs, s => .ok (ks, vs) s
  | d :: ds, ks, vs, s => match f d s with
    | .ok none s1 => loopK f ds ks vs s1
    | .ok (some (k, v)) s1 => match keyT k with
      | some q => loopK f ds (dput q k v ks vs).1 (dput q k v ks vs).2 s1
      | none => .stuck
    | .exc x s1 => .exc x s1
    | .stuck => .stuck
def zipD : List D → List D → List D
  | a :: as, b :: bs => .tup [a, b] :: zipD as bs
  | _, _ => []
def zipD3 : List D → List D → List D → List D
  | a :: as, b :: bs, c :: cs => .tup [a, b, c] :: zipD3 as bs cs
  | _, _, _ => []
def enumD : Nat → List D → List D
  | _, [] => []
  | i, d :: ds => .tup [.int (i : Nat), d] :: enumD (i + 1) ds
def rangeD (lo : Int) : Nat → List D
  | 0 => []
  | n + 1 => .int lo :: rangeD (lo + 1) n
def small (i : Int) : Bool := decide (-(2 ^ 62) ≤ i) && decide (i < 2 ^ 62)
/-- what may be walked: pure lists and tuples, the keys of a pure dict, frozen cells -/
def S.walk (s : S) : D → Option (List D)
  | .lst ds => some ds
  | .tup ds => some ds
  | .dic ks _ => some ks
  | .ref n => match s.get n with
    | some (.lst true ds) => some ds
    | _ => none
  | _ => none
def S.walkS (s : S) : D → Option (List D)
  | .lst ds => some ds
  | .tup ds => some ds
  | .ref n => match s.get n with
    | some (.lst true ds) => some ds
    | _ => none
  | _ => none
def isTupD : D → Bool
  | .tup _ => true
  | _ => false
def permD (as : List D) (perm : List Nat) : Option (List D) := perm.mapM fun i => as[i]?

def lenMEs : MEs → Nat
  | .nil => 0
  | .cons _ r => lenMEs r + 1
mutual
def evG (c : Cc) : MG → D → Tau → S → Res Tau
  | .nm i, d, τ, s => .ok (τ.set i (some d)) s
  | .tp gs, d, τ, s => match d with
    | .tup ds => evGs c gs ds τ s
    | _ => .stuck
  | .sub a b, d, τ, s => match evE c a τ s with
    | .ok x s1 => match evE c b τ s1 with
      | .ok y s2 => match setIx x y d s2 with
        | some s3 => .ok τ s3
        | none => .stuck
      | _ => .stuck
    | _ => .stuck
def evGs (c : Cc) : MGs → List D → Tau → S → Res Tau
  | .nil, [], τ, s => .ok τ s
  | .nil, _ :: _, _, _ => .stuck
  | .cons _ _, [], _, _ => .stuck
  | .cons g r, d :: ds, τ, s => match evG c g d τ s with
    | .ok τ1 s1 => evGs c r ds τ1 s1
    | _ => .stuck
def evE (c : Cc) : ME → Tau → S → Res D
  | .slot i, τ, s => match τ[i]? with
    | some (some d) => .ok d s
    | _ => .stuck
  | .cst d, _, s => .ok d s
  | .frz e, τ, s => (evE c e τ s).bind evFrz
  | .bin o a b, τ, s => (evE c a τ s).bind fun x s1 => (evE c b τ s1).bind fun y s2 => evBin o x y s2
  | .neg a, τ, s => (evE c a τ s).bind fun x s1 => match x with
    | .int i => .ok (.int (-i)) s1
    | _ => .stuck
  | .cmp o a b, τ, s => (evE c a τ s).bind fun x s1 => (evE c b τ s1).bind fun y s2 => evCmp o x y s2
  | .chain o p a b e, τ, s => (evE c a τ s).bind fun x s1 => (evE c b τ s1).bind fun y s2 => (evCmp o x y s2).bind fun r s3 => match r with
    | .bl true => (evE c e τ s3).bind fun z s4 => evCmp p y z s4
    | .bl false => .ok (.bl false) s3
    | _ => .stuck
  | .no a, τ, s => (evE c a τ s).bind fun x s1 => match x with
    | .bl b => .ok (.bl (!b)) s1
    | _ => .stuck
  | .and a b, τ, s => (evE c a τ s).bind fun x s1 => match x with
    | .bl true => (evE c b τ s1).bind fun y s2 => match y with
      | .bl r => .ok (.bl r) s2
      | _ => .stuck
    | .bl false => .ok (.bl false) s1
    | _ => .stuck
  | .or a b, τ, s => (evE c a τ s).bind fun x s1 => match x with
    | .bl false => (evE c b τ s1).bind fun y s2 => match y with
      | .bl r => .ok (.bl r) s2
      | _ => .stuck
    | .bl true => .ok (.bl true) s1
    | _ => .stuck
  | .ife t a b, τ, s => (evE c t τ s).bind fun x s1 => match x with
    | .bl true => evE c a τ s1
    | .bl false => evE c b τ s1
    | _ => .stuck
  | .tup es, τ, s => (evEs c es τ s).bind fun ds s1 => if fits ds then .ok (.tup ds) s1 else .stuck
  | .lst es, τ, s => (evEs c es τ s).bind fun ds s1 => if fits ds then .ok (.lst ds) s1 else .stuck
  | .cell es, τ, s => (evEs c es τ s).bind fun ds s1 => if fits ds then .ok (.ref s1.nx) (s1.add (.lst false ds)) else .stuck
  | .dic0, _, s => .ok (.ref s.nx) (s.add (.dic false [] []))
  | .ix a b, τ, s => (evE c a τ s).bind fun x s1 => (evE c b τ s1).bind fun y s2 => evIx x y s2
  | .sl a lo hi, τ, s => (evE c a τ s).bind fun x s1 => (evO c lo τ s1).bind fun l s2 => (evO c hi τ s2).bind fun h s3 => evSl x l h s3
  | .rev a, τ, s => (evE c a τ s).bind evRev
  | .isi a ts, τ, s => (evE c a τ s).bind fun x s1 => match s1.tyOf x with
    | some t => .ok (.bl (ts.any fun u => t.isa u)) s1
    | none => .stuck
  | .call f es, τ, s => (evEs c es τ s).bind fun ds s1 => c.call f ds s1
  | .callK f es perm, τ, s => (evEs c es τ s).bind fun ds s1 => if ds.length = lenMEs es then (match permD ds perm with
    | some as => c.call f as s1
    | none => .stuck) else .stuck
  | .lcall i es, τ, s => match τ[i]? with
    | some (some (.fn f)) => if c.has f then (evEs c es τ s).bind fun ds s1 => c.call f ds s1 else .stuck
    | _ => .stuck
  | .bi b es, τ, s => (evEs c es τ s).bind fun ds s1 => evBi b ds s1
  | .mt m a es, τ, s => (evE c a τ s).bind fun x s1 => if (s1.items x).isSome then (evEs c es τ s1).bind fun ds s2 => evMt m x ds s2 else .stuck
  | .comp mu g src t e own, τ, s => (evI c src τ s).bind fun ds s1 => if fits ds then
      (match loopC (fun d s2 => (evG c g d (wipeT τ own) s2).bind fun τ1 s3 => (evT c t τ1 s3).bind fun b s4 => if b then (evE c e τ1 s4).bind fun y s5 => .ok (some y) s5 else .ok none s4) ds s1 with
      | .ok r s2 => if mu then .ok (.ref s2.nx) (s2.add (.lst false r)) else .ok (.lst r) s2
      | _ => .stuck)
    else .stuck
  | .dcomp mu g src t k v own, τ, s => (evI c src τ s).bind fun ds s1 => if fits ds then
      (match loopK (fun d s2 => (evG c g d (wipeT τ own) s2).bind fun τ1 s3 => (evT c t τ1 s3).bind fun b s4 => if b then (evE c k τ1 s4).bind fun x s5 => (evE c v τ1 s5).bind fun y s6 => .ok (some (x, y)) s6 else .ok none s4) ds [] [] s1 with
      | .ok (ks, vs) s2 => if mu then .ok (.ref s2.nx) (s2.add (.dic false ks vs)) else .ok (.dic ks vs) s2
      | _ => .stuck)
    else .stuck
def evEs (c : Cc) : MEs → Tau → S → Res (List D)
  | .nil, _, s => .ok [] s
  | .cons e r, τ, s => (evE c e τ s).bind fun d s1 => (evEs c r τ s1).bind fun ds s2 => .ok (d :: ds) s2
def evO (c : Cc) : MO → Tau → S → Res (Option Int)
  | .no, _, s => .ok none s
  | .so e, τ, s => (evE c e τ s).bind fun d s1 => match d with
    | .int i => .ok (some i) s1
    | _ => .stuck
def evT (c : Cc) : MO → Tau → S → Res Bool
  | .no, _, s => .ok true s
  | .so e, τ, s => (evE c e τ s).bind fun d s1 => match d with
    | .bl b => .ok b s1
    | _ => .stuck
def evI (c : Cc) : MI → Tau → S → Res (List D)
  | .it e, τ, s => (evE c e τ s).bind fun d s1 => match s1.walk d with
    | some ds => .ok ds s1
    | none => .stuck
  | .rng e, τ, s => (evE c e τ s).bind fun d s1 => match d with
    | .int j => if small j then .ok (rangeD 0 j.toNat) s1 else .stuck
    | _ => .stuck
  | .rng2 a b, τ, s => (evE c a τ s).bind fun x s1 => (evE c b τ s1).bind fun y s2 => match x, y with
    | .int i, .int j => if small i && small j then .ok (rangeD i (j - i).toNat) s2 else .stuck
    | _, _ => .stuck
  | .zip2 a b, τ, s => (evE c a τ s).bind fun x s1 => (evE c b τ s1).bind fun y s2 => match s2.walkS x, s2.walkS y with
    | some xs, some ys => if isTupD x == isTupD y then .ok (zipD xs ys) s2 else .stuck
    | _, _ => .stuck
  | .zip3 a b e, τ, s => (evE c a τ s).bind fun x s1 => (evE c b τ s1).bind fun y s2 => (evE c e τ s2).bind fun z s3 => match s3.walkS x, s3.walkS y, s3.walkS z with
    | some xs, some ys, some zs => .ok (zipD3 xs ys zs) s3
    | _, _, _ => .stuck
  | .enu e, τ, s => (evE c e τ s).bind fun d s1 => match s1.walkS d with
    | some ds => .ok (enumD 0 ds) s1
    | none => .stuck
end

/-- a statement's end -/
inductive Fl where
  | nx (τ : Tau) (s : S)
  | rt (d : D) (s : S)
  | bk (τ : Tau) (s : S)
  | ct (τ : Tau) (s : S)
  | exc (x : Exc) (τ : Tau) (s : S)
  | stuck
@[reducible] def Fl.of {α : Type} (r : Res α) (τ : Tau) (f : α → S → Fl) : Fl := match r with
  | .ok a s => f a s
  | .exc x s => .exc x τ s
  | .stuck => .stuck
@[reducible] def Fl.next (f : Fl) (g : Tau → S → Fl) : Fl := match f with
  | .nx τ s => g τ s
  | f => f
/-- name op= e -/
def augF (o : Bo) (n : Int) (i : Nat) (τ : Tau) (d : D) (s : S) : Fl := match o, d with
  | .add, .int m => .nx (τ.set i (some (.int (n + m)))) s
  | .sub, .int m => .nx (τ.set i (some (.int (n - m)))) s
  | _, _ => .stuck
/-- for d in ds: g; body -/
def loopF (g : D → Tau → S → Res Tau) (b : Tau → S → Fl) : List D → Tau → S → Fl
  | [], τ, s => .nx τ s
  | d :: ds, τ, s => match g d τ s with
    | .ok τ1 s1 => match b τ1 s1 with
      | .nx τ2 s2 => loopF g b ds τ2 s2
      | .ct τ2 s2 => loopF g b ds τ2 s2
      | .bk τ2 s2 => .nx τ2 s2
      | .rt d s2 => .rt d s2
      | .exc x τ2 s2 => .exc x τ2 s2
      | .stuck => .stuck
    | .exc x s1 => .exc x τ s1
    | .stuck => .stuck
def loopW (t : Tau → S → Res D) (b : Tau → S → Fl) : Nat → Tau → S → Fl
  | 0, _, _ => .stuck
  | k + 1, τ, s => match t τ s with
    | .ok (.bl true) s1 => match b τ s1 with
      | .nx τ2 s2 => loopW t b k τ2 s2
      | .ct τ2 s2 => loopW t b k τ2 s2
      | .bk τ2 s2 => .nx τ2 s2
      | .rt d s2 => .rt d s2
      | .exc x τ2 s2 => .exc x τ2 s2
      | .stuck => .stuck
    | .ok (.bl false) s1 => .nx τ s1
    | .ok _ _ => .stuck
    | .exc x s1 => .exc x τ s1
    | .stuck => .stuck
mutual
def evS (c : Cc) : MS → Tau → S → Fl
  | .set i e, τ, s => Fl.of (evE c e τ s) τ fun d s1 => .nx (τ.set i (some d)) s1
  | .asg g e, τ, s => Fl.of (evE c e τ s) τ fun d s1 => Fl.of (evG c g d τ s1) τ fun τ1 s2 => .nx τ1 s2
  | .par2 i j a b, τ, s => Fl.of (evE c a τ s) τ fun x s1 => Fl.of (evE c b τ s1) τ fun y s2 => .nx ((τ.set i (some x)).set j (some y)) s2
  | .par3 i j k a b e, τ, s => Fl.of (evE c a τ s) τ fun x s1 => Fl.of (evE c b τ s1) τ fun y s2 => Fl.of (evE c e τ s2) τ fun z s3 => .nx (((τ.set i (some x)).set j (some y)).set k (some z)) s3
  | .aug i o e, τ, s => match τ[i]? with
    | some (some (.int n)) => Fl.of (evE c e τ s) τ (augF o n i τ)
    | _ => .stuck
  | .ex e, τ, s => Fl.of (evE c e τ s) τ fun _ s1 => .nx τ s1
  | .ret e, τ, s => Fl.of (evE c e τ s) τ fun d s1 => .rt d s1
  | .ifs t a b, τ, s => Fl.of (evE c t τ s) τ fun d s1 => match d with
    | .bl true => evSs c a τ s1
    | .bl false => evSs c b τ s1
    | _ => .stuck
  | .fors g src b, τ, s => Fl.of (evI c src τ s) τ fun ds s1 => loopF (evG c g) (evSs c b) ds τ s1
  | .whl t b, τ, s => loopW (evE c t) (evSs c b) c.wf τ s
  | .brk, τ, s => .bk τ s
  | .cnt, τ, s => .ct τ s
  | .pas, τ, s => .nx τ s
  | .never, _, _ => .stuck
  | .gfrz i, τ, s => match τ[i]? with
    | some (some d) => match evFrz d s with
      | .ok d1 s1 => .nx (τ.set i (some d1)) s1
      | _ => .stuck
    | _ => .stuck
def evSs (c : Cc) : MSs → Tau → S → Fl
  | .nil, τ, s => .nx τ s
  | .cons a r, τ, s => Fl.next (evS c a τ s) fun τ1 s1 => evSs c r τ1 s1
end

/-- a def: its parameters' number, all its names' number, its body -/
structure Fd where
  ps : Nat
  ns : Nat
  body : MSs
def startT (ns : Nat) (as : List D) : Tau := as.map some ++ List.replicate (ns - as.length) none
def endOf (n : Nat) : Fl → Res D
  | .rt d s => .ok (clean n d s).1 (clean n d s).2
  | .nx _ s => .ok (clean n .non s).1 (clean n .non s).2
  | .exc x _ s => .exc x s
  | _ => .stuck
def callN (tab : Nat → Option Fd) (wf : Nat) : Nat → Nat → List D → S → Res D
  | 0, _, _, _ => .stuck
  | n + 1, f, as, s => match tab f with
    | some fd => if as.length = fd.ps then endOf s.nx (evSs ⟨callN tab wf n, wf, fun f => (tab f).isSome⟩ fd.body (startT fd.ns as) s) else .stuck
    | none => .stuck
end Mi
set_option Elab.async false
set_option linter.all false
set_option maxRecDepth 100000
set_option maxHeartbeats 1000000
/-! Mi2: what a value of the small language stands for in the hand layer's heap. -/
namespace Mi
open PySem PySem.Spec PyProof.Rows L2

abbrev Mm := Nat → Option Addr
/-- where the program's defs and classes stand -/
structure Tb where
  P : Program
  w : World
  K : PySem.W.Frag
  fa : Nat → Addr
  ca : Nat → Addr

abbrev nk (T : Tb) := nestedKind T.P T.w
/-- the object at a is a dict with tuple keys: the keys, where they stand, the values -/
def DicV (T : Tb) (a : Addr) (kvs : List (NestedKey × Addr × V)) (ho : HO) : Prop :=
  ∃ (ob : Obj) (es : Array DictEntry) (ep : Nat) (xs : List (NestedKey × Addr × Value)), ho = .ext (fun h => h.get? a = some ob) ∧ ob.ExactDict ∧ ob.data = .dict es ep ∧ es.toList = xs.map (entryOfKey (nk T)) ∧
    (xs.map (·.1)).Nodup ∧ (a == sysModules) = false ∧ xs.length ≤ sizeLine ∧ Paired (fun (p : NestedKey × Addr × V) (q : NestedKey × Addr × Value) => p.1 = q.1 ∧ p.2.1 = q.2.1 ∧ RelV p.2.2 q.2.2) kvs xs

mutual
inductive Rp (T : Tb) (G : Hp) (m : Mm) : D → V → Prop
  | non : Rp T G m .non .non
  | bl (b : Bool) : Rp T G m (.bl b) (.bl b)
  | int (i : Int) : Rp T G m (.int i) (.int i)
  | str (x : Str) : Rp T G m (.str x) (.str x)
  | tup {a : Addr} {vs : List V} {ds : List D} : SqT T.K G a vs → Rps T G m ds vs → Rp T G m (.tup ds) (.ref a)
  | lst {a : Addr} {vs : List V} {ds : List D} : G a = some (.lst vs) → Rps T G m ds vs → Rp T G m (.lst ds) (.ref a)
  | dic {a : Addr} {ho : HO} {kvs : List (NestedKey × Addr × V)} {ks vs : List D} : G a = some ho → DicV T a kvs ho → Rps T G m ks (kvs.map fun p => V.ref p.2.1) → ks.map keyT = kvs.map (fun p => some p.1) →
      Rps T G m vs (kvs.map fun p => p.2.2) → Rp T G m (.dic ks vs) (.ref a)
  | ref {n : Nat} {a : Addr} : m n = some a → Rp T G m (.ref n) (.ref a)
  | fn (i : Nat) : Rp T G m (.fn i) (.ref (T.fa i))
  | ty (t : Ty) : Rp T G m (.ty t) (.ty t.nm)
  | inp {a : Addr} {ns : List Int} : SqL T.K G a (ns.map V.int) → Rp T G m (.inp ns) (.ref a)
inductive Rps (T : Tb) (G : Hp) (m : Mm) : List D → List V → Prop
  | nil : Rps T G m [] []
  | cons {d : D} {v : V} {ds : List D} {vs : List V} : Rp T G m d v → Rps T G m ds vs → Rps T G m (d :: ds) (v :: vs)
end

def Sub (G H : Hp) : Prop := ∀ a o, G a = some o → H a = some o
theorem Sub.refl (G : Hp) : Sub G G := fun _ _ e => e
theorem Sub.trans {G H I : Hp} (a : Sub G H) (b : Sub H I) : Sub G I := fun c o e => b c o (a c o e)
structure Ext (G : Hp) (m : Mm) (G' : Hp) (m' : Mm) : Prop where
  g : Sub G G'
  m : ∀ n a, m n = some a → m' n = some a
theorem Ext.refl (G : Hp) (m : Mm) : Ext G m G m := ⟨Sub.refl G, fun _ _ e => e⟩
theorem Ext.trans {G G1 G2 : Hp} {m m1 m2 : Mm} (a : Ext G m G1 m1) (b : Ext G1 m1 G2 m2) : Ext G m G2 m2 := ⟨a.g.trans b.g, fun n c e => b.m n c (a.m n c e)⟩

theorem Rd.sub {G H : Hp} {a : Addr} {u : HO} (k : Sub G H) (r : Rd G a u) : Rd H a u := by
  rcases r with e | ⟨o, e⟩
  · exact .inl (k _ _ e)
  · exact .inr ⟨o, k _ _ e⟩
theorem SqL.sub {K : PySem.W.Frag} {G H : Hp} {a : Addr} {xs : List V} (k : Sub G H) (r : SqL K G a xs) : SqL K H a xs := by
  rcases r with e | e
  · exact .inl (Rd.sub k e)
  · exact .inr e
theorem SqT.sub {K : PySem.W.Frag} {G H : Hp} {a : Addr} {xs : List V} (k : Sub G H) (r : SqT K G a xs) : SqT K H a xs := by
  rcases r with e | e
  · exact .inl (Rd.sub k e)
  · exact .inr e

section
variable {T : Tb} {G G' H : Hp} {m m' : Mm}
mutual
theorem Rp.mono (x : Ext G m G' m') : ∀ {d : D} {v : V}, Rp T G m d v → Rp T G' m' d v
  | _, _, .non => .non
  | _, _, .bl b => .bl b
  | _, _, .int i => .int i
  | _, _, .str s => .str s
  | _, _, .tup h r => .tup (SqT.sub x.g h) (Rps.mono x r)
  | _, _, .lst h r => .lst (x.g _ _ h) (Rps.mono x r)
  | _, _, .dic h1 h2 h3 h4 h5 => .dic (x.g _ _ h1) h2 (Rps.mono x h3) h4 (Rps.mono x h5)
  | _, _, .ref e => .ref (x.m _ _ e)
  | _, _, .fn i => .fn i
  | _, _, .ty t => .ty t
  | _, _, .inp h => .inp (SqL.sub x.g h)
theorem Rps.mono (x : Ext G m G' m') : ∀ {ds : List D} {vs : List V}, Rps T G m ds vs → Rps T G' m' ds vs
  | _, _, .nil => .nil
  | _, _, .cons h r => .cons (Rp.mono x h) (Rps.mono x r)
end
mutual
/-- the cells from n on forgotten -/
theorem Rp.cut (n : Nat) (hm : ∀ k, k < n → m k = m' k) : ∀ {d : D} {v : V}, below n d = true → Rp T G m d v → Rp T G m' d v
  | _, _, _, .non => .non
  | _, _, _, .bl b => .bl b
  | _, _, _, .int i => .int i
  | _, _, _, .str s => .str s
  | _, _, h, .tup e r => .tup e (Rps.cut n hm (by simpa [below] using h) r)
  | _, _, h, .lst e r => .lst e (Rps.cut n hm (by simpa [below] using h) r)
  | _, _, h, .dic h1 h2 h3 h4 h5 => by
    have q := Bool.and_eq_true_iff.mp (show (belows n _ && belows n _) = true from by simpa [below] using h)
    exact .dic h1 h2 (Rps.cut n hm q.1 h3) h4 (Rps.cut n hm q.2 h5)
  | _, _, h, .ref e => .ref (by rw [← hm _ (of_decide_eq_true (by simpa [below] using h))]; exact e)
  | _, _, _, .fn i => .fn i
  | _, _, _, .ty t => .ty t
  | _, _, _, .inp h => .inp h
theorem Rps.cut (n : Nat) (hm : ∀ k, k < n → m k = m' k) : ∀ {ds : List D} {vs : List V}, belows n ds = true → Rps T G m ds vs → Rps T G m' ds vs
  | _, _, _, .nil => .nil
  | _, _, h, .cons a r => by
    have q := Bool.and_eq_true_iff.mp (show (below n _ && belows n _) = true from by simpa [belows] using h)
    exact .cons (Rp.cut n hm q.1 a) (Rps.cut n hm q.2 r)
end
theorem Rps.length : ∀ {ds : List D} {vs : List V}, Rps T G m ds vs → ds.length = vs.length
  | _, _, .nil => rfl
  | _, _, .cons _ r => congrArg Nat.succ (Rps.length r)
theorem Rps.get : ∀ {ds : List D} {vs : List V} {i : Nat} {d : D}, Rps T G m ds vs → ds[i]? = some d → ∃ v, vs[i]? = some v ∧ Rp T G m d v
  | _, _, 0, _, .cons h _, e => ⟨_, rfl, by simp at e; exact e ▸ h⟩
  | _, _, i + 1, _, .cons _ r, e => by
    obtain ⟨v, e1, e2⟩ := Rps.get (i := i) r (by simpa using e)
    exact ⟨v, by simpa using e1, e2⟩
theorem Rps.get' : ∀ {ds : List D} {vs : List V} {i : Nat} {v : V}, Rps T G m ds vs → vs[i]? = some v → ∃ d, ds[i]? = some d ∧ Rp T G m d v
  | _, _, 0, _, .cons h _, e => ⟨_, rfl, by simp at e; exact e ▸ h⟩
  | _, _, i + 1, _, .cons _ r, e => by
    obtain ⟨v, e1, e2⟩ := Rps.get' (i := i) r (by simpa using e)
    exact ⟨v, by simpa using e1, e2⟩
theorem Rps.append : ∀ {ds es : List D} {vs ws : List V}, Rps T G m ds vs → Rps T G m es ws → Rps T G m (ds ++ es) (vs ++ ws)
  | _, _, _, _, .nil, s => s
  | _, _, _, _, .cons h r, s => .cons h (Rps.append r s)
theorem Rps.take : ∀ {ds : List D} {vs : List V} (n : Nat), Rps T G m ds vs → Rps T G m (ds.take n) (vs.take n)
  | _, _, 0, _ => .nil
  | _, _, _ + 1, .nil => .nil
  | _, _, n + 1, .cons h r => .cons h (Rps.take n r)
theorem Rps.drop : ∀ {ds : List D} {vs : List V} (n : Nat), Rps T G m ds vs → Rps T G m (ds.drop n) (vs.drop n)
  | _, _, 0, r => r
  | _, _, _ + 1, .nil => .nil
  | _, _, n + 1, .cons _ r => Rps.drop n r
theorem Rps.set {d : D} {v : V} (h : Rp T G m d v) : ∀ {ds : List D} {vs : List V} (i : Nat), Rps T G m ds vs → Rps T G m (ds.set i d) (vs.set i v)
  | _, _, _, .nil => .nil
  | _, _, 0, .cons _ r => .cons h r
  | _, _, i + 1, .cons a r => .cons a (Rps.set h i r)
theorem Rps.reverse {ds : List D} {vs : List V} (h : Rps T G m ds vs) : Rps T G m ds.reverse vs.reverse := by
  induction ds generalizing vs with
  | nil => cases h; exact .nil
  | cons d ds ih =>
    cases h with
    | cons a r =>
      rw [List.reverse_cons, List.reverse_cons]
      exact Rps.append (ih r) (.cons a .nil)
end

/-- what stands in a cell -/
def CellAt (T : Tb) (G : Hp) (m : Mm) (H : Hp) (a : Addr) : Cl → Prop
  | .lst fz ds => ∃ vs, H a = some (.lst vs) ∧ Rps T G m ds vs ∧ (fz = true → G a = some (.lst vs)) ∧ (fz = false → G a = none)
  | .dic fz ks vs => ∃ ho kvs, H a = some ho ∧ DicV T a kvs ho ∧ Rps T G m ks (kvs.map fun p => V.ref p.2.1) ∧ ks.map keyT = kvs.map (fun p => some p.1) ∧ Rps T G m vs (kvs.map fun p => p.2.2) ∧
      (fz = true → G a = some ho) ∧ (fz = false → G a = none)
/-- the state: F is what others have there and stays as it is, G what changes no more, m where the cells stand -/
structure R (T : Tb) (F G : Hp) (m : Mm) (s : S) (H : Hp) : Prop where
  gH : Sub G H
  fH : Sub F H
  fG : ∀ a o, F a = some o → G a = none
  cell : ∀ n c, s.get n = some c → ∃ a, m n = some a ∧ CellAt T G m H a c ∧ F a = none
  inj : ∀ n k a, n ≠ k → (s.get n).isSome = true → (s.get k).isSome = true → m n = some a → m k = some a → False
  lt : ∀ n, (s.get n).isSome = true → n < s.nx
  fresh : ∀ n, s.nx ≤ n → m n = none

theorem Sub.upd {G H : Hp} (k : Sub G H) {p : Addr} {o : HO} (hp : H p = none) : Sub G (upd H p o) := fun a u e => by
  rw [upd_ne (ne_of_none (k a u e) hp)]
  exact k a u e
theorem Sub.upd2 {G H : Hp} (k : Sub G H) {p : Addr} {o : HO} : Sub (L2.upd G p o) (L2.upd H p o) := fun a u e => by
  by_cases h : a = p
  · subst h
    rw [upd_same] at e ⊢
    exact e
  · rw [upd_ne h] at e ⊢
    exact k a u e
theorem none_of_sub {G H : Hp} (k : Sub G H) {a : Addr} (h : H a = none) : G a = none := by
  cases e : G a with
  | none => rfl
  | some o => rw [k a o e] at h; cases h

section
variable {T : Tb} {F G G' H : Hp} {m m' : Mm} {s : S} {a p : Addr} {o : HO} {c : Cl}
theorem Ext.upd {G : Hp} {m : Mm} {p : Addr} {o : HO} (h : G p = none) : Ext G m (L2.upd G p o) m := ⟨Sub.upd (Sub.refl G) h, fun _ _ e => e⟩
theorem CellAt.there (x : CellAt T G m H a c) : H a ≠ none := by
  cases c with
  | lst fz ds => obtain ⟨vs, e, _⟩ := x; rw [e]; simp
  | dic fz ks vs => obtain ⟨ho, kvs, e, _⟩ := x; rw [e]; simp
/-- a thing that changes no more is laid -/
theorem R.imm (r : R T F G m s H) (hp : H p = none) : R T F (upd G p o) m s (upd H p o) where
  gH := r.gH.upd2
  fH := r.fH.upd hp
  fG := fun b u e => by
    rw [upd_ne (ne_of_none (r.fH b u e) hp)]
    exact r.fG b u e
  cell := fun n c e => by
    obtain ⟨b, e1, e2, e3⟩ := r.cell n c e
    have hb : b ≠ p := fun z => by rw [z] at e2; exact e2.there hp
    refine ⟨b, e1, ?_, e3⟩
    have x : Ext G m (upd G p o) m := Ext.upd (none_of_sub r.gH hp)
    cases c with
    | lst fz ds =>
      obtain ⟨vs, h1, h2, h3, h4⟩ := e2
      exact ⟨vs, by rw [upd_ne hb]; exact h1, h2.mono x, fun z => by rw [upd_ne hb]; exact h3 z, fun z => by rw [upd_ne hb]; exact h4 z⟩
    | dic fz ks vs =>
      obtain ⟨ho, kvs, h1, h2, h3, h4, h5, h6, h7⟩ := e2
      exact ⟨ho, kvs, by rw [upd_ne hb]; exact h1, h2, h3.mono x, h4, h5.mono x, fun z => by rw [upd_ne hb]; exact h6 z, fun z => by rw [upd_ne hb]; exact h7 z⟩
  inj := r.inj
  lt := r.lt
  fresh := r.fresh
def mAdd (m : Mm) (n : Nat) (p : Addr) : Mm := fun k => if k = n then some p else m k
theorem Ext.add {G : Hp} {m : Mm} {n : Nat} {p : Addr} (h : m n = none) : Ext G m G (mAdd m n p) := ⟨Sub.refl G, fun k a e => by
  have : k ≠ n := fun z => by rw [z, h] at e; cases e
  show (if k = n then some p else m k) = some a
  rw [if_neg this]
  exact e⟩
theorem S.get_add (s : S) (c : Cl) (n : Nat) : (s.add c).get n = if n = s.nx then some c else s.get n := by
  show List.lookup n ((s.nx, c) :: s.cs) = _
  rw [List.lookup_cons]
  by_cases h : n = s.nx
  · rw [if_pos h, h]
    simp
  · have : (n == s.nx) = false := by simpa using h
    rw [this, if_neg h] <;> rfl
/-- a new cell -/
theorem R.add (r : R T F G m s H) (hp : H p = none) (hc : CellAt T G (mAdd m s.nx p) (upd H p o) p c) : R T F G (mAdd m s.nx p) (s.add c) (upd H p o) where
  gH := r.gH.upd hp
  fH := r.fH.upd hp
  fG := r.fG
  cell := fun n d e => by
    rw [S.get_add] at e
    by_cases h : n = s.nx
    · rw [if_pos h] at e
      cases e
      refine ⟨p, by unfold mAdd; rw [if_pos h], hc, none_of_sub r.fH hp⟩
    · rw [if_neg h] at e
      obtain ⟨b, e1, e2, e3⟩ := r.cell n d e
      have hb : b ≠ p := fun z => by rw [z] at e2; exact e2.there hp
      have x : Ext G m G (mAdd m s.nx p) := Ext.add (r.fresh _ (Nat.le_refl _))
      refine ⟨b, x.m _ _ e1, ?_, e3⟩
      cases d with
      | lst fz ds =>
        obtain ⟨vs, h1, h2, h3, h4⟩ := e2
        exact ⟨vs, by rw [upd_ne hb]; exact h1, h2.mono x, h3, h4⟩
      | dic fz ks vs =>
        obtain ⟨ho, kvs, h1, h2, h3, h4, h5, h6, h7⟩ := e2
        exact ⟨ho, kvs, by rw [upd_ne hb]; exact h1, h2, h3.mono x, h4, h5.mono x, h6, h7⟩
  inj := fun n k b hnk hn hk e1 e2 => by
    rw [S.get_add] at hn hk
    unfold mAdd at e1 e2
    by_cases h : n = s.nx
    · by_cases h' : k = s.nx
      · exact hnk (h.trans h'.symm)
      · rw [if_pos h] at e1
        rw [if_neg h'] at e2 hk
        obtain ⟨d, hd⟩ := Option.isSome_iff_exists.mp hk
        obtain ⟨b', e3, e4, _⟩ := r.cell k d hd
        rw [e2] at e3
        cases e3
        cases e1
        exact e4.there hp
    · by_cases h' : k = s.nx
      · rw [if_neg h] at e1 hn
        rw [if_pos h'] at e2
        obtain ⟨d, hd⟩ := Option.isSome_iff_exists.mp hn
        obtain ⟨b', e3, e4, _⟩ := r.cell n d hd
        rw [e1] at e3
        cases e3
        cases e2
        exact e4.there hp
      · rw [if_neg h] at e1 hn
        rw [if_neg h'] at e2 hk
        exact r.inj n k b hnk hn hk e1 e2
  lt := fun n hn => by
    rw [S.get_add] at hn
    show n < s.nx + 1
    by_cases h : n = s.nx
    · omega
    · rw [if_neg h] at hn
      exact Nat.lt_succ_of_lt (r.lt n hn)
  fresh := fun n hn => by
    have hn' : s.nx + 1 ≤ n := hn
    show (if n = s.nx then some p else m n) = none
    rw [if_neg (by omega)]
    exact r.fresh n (by omega)
theorem lookup_putC (n k : Nat) (c : Cl) : ∀ l : List (Nat × Cl), (putC n c l).lookup k = if k = n then (l.lookup n).map (fun _ => c) else l.lookup k
  | [] => by
    show List.lookup k [] = _
    split <;> simp
  | (j, d) :: r => by
    have ih := lookup_putC n k c r
    unfold putC
    by_cases hj : j = n
    · rw [if_pos hj]
      subst hj
      by_cases hk : k = j
      · subst hk
        simp [List.lookup]
      · have e : (k == j) = false := by simpa using hk
        rw [if_neg hk]
        simp [List.lookup, e]
    · rw [if_neg hj]
      have e0 : (n == j) = false := by simpa using fun z : n = j => hj z.symm
      by_cases hkj : k = j
      · subst hkj
        rw [if_neg hj]
        simp [List.lookup]
      · have e : (k == j) = false := by simpa using hkj
        simp only [List.lookup, e, e0]
        exact ih
theorem S.get_put {s : S} {n : Nat} {c : Cl} {d : Cl} (h : s.get n = some d) (k : Nat) : (s.put n c).get k = if k = n then some c else s.get k := by
  show (putC n c s.cs).lookup k = _
  rw [lookup_putC]
  have h' : s.cs.lookup n = some d := h
  rw [h']
  rfl
/-- a cell is written (it changes still), or frozen -/
theorem R.put {n : Nat} {d : Cl} (r : R T F G m s H) (hn : s.get n = some d) (hm : m n = some a) (hG : G a = none) (hc : CellAt T G m (upd H a o) a c) : R T F G m (s.put n c) (upd H a o) where
  gH := fun b u e => by
    have hb : b ≠ a := fun z => by rw [z, hG] at e; cases e
    rw [upd_ne hb]
    exact r.gH b u e
  fH := fun b u e => by
    have hb : b ≠ a := fun z => by
      obtain ⟨a', e1, _, e3⟩ := r.cell n d hn
      rw [hm] at e1
      cases e1
      rw [z, e3] at e
      cases e
    rw [upd_ne hb]
    exact r.fH b u e
  fG := r.fG
  cell := fun k e h => by
    rw [S.get_put hn] at h
    by_cases hk : k = n
    · rw [if_pos hk] at h
      cases h
      obtain ⟨a', e1, _, e3⟩ := r.cell n d hn
      rw [hm] at e1
      cases e1
      exact ⟨a, by rw [hk]; exact hm, hc, e3⟩
    · rw [if_neg hk] at h
      obtain ⟨b, e1, e2, e3⟩ := r.cell k e h
      have hb : b ≠ a := fun z => r.inj k n a hk (by rw [h]; rfl) (by rw [hn]; rfl) (by rw [← z]; exact e1) hm
      refine ⟨b, e1, ?_, e3⟩
      cases e with
      | lst fz ds =>
        obtain ⟨vs, h1, h2, h3, h4⟩ := e2
        exact ⟨vs, by rw [upd_ne hb]; exact h1, h2, h3, h4⟩
      | dic fz ks vs =>
        obtain ⟨ho, kvs, h1, h2, h3, h4, h5, h6, h7⟩ := e2
        exact ⟨ho, kvs, by rw [upd_ne hb]; exact h1, h2, h3, h4, h5, h6, h7⟩
  inj := fun j k b hjk hj hk e1 e2 => by
    rw [S.get_put hn] at hj hk
    refine r.inj j k b hjk ?_ ?_ e1 e2
    · by_cases z : j = n
      · rw [z, hn]; rfl
      · rw [if_neg z] at hj; exact hj
    · by_cases z : k = n
      · rw [z, hn]; rfl
      · rw [if_neg z] at hk; exact hk
  lt := fun k hk => by
    rw [S.get_put hn] at hk
    refine r.lt k ?_
    by_cases z : k = n
    · rw [z, hn]; rfl
    · rw [if_neg z] at hk; exact hk
  fresh := r.fresh
/-- a cell is frozen -/
theorem R.frz {n : Nat} {d : Cl} (r : R T F G m s H) (hn : s.get n = some d) (hm : m n = some a) (hG : G a = none) (hH : H a = some o) (hc : CellAt T (upd G a o) m H a c) : R T F (upd G a o) m (s.put n c) H where
  gH := fun b u e => by
    by_cases hb : b = a
    · subst hb
      rw [upd_same] at e
      cases e
      exact hH
    · rw [upd_ne hb] at e
      exact r.gH b u e
  fH := r.fH
  fG := fun b u e => by
    have hb : b ≠ a := fun z => by
      obtain ⟨a', e1, _, e3⟩ := r.cell n d hn
      rw [hm] at e1
      cases e1
      rw [z, e3] at e
      cases e
    rw [upd_ne hb]
    exact r.fG b u e
  cell := fun k e h => by
    rw [S.get_put hn] at h
    by_cases hk : k = n
    · rw [if_pos hk] at h
      cases h
      obtain ⟨a', e1, _, e3⟩ := r.cell n d hn
      rw [hm] at e1
      cases e1
      exact ⟨a, by rw [hk]; exact hm, hc, e3⟩
    · rw [if_neg hk] at h
      obtain ⟨b, e1, e2, e3⟩ := r.cell k e h
      have hb : b ≠ a := fun z => r.inj k n a hk (by rw [h]; rfl) (by rw [hn]; rfl) (by rw [← z]; exact e1) hm
      have x : Ext G m (upd G a o) m := Ext.upd hG
      refine ⟨b, e1, ?_, e3⟩
      cases e with
      | lst fz ds =>
        obtain ⟨vs, h1, h2, h3, h4⟩ := e2
        exact ⟨vs, h1, h2.mono x, fun z => by rw [upd_ne hb]; exact h3 z, fun z => by rw [upd_ne hb]; exact h4 z⟩
      | dic fz ks vs =>
        obtain ⟨ho, kvs, h1, h2, h3, h4, h5, h6, h7⟩ := e2
        exact ⟨ho, kvs, h1, h2, h3.mono x, h4, h5.mono x, fun z => by rw [upd_ne hb]; exact h6 z, fun z => by rw [upd_ne hb]; exact h7 z⟩
  inj := fun j k b hjk hj hk e1 e2 => by
    rw [S.get_put hn] at hj hk
    refine r.inj j k b hjk ?_ ?_ e1 e2
    · by_cases z : j = n
      · rw [z, hn]; rfl
      · rw [if_neg z] at hj; exact hj
    · by_cases z : k = n
      · rw [z, hn]; rfl
      · rw [if_neg z] at hk; exact hk
  lt := fun k hk => by
    rw [S.get_put hn] at hk
    refine r.lt k ?_
    by_cases z : k = n
    · rw [z, hn]; rfl
    · rw [if_neg z] at hk; exact hk
  fresh := r.fresh
end
end Mi
set_option Elab.async false
set_option linter.all false
set_option maxRecDepth 100000
set_option maxHeartbeats 1000000
/-! Mi3: reading values; what a call leaves. -/
namespace Mi
open PySem PySem.Spec PyProof.Rows L2

section
variable {T : Tb} {F G G' H : Hp} {m m' : Mm} {s : S} {a p : Addr} {o : HO} {c : Cl}
/-- a list that is read -/
theorem R.items (r : R T F G m s H) {d : D} {ds : List D} {v : V} (h : s.items d = some ds) (x : Rp T G m d v) : ∃ a vs, v = .ref a ∧ H a = some (.lst vs) ∧ Rps T G m ds vs := by
  cases x with
  | @lst a vs ds' h1 h2 =>
    simp only [S.items, Option.some.injEq] at h
    subst h
    exact ⟨a, vs, rfl, r.gH _ _ h1, h2⟩
  | @ref n a e =>
    simp only [S.items] at h
    cases q : s.get n with
    | none => rw [q] at h; cases h
    | some c =>
      rw [q] at h
      cases c with
      | dic _ _ _ => cases h
      | lst fz ds' =>
        simp only [Option.some.injEq] at h
        subst h
        obtain ⟨a', e1, ⟨vs, h1, h2, _⟩, _⟩ := r.cell n _ q
        rw [e] at e1
        cases e1
        exact ⟨a, vs, rfl, h1, h2⟩
  | _ => simp [S.items] at h
/-- .. that is walked -/
theorem R.walkS (r : R T F G m s H) {d : D} {ds : List D} {v : V} (h : s.walkS d = some ds) (x : Rp T G m d v) : ∃ a vs, v = .ref a ∧ (G a = some (.lst vs) ∨ SqT T.K G a vs) ∧ Rps T G m ds vs := by
  cases x with
  | @lst a vs ds' h1 h2 =>
    simp only [S.walkS, Option.some.injEq] at h
    subst h
    exact ⟨a, vs, rfl, .inl h1, h2⟩
  | @tup a vs ds' h1 h2 =>
    simp only [S.walkS, Option.some.injEq] at h
    subst h
    exact ⟨a, vs, rfl, .inr h1, h2⟩
  | @ref n a e =>
    simp only [S.walkS] at h
    cases q : s.get n with
    | none => rw [q] at h; cases h
    | some c =>
      rw [q] at h
      cases c with
      | dic _ _ _ => cases h
      | lst fz ds' =>
        cases fz with
        | false => cases h
        | true =>
          simp only [Option.some.injEq] at h
          subst h
          obtain ⟨a', e1, ⟨vs, h1, h2, h3, _⟩, _⟩ := r.cell n _ q
          rw [e] at e1
          cases e1
          exact ⟨a, vs, rfl, .inl (h3 rfl), h2⟩
  | _ => simp [S.walkS] at h

/-- what a look tells of a cell -/
def LookOk (T : Tb) (H : Hp) (m : Mm) (lk : Nat → Option PyData) : Prop := ∀ n p a, lk n = some p → m n = some a → Dp T.K H (.ref a) p
mutual
theorem Rp.toPy (r : R T F G m s H) {lk : Nat → Option PyData} (hl : LookOk T H m lk) : ∀ {d : D} {v : V} {p : PyData}, Rp T G m d v → Mi.toPy lk d = some p → Dp T.K H v p
  | _, _, _, .non, e => by simp only [Mi.toPy, Option.some.injEq] at e; subst e; exact .non
  | _, _, _, .bl b, e => by simp only [Mi.toPy, Option.some.injEq] at e; subst e; exact .bl b
  | _, _, _, .int i, e => by simp only [Mi.toPy, Option.some.injEq] at e; subst e; exact .int i
  | _, _, _, .str x, e => by simp only [Mi.toPy, Option.some.injEq] at e; subst e; exact .str x
  | _, _, _, .tup (ds := ds) h1 h2, e => by
    simp only [Mi.toPy, Option.map_eq_some_iff] at e
    obtain ⟨ps, e1, rfl⟩ := e
    exact .tup (SqT.sub r.gH h1) (Rps.toPys r hl h2 e1)
  | _, _, _, .lst (ds := ds) h1 h2, e => by
    simp only [Mi.toPy, Option.map_eq_some_iff] at e
    obtain ⟨ps, e1, rfl⟩ := e
    exact .lst (SqL.of (r.gH _ _ h1)) (Rps.toPys r hl h2 e1)
  | _, _, _, .dic _ _ _ _ _, e => by simp [Mi.toPy] at e
  | _, _, _, .ref h, e => hl _ _ _ (by simpa [Mi.toPy] using e) h
  | _, _, _, .fn _, e => by simp [Mi.toPy] at e
  | _, _, _, .ty _, e => by simp [Mi.toPy] at e
  | _, _, _, .inp _, e => by simp [Mi.toPy] at e
theorem Rps.toPys (r : R T F G m s H) {lk : Nat → Option PyData} (hl : LookOk T H m lk) : ∀ {ds : List D} {vs : List V} {ps : List PyData}, Rps T G m ds vs → Mi.toPys lk ds = some ps → DpAll T.K H vs ps
  | _, _, _, .nil, e => by simp only [Mi.toPys, Option.some.injEq] at e; subst e; exact .nil
  | _, _, _, .cons (d := d) (ds := ds) h1 h2, e => by
    simp only [Mi.toPys] at e
    cases q1 : Mi.toPy lk d with
    | none => rw [q1] at e; simp at e
    | some p =>
      cases q2 : Mi.toPys lk ds with
      | none => rw [q1, q2] at e; simp at e
      | some ps =>
        rw [q1, q2] at e
        simp only [Option.some.injEq] at e
        subst e
        exact .cons (Rp.toPy r hl h1 q1) (Rps.toPys r hl h2 q2)
end
theorem R.look (r : R T F G m s H) : ∀ k, LookOk T H m (s.look k)
  | 0 => fun n p a e _ => by simp [S.look] at e
  | k + 1 => fun n p a e hm => by
    simp only [S.look] at e
    cases q : s.get n with
    | none => rw [q] at e; cases e
    | some c =>
      rw [q] at e
      cases c with
      | dic _ _ _ => cases e
      | lst fz ds =>
        simp only [Option.map_eq_some_iff] at e
        obtain ⟨ps, e1, rfl⟩ := e
        obtain ⟨a', e2, ⟨vs, h1, h2, _⟩, _⟩ := r.cell n _ q
        rw [hm] at e2
        cases e2
        exact .lst (SqL.of h1) (Rps.toPys r (r.look k) h2 e1)
theorem R.py (r : R T F G m s H) {d : D} {v : V} {p : PyData} (h : s.py d = some p) (x : Rp T G m d v) : Dp T.K H v p := x.toPy r (r.look 4) h
theorem R.pys (r : R T F G m s H) {ds : List D} {vs : List V} {ps : List PyData} (h : s.pys ds = some ps) (x : Rps T G m ds vs) : DpAll T.K H vs ps := x.toPys r (r.look 4) h

theorem lookup_filter (n k : Nat) : ∀ l : List (Nat × Cl), (l.filter fun p => decide (p.1 < n)).lookup k = if k < n then l.lookup k else none
  | [] => by simp
  | (j, d) :: r => by
    have ih := lookup_filter n k r
    by_cases hj : j < n
    · rw [List.filter_cons_of_pos (by simpa using hj)]
      by_cases hk : k = j
      · subst hk
        simp [List.lookup, hj]
      · have e : (k == j) = false := by simpa using hk
        simp only [List.lookup, e]
        exact ih
    · rw [List.filter_cons_of_neg (by simpa using hj), ih]
      by_cases hk : k = j
      · subst hk
        simp [hj]
      · have e : (k == j) = false := by simpa using hk
        simp only [List.lookup, e]
theorem CellAt.cut (n : Nat) (hm : ∀ k, k < n → m k = m' k) {c : Cl} (hb : belowC n c = true) (x : CellAt T G m H a c) : CellAt T G m' H a c := by
  cases c with
  | lst fz ds =>
    obtain ⟨vs, h1, h2, h3, h4⟩ := x
    exact ⟨vs, h1, h2.cut n hm hb, h3, h4⟩
  | dic fz ks vs =>
    obtain ⟨ho, kvs, h1, h2, h3, h4, h5, h6, h7⟩ := x
    have q := Bool.and_eq_true_iff.mp (show (belows n ks && belows n vs) = true from hb)
    exact ⟨ho, kvs, h1, h2, h3.cut n hm q.1, h4, h5.cut n hm q.2, h6, h7⟩
/-- behind a call -/
theorem R.clean (n : Nat) {d : D} {v : V} (r : R T F G m s H) (x : Rp T G m d v) : ∃ m', (∀ k a, k < n → m k = some a → m' k = some a) ∧ R T F G m' (clean n d s).2 H ∧ Rp T G m' (clean n d s).1 v := by
  have same : ∃ m', (∀ k a, k < n → m k = some a → m' k = some a) ∧ R T F G m' s H ∧ Rp T G m' d v := ⟨m, fun _ _ _ e => e, r, x⟩
  unfold Mi.clean
  by_cases hold : ((s.cs.filter fun p => decide (p.1 < n)).all fun p => belowC n p.2) = true
  · rw [if_pos hold]
    have old_get : ∀ k c, k < n → s.get k = some c → belowC n c = true := fun k c hk e => by
      have e' : (s.cs.filter fun p => decide (p.1 < n)).lookup k = some c := by
        rw [lookup_filter, if_pos hk]
        exact e
      have mem : (k, c) ∈ s.cs.filter fun p => decide (p.1 < n) := by
        clear hold x same r
        revert e'
        generalize (s.cs.filter fun p => decide (p.1 < n)) = l
        intro e'
        induction l with
        | nil => simp at e'
        | cons q l ih =>
          obtain ⟨j, d'⟩ := q
          rw [List.lookup_cons] at e'
          by_cases hkj : k = j
          · subst hkj
            simp at e'
            rw [e']
            exact List.mem_cons_self
          · have eb : (k == j) = false := by simpa using hkj
            rw [eb] at e'
            exact List.mem_cons_of_mem _ (ih e')
      exact List.all_eq_true.mp hold _ mem
    by_cases hd : below n d = true
    · rw [if_pos hd]
      have hm : ∀ k, k < n → m k = (if k < n then m k else none) := fun k hk => by rw [if_pos hk]
      refine ⟨fun k => if k < n then m k else none, fun k a hk e => (hm k hk).symm.trans e, ⟨r.gH, r.fH, r.fG, fun k c e => ?_, fun j k b hjk hj hk e1 e2 => ?_, fun k hk => ?_, fun k hk => ?_⟩, x.cut n hm hd⟩
      · have e' : (if k < n then s.cs.lookup k else none) = some c := by rw [← lookup_filter]; exact e
        by_cases hk : k < n
        · rw [if_pos hk] at e'
          obtain ⟨b, q1, q2, q3⟩ := r.cell k c e'
          exact ⟨b, by rw [if_pos hk]; exact q1, q2.cut n hm (old_get k c hk e'), q3⟩
        · rw [if_neg hk] at e'
          cases e'
      · have pos : ∀ i, (S.get ⟨n, s.cs.filter fun p => decide (p.1 < n)⟩ i).isSome = true → i < n ∧ (s.get i).isSome = true := fun i hi => by
          have hi' : ((s.cs.filter fun p => decide (p.1 < n)).lookup i).isSome = true := hi
          rw [lookup_filter] at hi'
          by_cases z : i < n
          · rw [if_pos z] at hi'
            exact ⟨z, hi'⟩
          · rw [if_neg z] at hi'
            cases hi'
        obtain ⟨p1, p2⟩ := pos j hj
        obtain ⟨p3, p4⟩ := pos k hk
        simp only [if_pos p1] at e1
        simp only [if_pos p3] at e2
        exact r.inj j k b hjk p2 p4 e1 e2
      · have hk' : ((s.cs.filter fun p => decide (p.1 < n)).lookup k).isSome = true := hk
        rw [lookup_filter] at hk'
        by_cases z : k < n
        · exact z
        · rw [if_neg z] at hk'
          cases hk'
      · have hk' : n ≤ k := hk
        show (if k < n then m k else none) = none
        rw [if_neg (by omega)]
    · rw [if_neg hd]
      cases x with
      | @ref k a e =>
        simp only
        cases hg : s.get k with
        | none => simp only; exact ⟨m, fun _ _ _ e => e, r, .ref e⟩
        | some c =>
          simp only
          by_cases hc : belowC n c = true
          · rw [if_pos hc]
            have hm : ∀ j, j < n → m j = (if j < n then m j else if j = n then m k else none) := fun j hj => by rw [if_pos hj]
            have hkn : ¬ k < n := fun z => hd (by simp [below, z])
            obtain ⟨b0, q1, q2, q3⟩ := r.cell k c hg
            have get' : ∀ i, S.get ⟨n + 1, (n, c) :: s.cs.filter fun p => decide (p.1 < n)⟩ i = if i = n then some c else if i < n then s.get i else none := fun i => by
              show List.lookup i ((n, c) :: s.cs.filter fun p => decide (p.1 < n)) = _
              rw [List.lookup_cons]
              by_cases z : i = n
              · rw [if_pos z, z]; simp
              · have eb : (i == n) = false := by simpa using z
                rw [eb, if_neg z, lookup_filter]
                rfl
            refine ⟨fun j => if j < n then m j else if j = n then m k else none, fun j a hj e => (hm j hj).symm.trans e, ⟨r.gH, r.fH, r.fG, fun j c' e' => ?_, fun j i b hji hj hi e1 e2 => ?_, fun j hj => ?_, fun j hj => ?_⟩, .ref ?_⟩
            · rw [get'] at e'
              by_cases z : j = n
              · rw [if_pos z] at e'
                cases e'
                refine ⟨b0, ?_, q2.cut n hm hc, q3⟩
                rw [z, if_neg (Nat.lt_irrefl n), if_pos rfl]
                exact q1
              · rw [if_neg z] at e'
                by_cases hj : j < n
                · rw [if_pos hj] at e'
                  obtain ⟨b, t1, t2, t3⟩ := r.cell j c' e'
                  exact ⟨b, by rw [if_pos hj]; exact t1, t2.cut n hm (old_get j c' hj e'), t3⟩
                · rw [if_neg hj] at e'
                  cases e'
            · rw [get'] at hj hi
              have hk : (s.get k).isSome = true := by rw [hg]; rfl
              by_cases z1 : j = n
              · by_cases z2 : i = n
                · exact hji (z1.trans z2.symm)
                · rw [if_neg z2] at hi
                  by_cases z3 : i < n
                  · rw [if_pos z3] at hi
                    simp only [z1, Nat.lt_irrefl, if_false, if_true] at e1
                    simp only [if_pos z3] at e2
                    exact r.inj k i b (fun z => hkn (by omega)) hk hi e1 e2
                  · rw [if_neg z3] at hi
                    cases hi
              · rw [if_neg z1] at hj
                by_cases z4 : j < n
                · rw [if_pos z4] at hj
                  simp only [if_pos z4] at e1
                  by_cases z2 : i = n
                  · simp only [z2, Nat.lt_irrefl, if_false, if_true] at e2
                    exact r.inj j k b (fun z => hkn (by omega)) hj hk e1 e2
                  · rw [if_neg z2] at hi
                    by_cases z3 : i < n
                    · rw [if_pos z3] at hi
                      simp only [if_pos z3] at e2
                      exact r.inj j i b hji hj hi e1 e2
                    · rw [if_neg z3] at hi
                      cases hi
                · rw [if_neg z4] at hj
                  cases hj
            · rw [get'] at hj
              show j < n + 1
              by_cases z1 : j = n
              · omega
              · rw [if_neg z1] at hj
                by_cases z4 : j < n
                · omega
                · rw [if_neg z4] at hj
                  cases hj
            · have hj' : n + 1 ≤ j := hj
              show (if j < n then m j else if j = n then m k else none) = none
              rw [if_neg (by omega), if_neg (by omega)]
            · show (if n < n then m n else if n = n then m k else none) = some a
              rw [if_neg (Nat.lt_irrefl n), if_pos rfl]
              exact e
          · rw [if_neg hc]
            exact ⟨m, fun _ _ _ e => e, r, .ref e⟩
      | _ => exact ⟨m, fun _ _ _ e => e, r, by first | exact .non | exact .bl _ | exact .int _ | exact .str _ | exact .fn _ | exact .ty _ | exact .inp ‹_› | (exact .tup ‹_› ‹_›) | (exact .lst ‹_› ‹_›) | (exact .dic ‹_› ‹_› ‹_› ‹_› ‹_›)⟩
  · rw [if_neg hold]
    exact same
end

/-! ### what is wanted of an evaluation -/
/-- an exception's own dict -/
def XD (T : Tb) (G : Hp) (m : Mm) (x : Exc) (d : Option Addr) : Prop := match x.fl with
  | [] => d = none
  | fl => ∃ dd fs, d = some dd ∧ G dd = some (.xd fs) ∧ fs.map (·.1) = fl.map (·.1) ∧ Rps T G m (fl.map (·.2)) (fs.map (·.2))
/-- the names' values -/
structure RpS (T : Tb) (G : Hp) (m : Mm) (τ : Tau) (σ : L2.St) : Prop where
  len : τ.length = σ.length
  at_ : ∀ (i : Nat) (d : D), τ[i]? = some (some d) → ∃ v, σ[i]? = some (some v) ∧ Rp T G m d v
theorem RpS.mono {T : Tb} {G G' : Hp} {m m' : Mm} {τ : Tau} {σ : L2.St} (x : Ext G m G' m') (h : RpS T G m τ σ) : RpS T G' m' τ σ :=
  ⟨h.len, fun i d e => let ⟨v, e1, e2⟩ := h.at_ i d e; ⟨v, e1, e2.mono x⟩⟩
theorem RpS.set {T : Tb} {G : Hp} {m : Mm} {τ : Tau} {σ : L2.St} (h : RpS T G m τ σ) (i : Nat) {d : D} {v : V} (r : Rp T G m d v) : RpS T G m (τ.set i (some d)) (σ.set i (some v)) where
  len := by simp [h.len]
  at_ := fun j e q => by
    by_cases hj : i = j
    · subst hj
      by_cases hl : i < τ.length
      · rw [List.getElem?_set_self hl] at q
        cases q
        exact ⟨v, by rw [List.getElem?_set_self (by rw [← h.len]; exact hl)], r⟩
      · rw [List.getElem?_eq_none (by simpa using hl)] at q
        cases q
    · rw [List.getElem?_set_ne hj] at q ⊢
      exact h.at_ j e q
theorem RpS.unset {T : Tb} {G : Hp} {m : Mm} {τ : Tau} {σ : L2.St} (h : RpS T G m τ σ) (i : Nat) (u : Option V) : RpS T G m (τ.set i none) (σ.set i u) where
  len := by simp [h.len]
  at_ := fun j e q => by
    by_cases hj : i = j
    · subst hj
      by_cases hl : i < τ.length
      · rw [List.getElem?_set_self hl] at q
        cases q
      · rw [List.getElem?_eq_none (by simpa using hl)] at q
        cases q
    · rw [List.getElem?_set_ne hj] at q ⊢
      exact h.at_ j e q
theorem RpS.wipe {T : Tb} {G : Hp} {m : Mm} {τ : Tau} {σ : L2.St} (h : RpS T G m τ σ) : ∀ vs : List Nat, RpS T G m (wipeT τ vs) (L2.wipe σ vs)
  | [] => h
  | v :: vs => (RpS.wipe h vs).unset v none

section
variable (T : Tb) (W : WX) {α β : Type} (Rel : Hp → Mm → α → β → Prop)
def TRg (σ : L2.St) (F G : Hp) (m : Mm) (r : Res α) (Q : β → Hp → Prop) : Prop := match r with
  | .ok a s => ∀ G' m' H' b, Ext G m G' m' → R T F G' m' s H' → Rel G' m' a b → Q b H'
  | .exc x s => ∀ G' m' H' d, Ext G m G' m' → R T F G' m' s H' → XD T G' m' x d → W (.ref (T.ca x.c)) d σ H'
  | .stuck => False
/-- an evaluation's reading -/
def tRd (ev : Tau → S → Res α) : L2.St → Hp → (β → Hp → Prop) → Prop := fun σ H Q =>
  ∃ F G m s τ, R T F G m s H ∧ RpS T G m τ σ ∧ TRg T W Rel σ F G m (ev τ s) Q
end
section
variable {T : Tb} {W : WX} {α β γ δ : Type} {Rel : Hp → Mm → α → β → Prop} {Rel' : Hp → Mm → γ → δ → Prop} {σ : L2.St} {F G G1 : Hp} {m m1 : Mm} {r : Res α} {Q : β → Hp → Prop} {Q' : δ → Hp → Prop}
theorem TRg.mono (x : Ext G m G1 m1) (h : TRg T W Rel σ F G m r Q) : TRg T W Rel σ F G1 m1 r Q := by
  cases r with
  | ok a s => exact fun G' m' H' b e => h G' m' H' b (x.trans e)
  | exc y s => exact fun G' m' H' d e => h G' m' H' d (x.trans e)
  | stuck => exact h
theorem TRg.bind {f : α → S → Res γ} (h : TRg T W Rel' σ F G m (r.bind f) Q') (k : ∀ a s G' m' H' b, Ext G m G' m' → R T F G' m' s H' → Rel G' m' a b → TRg T W Rel' σ F G' m' (f a s) Q' → Q b H') : TRg T W Rel σ F G m r Q := by
  cases r with
  | ok a s => exact fun G' m' H' b e r1 r2 => k a s G' m' H' b e r1 r2 (TRg.mono e h)
  | exc y s => exact h
  | stuck => exact h
/-- the first evaluation of a bind -/
theorem tRd.bind {ev : Tau → S → Res α} {f : α → S → Res γ} {H : Hp} {s : S} {τ : Tau} (r : R T F G m s H) (hs : RpS T G m τ σ) (h : TRg T W Rel' σ F G m ((ev τ s).bind f) Q')
    (k : ∀ a s G' m' H' b, Ext G m G' m' → R T F G' m' s H' → RpS T G' m' τ σ → Rel G' m' a b → TRg T W Rel' σ F G' m' (f a s) Q' → Q b H') : tRd T W Rel ev σ H Q :=
  ⟨F, G, m, s, τ, r, hs, TRg.bind h fun a s G' m' H' b e r1 r2 h1 => k a s G' m' H' b e r1 (hs.mono e) r2 h1⟩
theorem TRg.ok {a : α} {s : S} {H : Hp} {b : β} (h : TRg T W Rel σ F G m (.ok a s) Q) (r : R T F G m s H) (q : Rel G m a b) : Q b H := h G m H b (Ext.refl G m) r q
end
end Mi
set_option Elab.async false
set_option linter.all false
set_option maxRecDepth 100000
set_option maxHeartbeats 2000000
/-! Mi4: the operations on values, against the hand layer's rules. -/
namespace Mi
open PySem PySem.Spec PyProof.Rows L2

abbrev tb (X : Cx) (fa ca : Nat → Addr) : Tb := ⟨X.prog, X.w, X.K, fa, ca⟩
/-- what an operation on two values asks -/
def rO (T : Tb) (W : WX) (σ₀ : L2.St) (ev : D → D → S → Res D) : R2 := fun x y H Q =>
  ∃ F G m s d e, R T F G m s H ∧ Rp T G m d x ∧ Rp T G m e y ∧ TRg T W (Rp T) σ₀ F G m (ev d e s) Q
def opBo : Bo → Operator
  | .add => .Add
  | .sub => .Sub
  | .mul => .Mult
  | .fdiv => .FloorDiv
  | .mod => .Mod
  | .pow => .Pow
section
variable {X : Cx} {fa ca : Nat → Addr} {W : WX} {σ₀ : L2.St}
theorem TRg.ite {T : Tb} {α β : Type} {Rel : Hp → Mm → α → β → Prop} {F G : Hp} {m : Mm} {c : Prop} [Decidable c] {r : Res α} {Q : β → Hp → Prop} (h : TRg T W Rel σ₀ F G m (if c then r else .stuck) Q) : c ∧ TRg T W Rel σ₀ F G m r Q := by
  by_cases hc : c
  · rw [if_pos hc] at h
    exact ⟨hc, h⟩
  · rw [if_neg hc] at h
    exact h.elim
/-- a fresh thing that changes no more is handed back -/
theorem TRg.new {T : Tb} {F G H : Hp} {m : Mm} {s : S} {d : D} {Q : VK} {o : HO} (h : TRg T W (Rp T) σ₀ F G m (.ok d s) Q) (r : R T F G m s H) (k : ∀ p, H p = none → Rp T (upd G p o) m d (.ref p)) : ∀ p, H p = none → Q (.ref p) (upd H p o) :=
  fun p hp => h (upd G p o) m (upd H p o) (.ref p) (Ext.upd (none_of_sub r.gH hp)) (r.imm hp) (k p hp)
theorem fits_len {ds : List D} (h : fits ds = true) : ds.length ≤ sizeLine := of_decide_eq_true h
theorem op_add1 : OpR X (binaryOp .Add) (rO (tb X fa ca) W σ₀ (evBin .add)) := by
  intro pins s σ H x y v u Q I rx ry h
  obtain ⟨F, G, m, st, d, e, r, rd, re, h⟩ := h
  -- two lists
  have lists : (TRg (tb X fa ca) W (Rp (tb X fa ca)) σ₀ F G m (match st.items d, st.items e with
      | some xs, some ys => if fits (xs ++ ys) then .ok (.lst (xs ++ ys)) st else .stuck
      | _, _ => .stuck) Q) → wpAny (model X.prog X.w) X.A (binaryOp .Add v u) (EP X pins σ Q) X.xe s := by
    intro h
    cases q1 : st.items d with
    | none => rw [q1] at h; exact h.elim
    | some xs =>
      cases q2 : st.items e with
      | none => rw [q1, q2] at h; exact h.elim
      | some ys =>
        rw [q1, q2] at h
        obtain ⟨hf, h⟩ := TRg.ite h
        obtain ⟨a, vs, rfl, ha, ra⟩ := r.items q1 rd
        obtain ⟨b, ws, rfl, hb, rb⟩ := r.items q2 re
        refine op_cat pins s σ H _ _ v u Q I rx ry ⟨a, b, vs, ws, rfl, rfl, ha, hb, ?_, ?_⟩
        · have := fits_len hf
          rw [List.length_append, ra.length, rb.length] at this
          exact this
        · exact h.new r fun p hp => .lst upd_same ((ra.append rb).mono (Ext.upd (none_of_sub r.gH hp)))
  cases rd with
  | int i =>
    cases re with
    | int j => exact op_add pins s σ H _ _ v u Q I rx ry ⟨i, j, rfl, rfl, TRg.ok h r (.int _)⟩
    | _ => exact (show False from h).elim
  | @tup a vs ds h1 h2 =>
    cases re with
    | @tup b ws es h3 h4 =>
      obtain ⟨hf, h⟩ := TRg.ite h
      have hl := fits_len hf
      rw [List.length_append, h2.length, h4.length] at hl
      refine op_catA pins s σ H _ _ v u Q I rx ry ⟨a, b, vs, ws, rfl, rfl, SqT.sub r.gH h1, SqT.sub r.gH h3, hl, ?_, ?_, ?_⟩
      · intro e
        subst e
        cases h2
        exact TRg.ok h r (.tup h3 h4)
      · intro _ e
        subst e
        cases h4
        rw [List.append_nil] at h
        exact TRg.ok h r (.tup h1 h2)
      · intro _ _
        exact h.new r fun p hp => .tup (SqT.of upd_same) ((h2.append h4).mono (Ext.upd (none_of_sub r.gH hp)))
    | _ => exact (show False from h).elim
  | lst _ _ => cases re <;> first | exact lists h | exact (show False from h).elim
  | ref _ => cases re <;> first | exact lists h | exact (show False from h).elim
  | _ => cases re <;> first | exact (show False from h).elim | exact lists h
theorem mulOk_c {i j : Int} (h : mulOk i j = true) : CMul i j := by
  unfold mulOk at h
  rcases Bool.or_eq_true_iff.mp h with h | h
  · have := Bool.and_eq_true_iff.mp h
    exact .inl ⟨of_decide_eq_true this.1, of_decide_eq_true this.2⟩
  · have := Bool.and_eq_true_iff.mp h
    exact .inr ⟨of_decide_eq_true this.1, of_decide_eq_true this.2⟩
theorem op_bin (o : Bo) : OpR X (binaryOp (opBo o)) (rO (tb X fa ca) W σ₀ (evBin o)) := by
  cases o with
  | add => exact op_add1
  | sub =>
    intro pins s σ H x y v u Q I rx ry h
    obtain ⟨F, G, m, st, d, e, r, rd, re, h⟩ := h
    cases rd <;> cases re <;> first
      | exact (show False from h).elim
      | exact op_sub pins s σ H _ _ v u Q I rx ry ⟨_, _, rfl, rfl, TRg.ok h r (.int _)⟩
  | mul =>
    intro pins s σ H x y v u Q I rx ry h
    obtain ⟨F, G, m, st, d, e, r, rd, re, h⟩ := h
    cases rd <;> cases re <;> first
      | exact (show False from h).elim
      | (obtain ⟨hc, h⟩ := TRg.ite h; exact op_mul pins s σ H _ _ v u Q I rx ry ⟨_, _, rfl, rfl, mulOk_c hc, TRg.ok h r (.int _)⟩)
  | fdiv =>
    intro pins s σ H x y v u Q I rx ry h
    obtain ⟨F, G, m, st, d, e, r, rd, re, h⟩ := h
    cases rd <;> cases re <;> first
      | exact (show False from h).elim
      | (obtain ⟨hc, h⟩ := TRg.ite h; exact op_fdiv pins s σ H _ _ v u Q I rx ry ⟨_, _, rfl, rfl, hc, TRg.ok h r (.int _)⟩)
  | mod =>
    intro pins s σ H x y v u Q I rx ry h
    obtain ⟨F, G, m, st, d, e, r, rd, re, h⟩ := h
    cases rd <;> cases re <;> first
      | exact (show False from h).elim
      | (obtain ⟨hc, h⟩ := TRg.ite h; exact op_mod pins s σ H _ _ v u Q I rx ry ⟨_, _, rfl, rfl, hc, TRg.ok h r (.int _)⟩)
  | pow =>
    intro pins s σ H x y v u Q I rx ry h
    obtain ⟨F, G, m, st, d, e, r, rd, re, h⟩ := h
    cases rd <;> cases re <;> first
      | exact (show False from h).elim
      | (obtain ⟨⟨hc, h2⟩, h⟩ := TRg.ite h; exact op_pow pins s σ H _ _ v u Q I rx ry ⟨_, _, rfl, rfl, ⟨hc.1, by omega, h2⟩, TRg.ok h r (.int _)⟩)

/-! ### comparisons -/
def opCo : Co → CmpOp
  | .eq => .Eq
  | .ne => .NotEq
  | .lt => .Lt
  | .le => .LtE
  | .gt => .Gt
  | .ge => .GtE
  | .isin => .In
  | .notin => .NotIn
  | .is => .Is
  | .isnt => .IsNot
theorem eqv_some {T : Tb} {F G H : Hp} {m : Mm} {st : S} {d e : D} {x y : V} {b : Bool} (r : R T F G m st H) (rd : Rp T G m d x) (re : Rp T G m e y) (q : st.eqv d e = some b) :
    ∃ p p', Dp T.K H x p ∧ Dp T.K H y p' ∧ SeqAt.shaped p = true ∧ SeqAt.shaped p' = true ∧ b = PyData.eqv p p' := by
  unfold S.eqv at q
  cases q1 : st.py d with
  | none => rw [q1] at q; cases q
  | some p =>
    cases q2 : st.py e with
    | none => rw [q1, q2] at q; cases q
    | some p' =>
      rw [q1, q2] at q
      by_cases hs : (SeqAt.shaped p && SeqAt.shaped p') = true
      · simp only [hs, if_true, Option.some.injEq] at q
        have := Bool.and_eq_true_iff.mp hs
        exact ⟨p, p', r.py q1 rd, r.py q2 re, this.1, this.2, q.symm⟩
      · simp only [hs] at q
        cases q
end
end Mi
set_option Elab.async false
set_option linter.all false
set_option maxRecDepth 100000
set_option maxHeartbeats 2000000
/-! Mi5: dicts with tuple keys; comparisons. -/
namespace Mi
open PySem PySem.Spec PyProof.Rows L2

section
variable {X : Cx} {fa ca : Nat → Addr} {pins : List (Addr × Obj)} {σ : L2.St} {s : Shared} {F G H : Hp} {m : Mm} {st : S}
mutual
theorem Rp.nested (I : Inv X pins σ H s) (r : R (tb X fa ca) F G m st H) : ∀ {d : D} {v : V} {k : NestedKey} {u : Value}, Rp (tb X fa ca) G m d v → toKey d = some k → RelV v u → NestedIs s.heap k u
  | _, _, _, _, .non, e, q => by
    simp only [toKey, Option.some.injEq] at e
    subst e
    cases q
    exact .none
  | _, _, _, _, .bl b, e, q => by
    simp only [toKey, Option.some.injEq] at e
    subst e
    cases q
    exact .bool rfl
  | _, _, _, _, .int i, e, q => by
    simp only [toKey, Option.some.injEq] at e
    subst e
    obtain ⟨t, rfl⟩ := q
    exact .int _ _
  | _, _, _, _, .str x, e, q => by
    simp only [toKey, Option.some.injEq] at e
    subst e
    obtain ⟨t, rfl⟩ := q
    exact .text _ _
  | _, _, _, _, .tup h1 h2, e, q => by
    simp only [toKey, Option.map_eq_some_iff] at e
    obtain ⟨ks, e1, rfl⟩ := e
    cases q
    obtain ⟨its, rv, ⟨o, ho, hc, n, hd⟩, _⟩ := I.tuple (SqT.sub r.gH h1)
    exact .tup ho hc hd (Rps.nested I r h2 e1 rv)
  | _, _, _, _, .lst _ _, e, _ => by simp [toKey] at e
  | _, _, _, _, .dic _ _ _ _ _, e, _ => by simp [toKey] at e
  | _, _, _, _, .ref _, e, _ => by simp [toKey] at e
  | _, _, _, _, .fn _, e, _ => by simp [toKey] at e
  | _, _, _, _, .ty _, e, _ => by simp [toKey] at e
  | _, _, _, _, .inp _, e, _ => by simp [toKey] at e
theorem Rps.nested (I : Inv X pins σ H s) (r : R (tb X fa ca) F G m st H) : ∀ {ds : List D} {vs : List V} {ks : List NestedKey} {us : List Value}, Rps (tb X fa ca) G m ds vs → toKeys ds = some ks → Vals vs us → NestedAll s.heap ks us
  | _, _, _, _, .nil, e, q => by
    simp only [toKeys, Option.some.injEq] at e
    subst e
    cases q
    exact .nil
  | _, _, _, _, .cons (d := d) (ds := ds) h1 h2, e, q => by
    simp only [toKeys] at e
    cases q1 : toKey d with
    | none => rw [q1] at e; simp at e
    | some k =>
      cases q2 : toKeys ds with
      | none => rw [q1, q2] at e; simp at e
      | some ks =>
        rw [q1, q2] at e
        simp only [Option.some.injEq] at e
        subst e
        cases q with
        | cons z1 z2 => exact .cons (Rp.nested I r h1 q1 z1) (Rps.nested I r h2 q2 z2)
end
theorem Rp.keyT (I : Inv X pins σ H s) (r : R (tb X fa ca) F G m st H) {d : D} {v : V} {k : NestedKey} (h : Rp (tb X fa ca) G m d v) (e : Mi.keyT d = some k) : ∃ a, v = .ref a ∧ (nestedKind X.prog X.w).is s.heap k a := by
  cases h with
  | @tup a vs ds h1 h2 =>
    simp only [Mi.keyT] at e
    cases q : toKeys ds with
    | none => rw [q] at e; simp at e
    | some ks =>
      rw [q] at e
      by_cases hd : (NestedKey.tup ks).depth ≤ 8
      · simp only [hd, if_true, Option.some.injEq] at e
        subst e
        refine ⟨a, rfl, Rp.nested I r (.tup h1 h2) (u := .ref a) ?_ rfl, hd⟩
        simp [toKey, q]
      · simp only [hd, if_false] at e
        cases e
  | _ => simp [Mi.keyT] at e

/-- the dict at a, over the real heap -/
theorem DicV.dictOf (I : Inv X pins σ H s) (r : R (tb X fa ca) F G m st H) {a : Addr} {kvs : List (NestedKey × Addr × V)} {ho : HO} {ks : List D} (h : H a = some ho) (d : DicV (tb X fa ca) a kvs ho) (hk : Rps (tb X fa ca) G m ks (kvs.map fun p => V.ref p.2.1)) (he : ks.map Mi.keyT = kvs.map (fun p => some p.1)) :
    ∃ xs, s.heap.DictOfH (nestedKind X.prog X.w) a xs ∧ Paired (fun (p : NestedKey × Addr × V) (q : NestedKey × Addr × Value) => p.1 = q.1 ∧ p.2.1 = q.2.1 ∧ RelV p.2.2 q.2.2) kvs xs ∧ (a == sysModules) = false ∧ xs.length ≤ sizeLine := by
  obtain ⟨ob, es, ep, xs, rfl, h1, h2, h3, h4, h5, h6, h7⟩ := d
  obtain ⟨hg, _, _⟩ := I.hok a _ h
  refine ⟨xs, ⟨ob, es, ep, hg, h1, h2, h3, fun x hx => ?_, h4⟩, h7, h5, h6⟩
  obtain ⟨i, hi⟩ := List.mem_iff_getElem?.mp hx
  -- the key at i
  have len : kvs.length = xs.length := Paired.length h7
  have hlt : i < kvs.length := by rw [len]; exact (List.getElem?_eq_some_iff.mp hi).1
  have pr : ∀ {l1 : List (NestedKey × Addr × V)} {l2 : List (NestedKey × Addr × Value)} {i : Nat} {q : NestedKey × Addr × Value}, Paired (fun (p : NestedKey × Addr × V) (q : NestedKey × Addr × Value) => p.1 = q.1 ∧ p.2.1 = q.2.1 ∧ RelV p.2.2 q.2.2) l1 l2 → l2[i]? = some q → ∃ p, l1[i]? = some p ∧ p.1 = q.1 ∧ p.2.1 = q.2.1 ∧ RelV p.2.2 q.2.2 := by
    intro l1 l2 i q hp
    induction hp generalizing i with
    | nil => intro e; simp at e
    | cons z t ih =>
      intro e
      cases i with
      | zero => simp at e; subst e; exact ⟨_, rfl, z⟩
      | succ j =>
        obtain ⟨p, e1, e2⟩ := ih (i := j) (by simpa using e)
        exact ⟨p, by simpa using e1, e2⟩
  obtain ⟨p, e1, e2, e3, _⟩ := pr h7 hi
  obtain ⟨d, e4, e5⟩ := Rps.get' hk (i := i) (v := V.ref p.2.1) (by rw [List.getElem?_map, e1]; rfl)
  have e6 : Mi.keyT d = some p.1 := by
    have q := congrArg (fun l => l[i]?) he
    simp only [List.getElem?_map, e4, e1, Option.map_some, Option.some.injEq] at q
    exact q
  obtain ⟨b, e7, e8⟩ := Rp.keyT I r e5 e6
  cases e7
  rw [← e2, ← e3]
  exact e8
/-- the value at a key -/
theorem dget_at {T : Tb} {G : Hp} {m : Mm} (k : NestedKey) : ∀ {ks vs : List D} {kvs : List (NestedKey × Addr × V)} {xs : List (NestedKey × Addr × Value)}, ks.map Mi.keyT = kvs.map (fun p => some p.1) → Rps T G m vs (kvs.map fun p => p.2.2) →
    Paired (fun (p : NestedKey × Addr × V) (q : NestedKey × Addr × Value) => p.1 = q.1 ∧ p.2.1 = q.2.1 ∧ RelV p.2.2 q.2.2) kvs xs →
    (∀ d, dget k ks vs = some d → ∃ b u v, atKey xs k = some (b, u) ∧ RelV v u ∧ Rp T G m d v) ∧ (dget k ks vs = none → atKey xs k = none)
  | [], _, [], _, _, _, .nil => ⟨fun d e => by simp [dget] at e, fun _ => rfl⟩
  | [], _, _ :: _, _, e, _, _ => by simp at e
  | _ :: _, _, [], _, e, _, _ => by simp at e
  | _ :: _, [], _ :: _, _, _, r, _ => by cases r
  | a :: ks, v :: vs, p :: kvs, q :: xs, e, r, .cons z t => by
    simp only [List.map_cons, List.cons.injEq] at e
    cases r with
    | cons r1 r2 =>
      have ih := dget_at k (ks := ks) (vs := vs) e.2 r2 t
      unfold dget
      by_cases h : Mi.keyT a = some k
      · rw [if_pos h]
        rw [e.1] at h
        have hk : q.1 = k := by rw [← z.1]; exact Option.some.inj h
        have ha : atKey (q :: xs) k = some q.2 := by simp [atKey, hk]
        refine ⟨fun d e => ?_, fun e => by cases e⟩
        cases e
        exact ⟨q.2.1, q.2.2, _, ha, z.2.2, r1⟩
      · rw [if_neg h]
        have hk : ¬ q.1 = k := fun w => h (by rw [e.1, z.1, w])
        have ha : atKey (q :: xs) k = atKey xs k := by simp [atKey, List.find?_cons, hk]
        rw [ha]
        exact ih
end

/-! ### comparisons -/
section
variable {X : Cx} {fa ca : Nat → Addr} {W : WX} {σ₀ : L2.St}
/-- x in c: of a list, or of a dict -/
theorem in_cases {pins : List (Addr × Obj)} {s : Shared} {σ : L2.St} {F G H : Hp} {m : Mm} {st : S} {d e : D} {x y : V} {b : Bool} (I : Inv X pins σ H s) (r : R (tb X fa ca) F G m st H)
    (rd : Rp (tb X fa ca) G m d x) (re : Rp (tb X fa ca) G m e y) (q : st.isIn d e = some b) :
    (∃ p ps, Dp X.K H x p ∧ Dp X.K H y (.list ps) ∧ SeqAt.shaped p = true ∧ SeqAt.shaped (.list ps) = true ∧ b = ps.any fun z => PyData.eqv z p) ∨
    (∃ a c k xs, x = .ref a ∧ y = .ref c ∧ (nestedKind X.prog X.w).is s.heap k a ∧ s.heap.DictOfH (nestedKind X.prog X.w) c xs ∧ (c == sysModules) = false ∧ b = (atKey xs k).isSome) ∨
    (∃ p ps, Dp X.K H x p ∧ Dp X.K H y (.tuple ps) ∧ SeqAt.shaped p = true ∧ SeqAt.shaped (.tuple ps) = true ∧ b = ps.any fun z => PyData.eqv z p) := by
  have lists : ∀ (a : Addr) (vs : List V) (ds : List D), y = .ref a → H a = some (.lst vs) → Rps (tb X fa ca) G m ds vs → (match st.py d, st.pys ds with
      | some p, some ps => if SeqAt.shaped p && SeqAt.shaped (.list ps) then some (ps.any fun z => PyData.eqv z p) else none
      | _, _ => none) = some b → ∃ p ps, Dp X.K H x p ∧ Dp X.K H y (.list ps) ∧ SeqAt.shaped p = true ∧ SeqAt.shaped (.list ps) = true ∧ b = ps.any fun z => PyData.eqv z p := by
    intro a vs ds ey hH hr q
    subst ey
    cases q1 : st.py d with
    | none => rw [q1] at q; simp at q
    | some p =>
      cases q2 : st.pys ds with
      | none => rw [q1, q2] at q; simp at q
      | some ps =>
        rw [q1, q2] at q
        by_cases hs : (SeqAt.shaped p && SeqAt.shaped (.list ps)) = true
        · simp only [hs, if_true, Option.some.injEq] at q
          have hs' := Bool.and_eq_true_iff.mp hs
          exact ⟨p, ps, r.py q1 rd, .lst (SqL.of hH) (r.pys q2 hr), hs'.1, hs'.2, q.symm⟩
        · simp only [hs] at q
          cases q
  have tups : ∀ (ds : List D), Rp (tb X fa ca) G m (.tup ds) y → st.isIn d (.tup ds) = some b → ∃ p ps, Dp X.K H x p ∧ Dp X.K H y (.tuple ps) ∧ SeqAt.shaped p = true ∧ SeqAt.shaped (.tuple ps) = true ∧ b = ps.any fun z => PyData.eqv z p := by
    intro ds re q
    simp only [S.isIn] at q
    cases q1 : st.py d with
    | none => rw [q1] at q; simp at q
    | some p =>
      cases q2 : st.pys ds with
      | none => rw [q1, q2] at q; simp at q
      | some ps =>
        rw [q1, q2] at q
        by_cases hs : (SeqAt.shaped p && SeqAt.shaped (.tuple ps)) = true
        · simp only [hs, if_true, Option.some.injEq] at q
          have hs' := Bool.and_eq_true_iff.mp hs
          have ey : st.py (.tup ds) = some (.tuple ps) := by
            show (toPys (st.look 4) ds).map PyData.tuple = _
            rw [show toPys (st.look 4) ds = some ps from q2]
            rfl
          exact ⟨p, ps, r.py q1 rd, r.py ey re, hs'.1, hs'.2, q.symm⟩
        · simp only [hs] at q
          cases q
  have dicts : ∀ (a : Addr) (ho : HO) (kvs : List (NestedKey × Addr × V)) (ks vs : List D), y = .ref a → H a = some ho → DicV (tb X fa ca) a kvs ho → Rps (tb X fa ca) G m ks (kvs.map fun p => V.ref p.2.1) → ks.map Mi.keyT = kvs.map (fun p => some p.1) → Rps (tb X fa ca) G m vs (kvs.map fun p => p.2.2) →
      ((Mi.keyT d).map fun k => (dget k ks vs).isSome) = some b → ∃ a c k xs, x = .ref a ∧ y = .ref c ∧ (nestedKind X.prog X.w).is s.heap k a ∧ s.heap.DictOfH (nestedKind X.prog X.w) c xs ∧ (c == sysModules) = false ∧ b = (atKey xs k).isSome := by
    intro a ho kvs ks vs ey hH hd hk he hv q
    obtain ⟨k, e1, e2⟩ := Option.map_eq_some_iff.mp q
    obtain ⟨xa, rfl, isk⟩ := Rp.keyT I r rd e1
    obtain ⟨xs, h1, h2, h3, _⟩ := DicV.dictOf I r hH hd hk he
    refine ⟨xa, a, k, xs, rfl, ey, isk, h1, h3, ?_⟩
    obtain ⟨g1, g2⟩ := dget_at (T := tb X fa ca) (G := G) (m := m) k he hv h2
    cases z : dget k ks vs with
    | none => rw [← e2, z, g2 z] <;> rfl
    | some w =>
      obtain ⟨_, _, _, z2, _⟩ := g1 w z
      rw [← e2, z, z2] <;> rfl
  cases re with
  | lst h1 h2 => exact .inl (lists _ _ _ rfl (r.gH _ _ h1) h2 q)
  | dic h1 h2 h3 h4 h5 => exact .inr (.inl (dicts _ _ _ _ _ rfl (r.gH _ _ h1) h2 h3 h4 h5 q))
  | @ref n a e =>
    simp only [S.isIn] at q
    cases g : st.get n with
    | none => rw [g] at q; cases q
    | some c =>
      rw [g] at q
      obtain ⟨a', e1, e2, _⟩ := r.cell n c g
      rw [e] at e1
      cases e1
      cases c with
      | lst fz ds =>
        obtain ⟨vs, h1, h2, _⟩ := e2
        exact .inl (lists _ _ _ rfl h1 h2 q)
      | dic fz ks vs =>
        obtain ⟨ho, kvs, h1, h2, h3, h4, h5, _⟩ := e2
        exact .inr (.inl (dicts _ _ _ _ _ rfl h1 h2 h3 h4 h5 q))
  | tup h1 h2 => exact .inr (.inr (tups _ (.tup h1 h2) q))
  | _ => simp [S.isIn] at q
theorem op_cmp (hu : X.A.units + 80 < cLine) (o : Co) : OpR X (compareOp (opCo o)) (rO (tb X fa ca) W σ₀ (evCmp o)) := by
  intro pins s σ H x y v u Q I rx ry h
  obtain ⟨F, G, m, st, d, e, r, rd, re, h⟩ := h
  cases o with
  | eq =>
    have h' : TRg (tb X fa ca) W (Rp (tb X fa ca)) σ₀ F G m (match st.eqv d e with | some r => .ok (.bl r) st | none => .stuck) Q := h
    cases q : st.eqv d e with
    | none => rw [q] at h'; exact h'.elim
    | some b =>
      rw [q] at h'
      obtain ⟨p, p', h1, h2, h3, h4, rfl⟩ := eqv_some r rd re q
      exact op_eqD (by omega) pins s σ H x y v u Q I rx ry ⟨p, p', h1, h2, h3, h4, TRg.ok h' r (.bl _)⟩
  | ne =>
    have h' : TRg (tb X fa ca) W (Rp (tb X fa ca)) σ₀ F G m (match st.eqv d e with | some r => .ok (.bl (!r)) st | none => .stuck) Q := h
    cases q : st.eqv d e with
    | none => rw [q] at h'; exact h'.elim
    | some b =>
      rw [q] at h'
      obtain ⟨p, p', h1, h2, h3, h4, rfl⟩ := eqv_some r rd re q
      exact op_neD (by omega) pins s σ H x y v u Q I rx ry ⟨p, p', h1, h2, h3, h4, TRg.ok h' r (.bl _)⟩
  | lt =>
    have h' : TRg (tb X fa ca) W (Rp (tb X fa ca)) σ₀ F G m (match st.lt d e with | some r => .ok (.bl r) st | none => .stuck) Q := h
    cases q : st.lt d e with
    | none => rw [q] at h'; exact h'.elim
    | some b =>
      rw [q] at h'
      cases rd with
      | int i =>
        cases re with
        | int j =>
          simp only [S.lt, Option.some.injEq] at q
          subst q
          exact op_lt pins s σ H _ _ v u Q I rx ry ⟨i, j, rfl, rfl, TRg.ok h' r (.bl _)⟩
        | _ => simp [S.lt] at q
      | @tup a vs ds h1 h2 =>
        cases re with
        | @tup b' ws es h3 h4 =>
          simp only [S.lt] at q
          cases q1 : st.py (.tup ds) with
          | none => rw [q1] at q; simp at q
          | some p =>
            cases q2 : st.py (.tup es) with
            | none => rw [q1, q2] at q; simp at q
            | some p' =>
              rw [q1, q2] at q
              by_cases hs : (SeqAt.shaped p && SeqAt.shaped p' && PySem.W.alike p p') = true
              · simp only [hs, if_true, Option.some.injEq] at q
                have hs1 := Bool.and_eq_true_iff.mp hs
                have hs2 := Bool.and_eq_true_iff.mp hs1.1
                have d1 := r.py q1 (.tup h1 h2)
                have d2 := r.py q2 (.tup h3 h4)
                obtain ⟨as, r1⟩ := Dp.reads I p _ v d1 rx
                obtain ⟨bs, r2⟩ := Dp.reads I p' _ u d2 ry
                have pn : p ≠ .none := fun z => by rw [z] at d1; cases d1
                have hdp := SeqAt.depth_of_shaped hs2.1
                refine PySem.W.rcLt_alike p p' X.A s v u as bs r1 r2 hs1.2 pn ?_ X.prog X.w _ _ ⟨.bl b, H, I, ?_, TRg.ok h' r (.bl _)⟩
                · have : min p.depth p'.depth ≤ p.depth := Nat.min_le_left _ _
                  omega
                · rw [← q] <;> rfl
              · simp only at q
                rw [if_neg hs] at q
                cases q
        | _ => simp [S.lt] at q
      | _ => simp [S.lt] at q
  | le =>
    cases rd <;> cases re <;> first
      | exact (show False from h).elim
      | exact op_le pins s σ H _ _ v u Q I rx ry ⟨_, _, rfl, rfl, TRg.ok h r (.bl _)⟩
  | gt =>
    cases rd <;> cases re <;> first
      | exact (show False from h).elim
      | exact op_gt pins s σ H _ _ v u Q I rx ry ⟨_, _, rfl, rfl, TRg.ok h r (.bl _)⟩
  | ge =>
    cases rd <;> cases re <;> first
      | exact (show False from h).elim
      | exact op_ge pins s σ H _ _ v u Q I rx ry ⟨_, _, rfl, rfl, TRg.ok h r (.bl _)⟩
  | isin =>
    have h' : TRg (tb X fa ca) W (Rp (tb X fa ca)) σ₀ F G m (match st.isIn d e with | some r => .ok (.bl r) st | none => .stuck) Q := h
    cases q : st.isIn d e with
    | none => rw [q] at h'; exact h'.elim
    | some b =>
      rw [q] at h'
      rcases in_cases I r rd re q with ⟨p, ps, h1, h2, h3, h4, rfl⟩ | ⟨a, c, k, xs, rfl, rfl, h1, h2, h3, rfl⟩ | ⟨p, ps, h1, h2, h3, h4, rfl⟩
      · exact op_inD (by omega) pins s σ H x y v u Q I rx ry ⟨p, ps, h1, h2, h3, h4, TRg.ok h' r (.bl _)⟩
      · cases rx
        cases ry
        exact wpAny_in_heap (show X.A.in1.units + 8 < cLine from by show X.A.units + 1 + 8 < cLine; omega) h1 h3 h2 ⟨.bl _, H, I.tok _, rfl, TRg.ok h' r (.bl _)⟩
      · obtain ⟨as, r1⟩ := Dp.reads I p x v h1 rx
        obtain ⟨bs, r2⟩ := Dp.reads I (.tuple ps) y u h2 ry
        exact SeqAt.in_tuple_reads r2 r1 (SeqAt.canLay_of_shaped h4) (SeqAt.canLay_of_shaped h3) (PyProof.Rows.room_in_shaped h3 (by omega)) ⟨.bl _, H, I, rfl, TRg.ok h' r (.bl _)⟩
  | notin =>
    have h' : TRg (tb X fa ca) W (Rp (tb X fa ca)) σ₀ F G m (match st.isIn d e with | some r => .ok (.bl (!r)) st | none => .stuck) Q := h
    cases q : st.isIn d e with
    | none => rw [q] at h'; exact h'.elim
    | some b =>
      rw [q] at h'
      rcases in_cases I r rd re q with ⟨p, ps, h1, h2, h3, h4, rfl⟩ | ⟨a, c, k, xs, rfl, rfl, h1, h2, h3, rfl⟩ | ⟨p, ps, h1, h2, h3, h4, rfl⟩
      · exact op_notInD (by omega) pins s σ H x y v u Q I rx ry ⟨p, ps, h1, h2, h3, h4, TRg.ok h' r (.bl _)⟩
      · cases rx
        cases ry
        show wpAny _ _ (contains (.ref c) (.ref a) >>= fun z => pure (Value.bool (!z))) _ _ s
        exact wpAny_bind (wpAny_contains_heap (show X.A.in1.units + 8 < cLine from by show X.A.units + 1 + 8 < cLine; omega) h1 h3 h2 (wpAny_pure ⟨.bl _, H, I.tok _, rfl, TRg.ok h' r (.bl _)⟩))
      · obtain ⟨as, r1⟩ := Dp.reads I p x v h1 rx
        obtain ⟨bs, r2⟩ := Dp.reads I (.tuple ps) y u h2 ry
        exact SeqAt.notIn_tuple_reads r2 r1 (SeqAt.canLay_of_shaped h4) (SeqAt.canLay_of_shaped h3) (PyProof.Rows.room_in_shaped h3 (by omega)) ⟨.bl _, H, I, rfl, TRg.ok h' r (.bl _)⟩
  | is =>
    cases re <;> first
      | exact (show False from h).elim
      | (refine op_isN pins s σ H _ _ v u Q I rx ry ⟨rfl, ?_⟩
         have e : isNon d = decide (x = V.non) := by cases rd <;> rfl
         rw [← e]
         exact TRg.ok h r (.bl _))
  | isnt =>
    cases re <;> first
      | exact (show False from h).elim
      | (refine op_notN pins s σ H _ _ v u Q I rx ry ⟨rfl, ?_⟩
         have e : isNon d = decide (x = V.non) := by cases rd <;> rfl
         rw [← e]
         exact TRg.ok h r (.bl _))
end
end Mi
set_option Elab.async false
set_option linter.all false
set_option maxRecDepth 100000
set_option maxHeartbeats 4000000
/-! Mi6: built-ins called with values. -/
namespace Mi
open PySem PySem.Spec PyProof.Rows L2

def rC (T : Tb) (W : WX) (σ₀ : L2.St) (ev : List D → S → Res D) : List V → Hp → VK → Prop := fun xs H Q =>
  ∃ F G m s ds, R T F G m s H ∧ Rps T G m ds xs ∧ TRg T W (Rp T) σ₀ F G m (ev ds s) Q
section
variable {X : Cx} {fa ca : Nat → Addr} {W : WX} {σ₀ : L2.St}
theorem allBl_vals {T : Tb} {G : Hp} {m : Mm} : ∀ {ds : List D} {bs : List Bool} {vs : List V}, allBl ds = some bs → Rps T G m ds vs → vs = bs.map V.bl
  | [], _, _, h, r => by
    simp only [allBl, Option.some.injEq] at h
    subst h
    cases r
    rfl
  | d :: ds, bs, _, h, .cons r1 r2 => by
    cases r1 with
    | bl b =>
      simp only [allBl, Option.map_eq_some_iff] at h
      obtain ⟨bs', e1, rfl⟩ := h
      rw [allBl_vals e1 r2]
      rfl
    | _ => simp [allBl] at h
theorem allInt_vals {T : Tb} {G : Hp} {m : Mm} : ∀ {ds : List D} {bs : List Int} {vs : List V}, allInt ds = some bs → Rps T G m ds vs → vs = bs.map V.int
  | [], _, _, h, r => by
    simp only [allInt, Option.some.injEq] at h
    subst h
    cases r
    rfl
  | d :: ds, bs, _, h, .cons r1 r2 => by
    cases r1 with
    | int b =>
      simp only [allInt, Option.map_eq_some_iff] at h
      obtain ⟨bs', e1, rfl⟩ := h
      rw [allInt_vals e1 r2]
      rfl
    | _ => simp [allInt] at h
/-- one argument -/
theorem one_of {T : Tb} {G : Hp} {m : Mm} {d : D} {xs : List V} (r : Rps T G m [d] xs) : ∃ x, xs = [x] ∧ Rp T G m d x := by
  cases r with
  | cons a b => cases b; exact ⟨_, rfl, a⟩
theorem two_of {T : Tb} {G : Hp} {m : Mm} {d e : D} {xs : List V} (r : Rps T G m [d, e] xs) : ∃ x y, xs = [x, y] ∧ Rp T G m d x ∧ Rp T G m e y := by
  cases r with
  | cons a b =>
    obtain ⟨y, rfl, ry⟩ := one_of b
    exact ⟨_, y, rfl, a, ry⟩
theorem bi_len : CallR X (.builtin "len") (rC (tb X fa ca) W σ₀ (evBi .len)) := by
  intro pins s σ H xs us Q I rv h
  obtain ⟨F, G, m, st, ds, r, rd, h⟩ := h
  match ds, rd, h with
  | [], _, h => exact (show False from h).elim
  | _ :: _ :: _, rd, h => cases rd with | cons a _ => cases a <;> exact (show False from h).elim
  | [d], rd, h =>
    obtain ⟨x, rfl, rx⟩ := one_of rd
    have lists : (TRg (tb X fa ca) W (Rp (tb X fa ca)) σ₀ F G m (match st.items d with | some es => .ok (.int es.length) st | none => .stuck) Q) → wpAny (model X.prog X.w) X.A (call (.builtin "len") us) (EP X pins σ Q) X.xe s := by
      intro h
      cases q : st.items d with
      | none => rw [q] at h; exact h.elim
      | some es =>
        rw [q] at h
        obtain ⟨a, vs, rfl, ha, ra⟩ := r.items q rx
        exact call_len pins s σ H _ us Q I rv ⟨_, es.length, rfl, .inl ⟨vs, SqL.of ha, ra.length⟩, TRg.ok h r (.int _)⟩
    cases rx with
    | str y =>
      obtain ⟨hc, h⟩ := TRg.ite (show TRg (tb X fa ca) W (Rp (tb X fa ca)) σ₀ F G m (if y.length ≤ sizeLine then .ok (.int y.length) st else .stuck) Q from h)
      exact call_len pins s σ H _ us Q I rv ⟨_, y.length, rfl, ⟨hc, rfl⟩, TRg.ok h r (.int _)⟩
    | @tup a vs es h1 h2 => exact call_len pins s σ H _ us Q I rv ⟨_, es.length, rfl, .inr ⟨vs, SqT.sub r.gH h1, h2.length⟩, TRg.ok h r (.int _)⟩
    | @inp a ns h1 => exact call_len pins s σ H _ us Q I rv ⟨_, ns.length, rfl, .inl ⟨_, SqL.sub r.gH h1, by rw [List.length_map]⟩, TRg.ok h r (.int _)⟩
    | lst h1 h2 => exact lists h
    | ref e => exact lists h
    | _ => exact (show False from h).elim
theorem bi_all (hc : X.calm = true) : CallR X (.builtin "all") (rC (tb X fa ca) W σ₀ (evBi .all)) := by
  intro pins s σ H xs us Q I rv h
  obtain ⟨F, G, m, st, ds, r, rd, h⟩ := h
  match ds, rd, h with
  | [], _, h => exact (show False from h).elim
  | _ :: _ :: _, rd, h => exact (show False from h).elim
  | [d], rd, h =>
    obtain ⟨x, rfl, rx⟩ := one_of rd
    have h' : TRg (tb X fa ca) W (Rp (tb X fa ca)) σ₀ F G m (match (st.items d).bind allBl with | some bs => .ok (.bl (bs.all id)) st | none => .stuck) Q := h
    cases q : st.items d with
    | none => rw [q] at h'; exact h'.elim
    | some es =>
      obtain ⟨a, vs, rfl, ha, ra⟩ := r.items q rx
      cases q2 : allBl es with
      | none => rw [q] at h'; simp only [Option.bind_some, q2] at h'; exact h'.elim
      | some bs =>
        rw [q] at h'
        simp only [Option.bind_some, q2] at h'
        rw [allBl_vals q2 ra] at ha
        exact cr_all hc pins s σ H _ us Q I rv ⟨a, bs, rfl, SqL.of ha, TRg.ok h' r (.bl _)⟩
theorem bi_any (hc : X.calm = true) : CallR X (.builtin "any") (rC (tb X fa ca) W σ₀ (evBi .any)) := by
  intro pins s σ H xs us Q I rv h
  obtain ⟨F, G, m, st, ds, r, rd, h⟩ := h
  match ds, rd, h with
  | [], _, h => exact (show False from h).elim
  | _ :: _ :: _, rd, h => exact (show False from h).elim
  | [d], rd, h =>
    obtain ⟨x, rfl, rx⟩ := one_of rd
    have h' : TRg (tb X fa ca) W (Rp (tb X fa ca)) σ₀ F G m (match (st.items d).bind allBl with | some bs => .ok (.bl (bs.any id)) st | none => .stuck) Q := h
    cases q : st.items d with
    | none => rw [q] at h'; exact h'.elim
    | some es =>
      obtain ⟨a, vs, rfl, ha, ra⟩ := r.items q rx
      cases q2 : allBl es with
      | none => rw [q] at h'; simp only [Option.bind_some, q2] at h'; exact h'.elim
      | some bs =>
        rw [q] at h'
        simp only [Option.bind_some, q2] at h'
        rw [allBl_vals q2 ra] at ha
        exact cr_any hc pins s σ H _ us Q I rv ⟨a, bs, rfl, SqL.of ha, TRg.ok h' r (.bl _)⟩
theorem bi_sum (hc : X.calm = true) : CallR X (.builtin "sum") (rC (tb X fa ca) W σ₀ (evBi .sum)) := by
  intro pins s σ H xs us Q I rv h
  obtain ⟨F, G, m, st, ds, r, rd, h⟩ := h
  match ds, rd, h with
  | [], _, h => exact (show False from h).elim
  | _ :: _ :: _, rd, h => exact (show False from h).elim
  | [d], rd, h =>
    obtain ⟨x, rfl, rx⟩ := one_of rd
    have h' : TRg (tb X fa ca) W (Rp (tb X fa ca)) σ₀ F G m (match (st.items d).bind allInt with | some bs => .ok (.int bs.sum) st | none => .stuck) Q := h
    cases q : st.items d with
    | none => rw [q] at h'; exact h'.elim
    | some es =>
      obtain ⟨a, vs, rfl, ha, ra⟩ := r.items q rx
      cases q2 : allInt es with
      | none => rw [q] at h'; simp only [Option.bind_some, q2] at h'; exact h'.elim
      | some bs =>
        rw [q] at h'
        simp only [Option.bind_some, q2] at h'
        rw [allInt_vals q2 ra] at ha
        exact cr_sum hc pins s σ H _ us Q I rv ⟨a, bs, rfl, SqL.of ha, TRg.ok h' r (.int _)⟩
theorem foldl_min_spec : ∀ (ns : List Int) (n : Int), (ns.foldl min n ∈ n :: ns) ∧ ∀ y ∈ n :: ns, ns.foldl min n ≤ y
  | [], n => ⟨List.mem_cons_self, fun y hy => by rw [List.mem_singleton.mp hy]; exact Int.le_refl _⟩
  | k :: ns, n => by
    obtain ⟨h1, h2⟩ := foldl_min_spec ns (min n k)
    have h3 := h2 (min n k) List.mem_cons_self
    refine ⟨?_, fun y hy => ?_⟩
    · rw [List.foldl_cons]
      rcases List.mem_cons.mp h1 with h | h
      · rw [h]
        rcases Int.le_total n k with z | z
        · rw [Int.min_eq_left z]; exact List.mem_cons_self
        · rw [Int.min_eq_right z]; exact List.mem_cons_of_mem _ List.mem_cons_self
      · exact List.mem_cons_of_mem _ (List.mem_cons_of_mem _ h)
    · rw [List.foldl_cons]
      rcases List.mem_cons.mp hy with rfl | hy
      · have := Int.min_le_left y k; omega
      · rcases List.mem_cons.mp hy with rfl | hy
        · have := Int.min_le_right n y; omega
        · exact h2 y (List.mem_cons_of_mem _ hy)
theorem foldl_max_spec : ∀ (ns : List Int) (n : Int), (ns.foldl max n ∈ n :: ns) ∧ ∀ y ∈ n :: ns, y ≤ ns.foldl max n
  | [], n => ⟨List.mem_cons_self, fun y hy => by rw [List.mem_singleton.mp hy]; exact Int.le_refl _⟩
  | k :: ns, n => by
    obtain ⟨h1, h2⟩ := foldl_max_spec ns (max n k)
    have h3 := h2 (max n k) List.mem_cons_self
    refine ⟨?_, fun y hy => ?_⟩
    · rw [List.foldl_cons]
      rcases List.mem_cons.mp h1 with h | h
      · rw [h]
        rcases Int.le_total n k with z | z
        · rw [Int.max_eq_right z]; exact List.mem_cons_of_mem _ List.mem_cons_self
        · rw [Int.max_eq_left z]; exact List.mem_cons_self
      · exact List.mem_cons_of_mem _ (List.mem_cons_of_mem _ h)
    · rw [List.foldl_cons]
      rcases List.mem_cons.mp hy with rfl | hy
      · have := Int.le_max_left y k; omega
      · rcases List.mem_cons.mp hy with rfl | hy
        · have := Int.le_max_right n y; omega
        · exact h2 y (List.mem_cons_of_mem _ hy)
theorem allTupI_at : ∀ {ds : List D} {ts : List (List Int)}, allTupI ds = some ts → ds = ts.map fun t => .tup (t.map .int)
  | [], ts, h => by cases h; rfl
  | d :: ds, ts, h => by
    cases d with
    | tup xs =>
      have h' : (match allInt xs, allTupI ds with | some a, some b => some (a :: b) | _, _ => none) = some ts := h
      cases e1 : allInt xs with
      | none => rw [e1] at h'; cases h'
      | some a =>
        cases e2 : allTupI ds with
        | none => rw [e1, e2] at h'; cases h'
        | some b =>
          rw [e1, e2] at h'
          cases h'
          rw [List.map_cons, ← allTupI_at e2]
          congr 2
          have key : ∀ {xs : List D} {a : List Int}, allInt xs = some a → xs = a.map .int := by
            intro xs
            induction xs with
            | nil => intro a h; cases h; rfl
            | cons x xs ih =>
              intro a h
              cases x with
              | int i =>
                simp only [allInt, Option.map_eq_some_iff] at h
                obtain ⟨b, e, rfl⟩ := h
                rw [ih e]
                rfl
              | _ => simp [allInt] at h
          exact key e1
    | _ => simp [allTupI] at h
theorem minTI_map (t : List Int) (ts : List (List Int)) : PySem.W.minD (tupP t) (ts.map tupP) = tupP (minTI t ts) := by
  unfold PySem.W.minD minTI
  induction ts generalizing t with
  | nil => rfl
  | cons y ts ih =>
    rw [List.map_cons, List.foldl_cons, List.foldl_cons]
    by_cases h : PySem.W.dataLt (tupP y) (tupP t) = true
    · rw [if_pos h, if_pos h, ih]
    · rw [if_neg h, if_neg h, ih]
theorem tupP_inj {a b : List Int} (h : tupP a = tupP b) : a = b := by
  unfold tupP at h
  simp only [PyData.tuple.injEq] at h
  have := congrArg (List.map fun p : PyData => match p with | .int i => i | _ => 0) h
  simpa [List.map_map, Function.comp_def] using this
theorem vals_get' : ∀ {xs : List V} {us : List Value} {i : Nat} {u : Value}, Vals xs us → us[i]? = some u → ∃ x, xs[i]? = some x ∧ RelV x u
  | _, _, 0, u, .cons h _, e => ⟨_, rfl, by cases e; exact h⟩
  | _, _, i + 1, u, .cons _ h, e => by
    obtain ⟨x, e1, e2⟩ := vals_get' h (by simpa using e)
    exact ⟨x, by simpa using e1, e2⟩
  | _, _, _, _, .nil, e => by simp at e
theorem bi_min1 (hc : X.calm = true) (hu : X.A.units + 80 < cLine) {pins : List (Addr × Obj)} {s : Shared} {σ : L2.St} {F G H : Hp} {m : Mm} {st : S} {d : D} {x : V} {u : Value} {Q : VK} (I : Inv X pins σ H s) (r : R (tb X fa ca) F G m st H) (rx : Rp (tb X fa ca) G m d x) (ru : RelV x u)
    (h : TRg (tb X fa ca) W (Rp (tb X fa ca)) σ₀ F G m (minL st d) Q) : wpAny (model X.prog X.w) X.A (call (.builtin "min") [u]) (EP X pins σ Q) X.xe s := by
  unfold minL at h
  cases q : st.items d with
  | none => rw [q] at h; exact h.elim
  | some es =>
    simp only [q] at h
    obtain ⟨a, vs, rfl, ha, ra⟩ := r.items q rx
    cases q2 : allInt es with
    | some ns =>
      rw [q2] at h
      cases ns with
      | nil => exact h.elim
      | cons n ns =>
        simp only at h
        rw [allInt_vals q2 ra] at ha
        refine cr_min hc pins s σ H [.ref a] [u] Q I (.cons ru .nil) ⟨a, n :: ns, rfl, SqL.of ha, by simp, fun k hk hle => ?_⟩
        obtain ⟨h1, h2⟩ := foldl_min_spec ns n
        have : k = ns.foldl min n := Int.le_antisymm (hle _ h1) (h2 _ hk)
        rw [this]
        exact TRg.ok h r (.int _)
    | none =>
      rw [q2] at h
      simp only at h
      cases q3 : allTupI es with
      | none => rw [q3] at h; exact h.elim
      | some ts =>
        rw [q3] at h
        cases ts with
        | nil => exact h.elim
        | cons t ts =>
          simp only at h
          obtain ⟨hal, h⟩ := TRg.ite h
          have hes := allTupI_at q3
          cases ru
          obtain ⟨its, rvs, pl, hz⟩ := I.list (SqL.of (K := X.K) ha)
          have hpy : st.pys es = some ((t :: ts).map tupP) := by
            rw [hes]
            clear h q3 hal hes
            generalize (t :: ts) = us
            induction us with
            | nil => rfl
            | cons u us ih =>
              show toPys _ _ = _
              rw [List.map_cons, toPys]
              have e1 : toPy (st.look 4) (.tup (u.map .int)) = some (tupP u) := by
                show (toPys _ (u.map .int)).map PyData.tuple = _
                have : ∀ l : List Int, toPys (st.look 4) (l.map .int) = some (l.map .int) := by
                  intro l
                  induction l with
                  | nil => rfl
                  | cons k l ih => rw [List.map_cons, toPys, ih]; rfl
                rw [this]
                rfl
              rw [e1, show toPys (st.look 4) (us.map fun t => D.tup (t.map .int)) = some (us.map tupP) from ih]
              rfl
          have hdp := r.pys hpy ra
          obtain ⟨as, hra⟩ := Dp.readsAll I _ _ _ hdp rvs
          have hdep : PyData.depthAll ((t :: ts).map tupP) ≤ 2 := by
            generalize (t :: ts) = us
            induction us with
            | nil => simp [PyData.depthAll]
            | cons u us ih =>
              have h0 : PyData.depthAll (u.map PyData.int) ≤ 0 := by
                induction u with
                | nil => simp [PyData.depthAll]
                | cons k u ih => simp only [List.map_cons, PyData.depthAll, PyData.depth]; omega
              simp only [List.map_cons, PyData.depthAll, tupP, PyData.depth] at ih ⊢
              omega
          refine PySem.W.min_list_data (x := tupP t) (xs := ts.map tupP) (I.ok.hd hc) pl.isList (by simpa using hra) ⟨fun x hx y hy => ?_, fun x hx => ?_⟩ (by rw [← List.map_cons]; omega) fun i v h' tk bs hv hr hk => ?_
          · unfold alikeTs at hal
            rw [List.all_eq_true] at hal
            have h1 := hal x (by simpa using hx)
            rw [List.all_eq_true] at h1
            exact h1 y (by simpa using hy)
          · rw [← List.map_cons] at hx
            obtain ⟨u, _, rfl⟩ := List.mem_map.mp hx
            exact fun z => by cases z
          · have hv' : its[i]? = some v := by simpa using hv
            obtain ⟨vv, e1, rv1⟩ := vals_get' rvs hv'
            obtain ⟨dd, e2, rp1⟩ := ra.get' e1
            rw [hes, List.getElem?_map] at e2
            cases e3 : (t :: ts)[i]? with
            | none => rw [e3] at e2; cases e2
            | some u =>
              rw [e3] at e2
              cases e2
              obtain ⟨bs2, r2, _⟩ := PySem.W.readsAll_at hra i v (by simpa using hv)
              rw [minTI_map] at hr
              have hu2 : ((t :: ts).map tupP).getD i .none = tupP u := by
                rw [List.getD_eq_getElem?_getD, List.getElem?_map, e3]
                rfl
              rw [hu2] at r2
              have := (PySem.Reads.unique (PyProof.Rows.Reads.keeps hk r2) _ _ hr).1
              have hu3 := tupP_inj this
              subst hu3
              exact ⟨vv, H, I.kept hk, rv1, TRg.ok h r rp1⟩
theorem bi_max1 (hc : X.calm = true) {pins : List (Addr × Obj)} {s : Shared} {σ : L2.St} {F G H : Hp} {m : Mm} {st : S} {d : D} {x : V} {u : Value} {Q : VK} (I : Inv X pins σ H s) (r : R (tb X fa ca) F G m st H) (rx : Rp (tb X fa ca) G m d x) (ru : RelV x u)
    (h : TRg (tb X fa ca) W (Rp (tb X fa ca)) σ₀ F G m (maxL st d) Q) : wpAny (model X.prog X.w) X.A (call (.builtin "max") [u]) (EP X pins σ Q) X.xe s := by
  unfold maxL at h
  cases q : st.items d with
  | none => rw [q] at h; exact h.elim
  | some es =>
    simp only [q] at h
    obtain ⟨a, vs, rfl, ha, ra⟩ := r.items q rx
    cases q2 : allInt es with
    | some ns =>
      rw [q2] at h
      cases ns with
      | nil => exact h.elim
      | cons n ns =>
        simp only at h
        rw [allInt_vals q2 ra] at ha
        refine cr_max hc pins s σ H [.ref a] [u] Q I (.cons ru .nil) ⟨a, n :: ns, rfl, SqL.of ha, by simp, fun k hk hle => ?_⟩
        obtain ⟨h1, h2⟩ := foldl_max_spec ns n
        have : k = ns.foldl max n := Int.le_antisymm (h2 _ hk) (hle _ h1)
        rw [this]
        exact TRg.ok h r (.int _)
    | none => rw [q2] at h; exact h.elim
theorem bi_min2 (hc : X.calm = true) (hu : X.A.units + 80 < cLine) : CallR X (.builtin "min") (rC (tb X fa ca) W σ₀ (evBi .min2)) := by
  intro pins s σ H xs us Q I rv h
  obtain ⟨F, G, m, st, ds, r, rd, h⟩ := h
  match ds, rd, h with
  | [], _, h => exact (show False from h).elim
  | [d], rd, h =>
    obtain ⟨x, rfl, rx⟩ := one_of rd
    obtain ⟨u, rfl, ru⟩ := vals1 rv
    exact bi_min1 hc hu I r rx ru (by cases d <;> exact h)
  | d :: e :: c :: l, rd, h =>
    cases rd with
    | cons a b => cases b with | cons b c => cases a <;> cases b <;> exact (show False from h).elim
  | [d, e], rd, h =>
    obtain ⟨x, y, rfl, rx, ry⟩ := two_of rd
    cases rx <;> cases ry <;> first
      | exact (show False from h).elim
      | exact call_min2 hc pins s σ H _ us Q I rv ⟨_, _, rfl, TRg.ok h r (.int _)⟩
theorem bi_max2 (hc : X.calm = true) : CallR X (.builtin "max") (rC (tb X fa ca) W σ₀ (evBi .max2)) := by
  intro pins s σ H xs us Q I rv h
  obtain ⟨F, G, m, st, ds, r, rd, h⟩ := h
  match ds, rd, h with
  | [], _, h => exact (show False from h).elim
  | [d], rd, h =>
    obtain ⟨x, rfl, rx⟩ := one_of rd
    obtain ⟨u, rfl, ru⟩ := vals1 rv
    exact bi_max1 hc I r rx ru (by cases d <;> exact h)
  | d :: e :: c :: l, rd, h =>
    cases rd with
    | cons a b => cases b with | cons b c => cases a <;> cases b <;> exact (show False from h).elim
  | [d, e], rd, h =>
    obtain ⟨x, y, rfl, rx, ry⟩ := two_of rd
    cases rx <;> cases ry <;> first
      | exact (show False from h).elim
      | exact call_max2 hc pins s σ H _ us Q I rv ⟨_, _, rfl, TRg.ok h r (.int _)⟩
theorem bi_divmod : CallR X (.builtin "divmod") (rC (tb X fa ca) W σ₀ (evBi .divmod)) := by
  intro pins s σ H xs us Q I rv h
  obtain ⟨F, G, m, st, ds, r, rd, h⟩ := h
  match ds, rd, h with
  | [], _, h => exact (show False from h).elim
  | [d], rd, h => obtain ⟨x, rfl, rx⟩ := one_of rd; cases rx <;> exact (show False from h).elim
  | d :: e :: c :: l, rd, h =>
    cases rd with
    | cons a b => cases b with | cons b c => cases a <;> cases b <;> exact (show False from h).elim
  | [d, e], rd, h =>
    obtain ⟨x, y, rfl, rx, ry⟩ := two_of rd
    cases rx <;> cases ry <;> first
      | exact (show False from h).elim
      | (obtain ⟨hc, h⟩ := TRg.ite h
         exact call_divmod pins s σ H _ us Q I rv ⟨_, _, rfl, hc, h.new r fun p hp => .tup (SqT.of upd_same) (.cons (.int _) (.cons (.int _) .nil))⟩)
theorem bi_abs : CallR X (.builtin "abs") (rC (tb X fa ca) W σ₀ (evBi .abs)) := by
  intro pins s σ H xs us Q I rv h
  obtain ⟨F, G, m, st, ds, r, rd, h⟩ := h
  match ds, rd, h with
  | [], _, h => exact (show False from h).elim
  | d :: e :: l, rd, h => cases rd with | cons a b => cases a <;> exact (show False from h).elim
  | [d], rd, h =>
    obtain ⟨x, rfl, rx⟩ := one_of rd
    cases rx <;> first
      | exact (show False from h).elim
      | exact call_abs pins s σ H _ us Q I rv ⟨_, rfl, TRg.ok h r (.int _)⟩
theorem bi_int : CallR X (.type "int") (rC (tb X fa ca) W σ₀ (evBi .int)) := by
  intro pins s σ H xs us Q I rv h
  obtain ⟨F, G, m, st, ds, r, rd, h⟩ := h
  match ds, rd, h with
  | [], _, h => exact (show False from h).elim
  | d :: e :: l, rd, h => cases rd with | cons a b => cases a <;> exact (show False from h).elim
  | [d], rd, h =>
    obtain ⟨x, rfl, rx⟩ := one_of rd
    cases rx <;> first
      | exact (show False from h).elim
      | exact call_int1 pins s σ H _ us Q I rv (.inl ⟨_, rfl, TRg.ok h r (.int _)⟩)
theorem bi_str : CallR X (.type "str") (rC (tb X fa ca) W σ₀ (evBi .str)) := by
  intro pins s σ H xs us Q I rv h
  obtain ⟨F, G, m, st, ds, r, rd, h⟩ := h
  match ds, rd, h with
  | [], _, h => exact (show False from h).elim
  | d :: e :: l, rd, h => cases rd with | cons a b => cases a <;> exact (show False from h).elim
  | [d], rd, h =>
    obtain ⟨x, rfl, rx⟩ := one_of rd
    cases rx <;> first
      | exact (show False from h).elim
      | (obtain ⟨hc, h⟩ := TRg.ite h
         exact call_str_int pins s σ H _ us Q I rv ⟨_, rfl, hc, TRg.ok h r (.str _)⟩)
theorem bi_tuple : CallR X (.type "tuple") (rC (tb X fa ca) W σ₀ (evBi .tuple)) := by
  intro pins s σ H xs us Q I rv h
  obtain ⟨F, G, m, st, ds, r, rd, h⟩ := h
  match ds, rd, h with
  | [], _, h => exact (show False from h).elim
  | d :: e :: l, rd, h => cases rd with | cons a b => cases a <;> exact (show False from h).elim
  | [d], rd, h =>
    obtain ⟨x, rfl, rx⟩ := one_of rd
    have lists : (TRg (tb X fa ca) W (Rp (tb X fa ca)) σ₀ F G m (match st.items d with | some es => .ok (.tup es) st | none => .stuck) Q) → wpAny (model X.prog X.w) X.A (call (.type "tuple") us) (EP X pins σ Q) X.xe s := by
      intro h
      cases q : st.items d with
      | none => rw [q] at h; exact h.elim
      | some es =>
        rw [q] at h
        obtain ⟨a, vs, rfl, ha, ra⟩ := r.items q rx
        exact call_tuple_of pins s σ H _ us Q I rv ⟨a, vs, rfl, .inl ⟨SqL.of ha, h.new r fun p hp => .tup (SqT.of upd_same) (ra.mono (Ext.upd (none_of_sub r.gH hp)))⟩⟩
    cases rx with
    | @tup a vs es h1 h2 => exact call_tuple_of pins s σ H _ us Q I rv ⟨a, vs, rfl, .inr ⟨SqT.sub r.gH h1, TRg.ok h r (.tup h1 h2)⟩⟩
    | lst h1 h2 => exact lists h
    | ref e => exact lists h
    | _ => exact (show False from h).elim
theorem bi_list : CallR X (.type "list") (rC (tb X fa ca) W σ₀ (evBi .list)) := by
  intro pins s σ H xs us Q I rv h
  obtain ⟨F, G, m, st, ds, r, rd, h⟩ := h
  match ds, rd, h with
  | [], _, h => exact (show False from h).elim
  | d :: e :: l, rd, h => cases rd with | cons a b => cases a <;> exact (show False from h).elim
  | [d], rd, h =>
    obtain ⟨x, rfl, rx⟩ := one_of rd
    have lists : (TRg (tb X fa ca) W (Rp (tb X fa ca)) σ₀ F G m (match st.items d with | some es => .ok (.lst es) st | none => .stuck) Q) → wpAny (model X.prog X.w) X.A (call (.type "list") us) (EP X pins σ Q) X.xe s := by
      intro h
      cases q : st.items d with
      | none => rw [q] at h; exact h.elim
      | some es =>
        rw [q] at h
        obtain ⟨a, vs, rfl, ha, ra⟩ := r.items q rx
        exact call_list_of pins s σ H _ us Q I rv ⟨a, vs, rfl, .inl (SqL.of ha), h.new r fun p hp => .lst upd_same (ra.mono (Ext.upd (none_of_sub r.gH hp)))⟩
    cases rx with
    | @tup a vs es h1 h2 => exact call_list_of pins s σ H _ us Q I rv ⟨a, vs, rfl, .inr (SqT.sub r.gH h1), h.new r fun p hp => .lst upd_same (h2.mono (Ext.upd (none_of_sub r.gH hp)))⟩
    | lst h1 h2 => exact lists h
    | ref e => exact lists h
    | _ => exact (show False from h).elim
theorem bi_repr (hu : X.A.units + 80 < cLine) (hg : X.A.guards = some []) : CallR X (.builtin "repr") (rC (tb X fa ca) W σ₀ (evBi .repr)) := by
  intro pins s σ H xs us Q I rv h
  obtain ⟨F, G, m, st, ds, r, rd, h⟩ := h
  match ds, rd, h with
  | [], _, h => exact (show False from h).elim
  | d :: e :: l, rd, h => cases rd with | cons a b => cases a <;> exact (show False from h).elim
  | [d], rd, h =>
    obtain ⟨x, rfl, rx⟩ := one_of rd
    have h' : TRg (tb X fa ca) W (Rp (tb X fa ca)) σ₀ F G m (match st.py d with | some p => if (p.showable && !p.hasDict && decide (p.depth ≤ 64) && decide (p.shown.length ≤ sizeLine)) = true then .ok (.str p.shown) st else .stuck | none => .stuck) Q := h
    cases q : st.py d with
    | none => rw [q] at h'; exact h'.elim
    | some p =>
      rw [q] at h'
      obtain ⟨hc, h'⟩ := TRg.ite h'
      have c1 := Bool.and_eq_true_iff.mp hc
      have c2 := Bool.and_eq_true_iff.mp c1.1
      have c3 := Bool.and_eq_true_iff.mp c2.1
      have hd : p.hasDict = false := by simpa using c3.2
      have hdep : p.depth ≤ 64 := of_decide_eq_true c2.2
      have hsz : p.shown.length ≤ sizeLine := of_decide_eq_true c1.2
      have dp := r.py q rx
      obtain ⟨u, rfl, ru⟩ := vals1 rv
      have z := TRg.ok h' r (.str p.shown)
      obtain ⟨as, rr⟩ := Dp.reads I p x u dp ru
      cases dp with
      | non => cases ru; exact PySem.P.repr_of_none ⟨.str _, H, I.tok _, ⟨_, rfl⟩, z⟩
      | bl b => cases ru; exact PySem.P.repr_of_bool ⟨.str _, H, I.tok _, ⟨_, rfl⟩, z⟩
      | int i => obtain ⟨t, rfl⟩ := ru; exact PySem.P.repr_of_int (by simpa [PyData.showable] using c3.1) ⟨.str _, H, I.tok _, ⟨_, rfl⟩, z⟩
      | str y => obtain ⟨t, rfl⟩ := ru; exact PySem.P.repr_of_str ⟨.str _, H, I.tok _, ⟨_, rfl⟩, z⟩ hsz
      | lst h1 h2 =>
        cases ru
        exact repr_of_reads' (h₀ := s.heap) rr c3.1 (PyData.noDict_hsm hd) hg (by omega) (fun _ _ e => e) (fun h1 u tk hk => ⟨.str _, H, I.kept hk, ⟨_, rfl⟩, z⟩) hsz
      | tup h1 h2 =>
        cases ru
        exact repr_of_reads' (h₀ := s.heap) rr c3.1 (PyData.noDict_hsm hd) hg (by omega) (fun _ _ e => e) (fun h1 u tk hk => ⟨.str _, H, I.kept hk, ⟨_, rfl⟩, z⟩) hsz
end
end Mi
set_option Elab.async false
set_option linter.all false
set_option maxRecDepth 100000
set_option maxHeartbeats 400000
/-! Mi7a: sorted, of tuples whose first parts are all unlike: what stands behind these need not be comparable. -/
namespace Mi
open PySem PySem.W PyProof.Rows PySem.Calls
/-- the kind of keys: the first parts -/
noncomputable def fstKind (h : Heap) (ds : List PyData) : PyProof.Rows.KeyKind where
  toKeyOrd := listOrd itemOrd
  keyOf v := open Classical in if q : ∃ d, d ∈ ds ∧ ∃ as, Reads h v d as then some (keyToks (fstD q.choose)) else none
  dflt := ([] : List (Int ⊕ List Nat))
structure Fsts (ds : List PyData) : Prop where
  tup : ∀ d ∈ ds, ∃ x r, d = .tuple (x :: r)
  self : ∀ d ∈ ds, alike d d = true
  al : ∀ d ∈ ds, ∀ d' ∈ ds, alike (fstD d) (fstD d') = true
  two : ∀ d ∈ ds, ∀ d' ∈ ds, d = d' ∨ PyData.eqv (fstD d) (fstD d') = false
theorem apart_of : ∀ {ds : List PyData}, apart ds = true → (∀ d ∈ ds, alike d d = true) → (∀ d ∈ ds, ∃ x r, d = .tuple (x :: r)) → (∀ d ∈ ds, ∀ d' ∈ ds, alike (fstD d) (fstD d') = true) ∧ ∀ d ∈ ds, ∀ d' ∈ ds, d = d' ∨ PyData.eqv (fstD d) (fstD d') = false
  | [], _, _, _ => ⟨fun _ h => (by cases h), fun _ h => (by cases h)⟩
  | p :: ps, h, hs, ht => by
    unfold apart at h
    rw [Bool.and_eq_true, List.all_eq_true] at h
    obtain ⟨i1, i2⟩ := apart_of h.2 (fun d hd => hs d (List.mem_cons_of_mem _ hd)) fun d hd => ht d (List.mem_cons_of_mem _ hd)
    have k : ∀ q ∈ ps, alike (fstD p) (fstD q) = true ∧ alike (fstD q) (fstD p) = true ∧ PyData.eqv (fstD p) (fstD q) = false ∧ PyData.eqv (fstD q) (fstD p) = false := fun q hq => by
      have := h.1 q hq
      simpa [and_assoc] using this
    have self : alike (fstD p) (fstD p) = true := by
      obtain ⟨x, r, rfl⟩ := ht p List.mem_cons_self
      have := hs _ (List.mem_cons_self (a := PyData.tuple (x :: r)) (l := ps))
      rw [alike] at this
      exact (alike_all_cons this).1
    constructor
    · intro d hd d' hd'
      rcases List.mem_cons.mp hd with e1 | e1
      · rcases List.mem_cons.mp hd' with e2 | e2
        · rw [e1, e2]; exact self
        · rw [e1]; exact (k d' e2).1
      · rcases List.mem_cons.mp hd' with e2 | e2
        · rw [e2]; exact (k d e1).2.1
        · exact i1 d e1 d' e2
    · intro d hd d' hd'
      rcases List.mem_cons.mp hd with e1 | e1
      · rcases List.mem_cons.mp hd' with e2 | e2
        · rw [e1, e2]; exact .inl rfl
        · rw [e1]; exact .inr (k d' e2).2.2.1
      · rcases List.mem_cons.mp hd' with e2 | e2
        · rw [e2]; exact .inr (k d e1).2.2.2
        · exact i2 d e1 d' e2
theorem fsts_of {ds : List PyData} (h : sortFst ds = true) : Fsts ds ∧ ∀ d ∈ ds, d.depth ≤ 64 := by
  unfold sortFst at h
  simp only [Bool.and_eq_true, List.all_eq_true, decide_eq_true_eq] at h
  obtain ⟨⟨⟨h1, h2⟩, h3⟩, h4⟩ := h
  have ht : ∀ d ∈ ds, ∃ x r, d = PyData.tuple (x :: r) := fun d hd => by
    have q := h1 d hd
    cases d with
    | tuple xs =>
      cases xs with
      | nil => simp [isTup] at q
      | cons x r => exact ⟨x, r, rfl⟩
    | _ => simp [isTup] at q
  obtain ⟨k1, k2⟩ := apart_of h3 h2 ht
  exact ⟨⟨ht, h2, k1, k2⟩, h4⟩
theorem first_reads {h : Heap} {v : Value} {x x' : PyData} {r r' : List PyData} {as as' : List Addr} (ha : alike x x' = true) (h1 : Reads h v (.tuple (x :: r)) as) (h2 : Reads h v (.tuple (x' :: r')) as') : x = x' := by
  cases h1 with
  | tuple a1 a2 a3 a4 =>
    cases h2 with
    | tuple b1 b2 b3 b4 =>
      rw [a1] at b1; cases b1
      rw [a3] at b3; cases b3
      generalize hL : Array.toList _ = L at a4 b4
      cases a4 with
      | cons c1 c2 =>
        cases b4 with
        | cons d1 d2 => exact alike_unique _ _ _ _ _ ha c1 d1
theorem fstKind_some {h : Heap} {ds : List PyData} (F : Fsts ds) {v : Value} {d : PyData} {as : List Addr} (hd : d ∈ ds) (r : Reads h v d as) : (fstKind h ds).keyOf v = some (keyToks (fstD d)) := by
  have q : ∃ d, d ∈ ds ∧ ∃ as, Reads h v d as := ⟨d, hd, as, r⟩
  have e : (fstKind h ds).keyOf v = some (keyToks (fstD q.choose)) := by
    show (open Classical in if q : ∃ d, d ∈ ds ∧ ∃ as, Reads h v d as then some (keyToks (fstD q.choose)) else none) = _
    rw [dif_pos q]
  obtain ⟨h1, as', h2⟩ := q.choose_spec
  have ha := F.al _ h1 _ hd
  obtain ⟨x, t, e1⟩ := F.tup _ h1
  obtain ⟨x', t', rfl⟩ := F.tup _ hd
  rw [e1] at h2 ha
  rw [e, e1]
  have : x = x' := first_reads ha h2 r
  rw [this]
  rfl
theorem fstKind_inv {h : Heap} {ds : List PyData} {v : Value} {k : List (Int ⊕ List Nat)} (e : (fstKind h ds).keyOf v = some k) : ∃ d as, d ∈ ds ∧ Reads h v d as ∧ k = keyToks (fstD d) := by
  by_cases q : ∃ d, d ∈ ds ∧ ∃ as, Reads h v d as
  · have e' : (fstKind h ds).keyOf v = some (keyToks (fstD q.choose)) := by
      show (open Classical in if q : ∃ d, d ∈ ds ∧ ∃ as, Reads h v d as then some (keyToks (fstD q.choose)) else none) = _
      rw [dif_pos q]
    obtain ⟨h1, as', h2⟩ := q.choose_spec
    rw [e'] at e
    exact ⟨_, as', h1, h2, (Option.some.inj e).symm⟩
  · have e' : (fstKind h ds).keyOf v = none := by
      show (open Classical in if q : ∃ d, d ∈ ds ∧ ∃ as, Reads h v d as then some (keyToks (fstD q.choose)) else none) = _
      rw [dif_neg q]
      rfl
    rw [e'] at e
    exact absurd e (by simp)
section
variable {prog : Program} {w : World} {A : Around} {s : Shared}
theorem sortsAt_fst {vs : List Value} {ds : List PyData} (e : EachIs (fun v d => ∃ as, Reads s.heap v d as) vs ds) (F : Fsts ds) (hu : ∀ d, d ∈ ds → A.units + d.depth < cLine) : SortsAt prog w A s (fstKind s.heap ds) vs := by
  have room : ∀ {d d' : PyData}, d ∈ ds → A.units + min d.depth d'.depth < cLine := fun {d d'} hd => Nat.lt_of_le_of_lt (Nat.add_le_add_left (Nat.min_le_left _ _) _) (hu d hd)
  refine ⟨fun v hv => ?_, ?_⟩
  · obtain ⟨d, hd, as, r⟩ := e.left v hv
    exact ⟨_, fstKind_some F hd r⟩
  · cases ds with
    | nil =>
      cases e
      exact ⟨general', fun E x y a b Q ha _ _ => (by
        obtain ⟨d, _, hd, _⟩ := fstKind_inv ha
        exact absurd hd (by simp)), fun h2 => absurd h2 (by simp)⟩
    | cons d₀ ds₀ =>
      obtain ⟨x₀, r₀, e₀⟩ := F.tup d₀ (List.mem_cons_self ..)
      have hfirst : ∀ x r, PyData.tuple (x :: r) ∈ d₀ :: ds₀ → alike x x₀ = true := by
        intro x r hm
        have q := F.al _ hm d₀ (List.mem_cons_self ..)
        rw [e₀] at q
        exact q
      refine ⟨tuples' (dataType x₀ != Value.type "tuple"), ?_, fun h2 E Q hq => ?_⟩
      · intro E x y a b Q ha hb hq
        obtain ⟨d, as, hd, ra, rfl⟩ := fstKind_inv ha
        obtain ⟨d', as', hd', rb, rfl⟩ := fstKind_inv hb
        have hal := F.al d hd d' hd'
        have htwo := F.two d hd d' hd'
        have hself := F.self d hd
        have hroom := room (d' := d') hd
        obtain ⟨x1, r1, rfl⟩ := F.tup d hd
        obtain ⟨x2, r2, rfl⟩ := F.tup d' hd'
        have hq' : Q (PyProof.Rows.lexLt itemOrd (keyToks x1) (keyToks x2)) s := hq
        have hnt : (dataType x₀ != Value.type "tuple") = true → ∀ t, x1 ≠ .tuple t := fun hb t => by
          have q := dataType_alike (hfirst _ _ hd)
          rw [← q] at hb
          exact dataType_tuple hb t
        cases ra with
        | @tuple l o xs n _ _ h1 h2 h3 h4 =>
          cases rb with
          | @tuple l' o' xs' n' _ _ k1 k2 k3 k4 =>
            have n1 : xs.size = (x1 :: r1).length := by simpa using SeqAt.ReadsAll.length _ _ _ h4
            have n2 : xs'.size = (x2 :: r2).length := by simpa using SeqAt.ReadsAll.length _ _ _ k4
            rcases htwo with heq | hne
            · injection heq with heq
              rw [← heq] at k4 n2
              have hx : x1 = x2 := (List.cons.inj heq).1
              rw [← hx, lex_irrefl] at hq'
              refine kat_lt h1 h3 k1 k3 (katLex_alike (x1 :: r1) (x1 :: r1) 0 _ _ _ _ h4 k4 (by simpa [alike] using hself) (by have q := SeqAt.room_in hroom; rw [← heq] at q; omega) (fun hb _ x r t ex => ?_) (by rw [n1, n2]) (by rw [lex_irrefl]; exact hq'))
              obtain ⟨rfl, rfl⟩ := List.cons.inj ex
              exact hnt hb t
            · have hal : alike x1 x2 = true := hal
              have hne : PyData.eqv x1 x2 = false := hne
              refine kat_lt h1 h3 k1 k3 ?_
              have hin := SeqAt.room_in hroom
              have hin2 : A.units + min (PyData.depthAll (x1 :: r1)) (PyData.depthAll (x2 :: r2)) < cLine := by omega
              generalize hL : xs.toList = L at h4
              generalize hL' : xs'.toList = L' at k4
              cases h4 with
              | cons r rs =>
                cases k4 with
                | cons r' rs' =>
                  rw [List.zip_cons_cons]
                  refine kat_cons (eqAt_alike x1 x2 A s _ _ _ _ r r' hal (SeqAt.room_head hin2) prog w _ _ ?_)
                  rw [hne]
                  refine kat_no (oneLt_alike (fun hbi t => ?_) r r' hal (ne_none_of hal hne) (SeqAt.room_head hin2) hq')
                  rw [Bool.and_eq_true] at hbi
                  exact hnt hbi.1 t
      · obtain ⟨fs, t1, t2, t3⟩ := each_katTups e F.tup
        refine kat_kind (T := dataType x₀) t1 (by omega) (fun f hf => ?_) (beq_self_eq_true _) hq
        obtain ⟨x, r, as, m1, m2⟩ := t3 f hf
        rw [← dataType_alike (hfirst x r m1)]
        exact looks_reads m2
theorem fst_dataLt {ds : List PyData} (F : Fsts ds) {d d' : PyData} (hd : d ∈ ds) (hd' : d' ∈ ds) : dataLt d d' = PyProof.Rows.lexLt itemOrd (keyToks (fstD d)) (keyToks (fstD d')) := by
  have hal := F.al d hd d' hd'
  have htwo := F.two d hd d' hd'
  obtain ⟨x1, r1, rfl⟩ := F.tup d hd
  obtain ⟨x2, r2, rfl⟩ := F.tup d' hd'
  rcases htwo with h | h
  · rw [← h]
    show PyProof.Rows.lexLt itemOrd _ _ = PyProof.Rows.lexLt itemOrd _ _
    rw [lex_irrefl, lex_irrefl]
  · rw [dataLt_tuple]
    exact dataLt_all_no hal h
end
section
variable {prog : Program} {w : World} {A : Around} {E : Value → Shared → Prop} {s : Shared} {β : Type} {vs : List Value} {bs : List β} {enc : β → PyData} {R : Value → β → Prop}
theorem sorted_fst {l : Addr} {Q : Value → Shared → Prop} (hl : s.heap.IsList l vs.toArray) (e : EachIs R vs bs) (er : EachIs (fun v b => ∃ as, Reads s.heap v (enc b) as) vs bs) (F : Fsts (bs.map enc)) (hL : bs.length ≤ sizeLine)
    (hu : ∀ b, b ∈ bs → A.units + 2 + (enc b).depth < cLine) (h : ∀ out, out.length = bs.length → EachIs R out (bs.mergeSort (dataLe false enc)) → Q (.ref (s.heap.objs.size + 1)) { s with heap := sortedAll s.heap vs (List.toArray out) }) :
    wpAny (model prog w) A (call (.builtin "sorted") [.ref l]) Q E s := by
  have er' : EachIs (fun v b => ∃ as, Reads (sortingHeap (copyHeap s.heap vs) (s.heap.objs.size + 1) vs) v (enc b) as) vs bs := er.mono fun _ _ ⟨as, r⟩ => ⟨as, PyProof.Rows.Reads.keeps (fun _ _ => sorting_copy_old) r⟩
  refine sorted_vals hl (sortsAt_fst (s := { s with heap := sortingHeap (copyHeap s.heap vs) (s.heap.objs.size + 1) vs }) (each_map (R := fun v d => ∃ as, Reads (sortingHeap (copyHeap s.heap vs) (s.heap.objs.size + 1) vs) v d as) enc er') F (bound_map hu)) (by rw [e.length]; exact hL)
    (h _ (by rw [sortVals_length false rfl]; exact e.length) ?_)
  have hk : EachIs (fun v b => (fstKind (sortingHeap (copyHeap s.heap vs) (s.heap.objs.size + 1) vs) (bs.map enc)).keyOf v = some (keyToks (fstD (enc b)))) vs bs :=
    (each_mem er').mono fun v b ⟨⟨as, r⟩, hb⟩ => fstKind_some F (List.mem_map.mpr ⟨b, hb, rfl⟩) r
  have := sortVals_each (κ := fstKind (sortingHeap (copyHeap s.heap vs) (s.heap.objs.size + 1) vs) (bs.map enc)) (rev := false) (fun b => keyToks (fstD (enc b))) e hk
  have e2 : bs.mergeSort (sortLe (fstKind (sortingHeap (copyHeap s.heap vs) (s.heap.objs.size + 1) vs) (bs.map enc)).toKeyOrd false fun b => keyToks (fstD (enc b))) = bs.mergeSort (dataLe false enc) := by
    have := List.map_mergeSort (r := sortLe (fstKind (sortingHeap (copyHeap s.heap vs) (s.heap.objs.size + 1) vs) (bs.map enc)).toKeyOrd false fun b => keyToks (fstD (enc b))) (s := dataLe false enc) (f := fun b : β => b) (l := bs) (fun a ha b hb => by
      rw [dataLe_eq]
      show (!PyProof.Rows.lexLt itemOrd (keyToks (fstD (enc b))) (keyToks (fstD (enc a)))) = !dataLt (enc b) (enc a)
      rw [fst_dataLt F (List.mem_map.mpr ⟨b, hb, rfl⟩) (List.mem_map.mpr ⟨a, ha, rfl⟩)])
    simpa using this
  rw [← e2]
  exact this
end
end Mi
set_option Elab.async false
set_option linter.all false
set_option maxRecDepth 100000
set_option maxHeartbeats 400000
/-! Mi7: sorted. -/
namespace Mi
open PySem PySem.Spec PyProof.Rows L2
section
variable {X : Cx} {fa ca : Nat → Addr} {W : WX} {σ₀ : L2.St}
abbrev encD (st : S) (d : D) : PyData := (st.py d).getD .none
theorem leD_eq (st : S) : leD st = PySem.W.dataLe false (encD st) := by
  rw [PySem.W.dataLe_eq]
  rfl
theorem pys_map {st : S} : ∀ {ds : List D} {ps : List PyData}, st.pys ds = some ps → ds.map (encD st) = ps ∧ ∀ d ∈ ds, st.py d = some (encD st d)
  | [], ps, h => by
    simp only [S.pys, toPys, Option.some.injEq] at h
    subst h
    exact ⟨rfl, fun d hd => by cases hd⟩
  | d :: ds, ps, h => by
    simp only [S.pys, toPys] at h
    cases q1 : toPy (st.look 4) d with
    | none => rw [q1] at h; simp at h
    | some p =>
      cases q2 : toPys (st.look 4) ds with
      | none => rw [q1, q2] at h; simp at h
      | some ps' =>
        rw [q1, q2] at h
        simp only [Option.some.injEq] at h
        subst h
        obtain ⟨i1, i2⟩ := pys_map (st := st) (ds := ds) q2
        have e : encD st d = p := by
          show (toPy (st.look 4) d).getD .none = p
          rw [q1]
          rfl
        refine ⟨by rw [List.map_cons, e, i1], fun x hx => ?_⟩
        rcases List.mem_cons.mp hx with rfl | hx
        · rw [e]; exact q1
        · exact i2 x hx
theorem sort_each {pins : List (Addr × Obj)} {s : Shared} {σ : L2.St} {F G H : Hp} {m : Mm} {st : S} (I : Inv X pins σ H s) (r : R (tb X fa ca) F G m st H) : ∀ {ds : List D} {vs : List V} {us : List Value}, (∀ d ∈ ds, st.py d = some (encD st d)) → Rps (tb X fa ca) G m ds vs → Vals vs us →
    PySem.W.EachIs (fun u d => ∃ v, Rp (tb X fa ca) G m d v ∧ RelV v u) us ds ∧ PySem.W.EachIs (fun u d => ∃ as, Reads s.heap u (encD st d) as) us ds
  | [], _, _, _, .nil, .nil => ⟨.nil, .nil⟩
  | d :: ds, _, _, h, .cons a b, .cons c e => by
    obtain ⟨i1, i2⟩ := sort_each I r (fun d hd => h d (List.mem_cons_of_mem _ hd)) b e
    exact ⟨.cons ⟨_, a, c⟩ i1, .cons (Dp.reads I _ _ _ (r.py (h d List.mem_cons_self) a) c) i2⟩
theorem each_back {G : Hp} {m : Mm} {T : Tb} : ∀ {us : List Value} {ds : List D}, PySem.W.EachIs (fun u d => ∃ v, Rp T G m d v ∧ RelV v u) us ds → ∃ vs, Rps T G m ds vs ∧ Vals vs us
  | _, _, .nil => ⟨[], .nil, .nil⟩
  | _, _, .cons ⟨v, a, b⟩ t => by
    obtain ⟨vs, c, d⟩ := each_back t
    exact ⟨v :: vs, .cons a c, .cons b d⟩
theorem sortOk_of {st : S} {ds : List D} {ps : List PyData} (h : sortOk ps = true) (e : ds.map (encD st) = ps) : PySem.W.AllAlike (ds.map (encD st)) ∧ PySem.W.Sortable (ds.map (encD st)) ∧ ∀ d ∈ ds, (encD st d).depth ≤ 64 := by
  unfold sortOk at h
  rw [Bool.and_eq_true, Bool.and_eq_true, Bool.or_eq_true] at h
  obtain ⟨⟨h1, h2⟩, h3⟩ := h
  refine ⟨fun a ha b hb => ?_, ?_, fun d hd => ?_⟩
  · rw [e] at ha hb
    exact List.all_eq_true.mp (List.all_eq_true.mp h1 a ha) b hb
  · rw [e]
    rcases h2 with h2 | h2
    · refine .inl fun d hd => ?_
      have q := List.all_eq_true.mp h2 d hd
      cases d with
      | tuple xs =>
        cases xs with
        | nil => simp [isTup] at q
        | cons x r => exact ⟨x, r, rfl⟩
      | _ => simp [isTup] at q
    · refine .inr fun d hd => ?_
      have q := List.all_eq_true.mp h2 d hd
      cases d <;> first | (simp [isAtom] at q; done) | exact ⟨by simp, by simp⟩
  · have q := List.all_eq_true.mp h3 (encD st d) (by rw [← e]; exact List.mem_map.mpr ⟨d, hd, rfl⟩)
    exact of_decide_eq_true q
theorem vals_at : ∀ {vs : List V} {us : List Value}, us.length = vs.length → (∀ (j : Nat) u, us[j]? = some u → ∃ v, vs[j]? = some v ∧ RelV v u) → Vals vs us
  | [], [], _, _ => .nil
  | [], _ :: _, h, _ => by simp at h
  | _ :: _, [], h, _ => by simp at h
  | v :: vs, u :: us, h, k => by
    obtain ⟨v', e1, e2⟩ := k 0 u rfl
    cases e1
    exact .cons e2 (vals_at (by simpa using h) fun j w e => by simpa using k (j + 1) w (by simpa using e))
theorem paired_back {α β : Type} {P : α → β → Prop} : ∀ {l1 : List α} {l2 : List β} {i : Nat} {q : β}, Paired P l1 l2 → l2[i]? = some q → ∃ p, l1[i]? = some p ∧ P p q
  | _, _, 0, _, .cons z _, e => ⟨_, rfl, by simp at e; exact e ▸ z⟩
  | _, _, i + 1, _, .cons _ t, e => by
    obtain ⟨p, e1, e2⟩ := paired_back (i := i) t (by simpa using e)
    exact ⟨p, by simpa using e1, e2⟩
mutual
theorem reads_lt {h : Heap} : ∀ (p : PyData) {u : Value} {as : List Addr}, PySem.W.alike p p = true → Reads h u p as → ∀ a ∈ as, a < h.objs.size
  | .none, _, _, _, r, _, hm => by cases r; cases hm
  | .bool _, _, _, _, r, _, hm => by cases r; cases hm
  | .int _, _, _, _, r, _, hm => by cases r; cases hm
  | .str _, _, _, _, r, _, hm => by cases r; cases hm
  | .list ps, _, _, hal, r, a, hm => by
    cases r with
    | list h1 _ _ h4 =>
      rcases List.mem_cons.mp hm with e | hm
      · rw [e]; exact Heap.lt_size h1
      · exact readsAll_lt ps (by simpa [PySem.W.alike] using hal) h4 a hm
  | .tuple ps, _, _, hal, r, a, hm => by
    cases r with
    | tuple _ _ _ h4 => exact readsAll_lt ps (by simpa [PySem.W.alike] using hal) h4 a hm
  | .dict _, _, _, hal, _, _, _ => absurd hal (by simp [PySem.W.alike])
theorem readsAll_lt {h : Heap} : ∀ (ps : List PyData) {us : List Value} {as : List Addr}, PySem.W.alikeAll ps ps = true → ReadsAll h us ps as → ∀ a ∈ as, a < h.objs.size
  | [], _, _, _, r, _, hm => by cases r; cases hm
  | p :: ps, _, _, hal, r, a, hm => by
    cases r with
    | cons h1 h2 =>
      rcases List.mem_append.mp hm with hm | hm
      · exact reads_lt p (PySem.W.alike_all_cons hal).1 h1 a hm
      · exact readsAll_lt ps (PySem.W.alike_all_cons hal).2 h2 a hm
end
theorem bi_sorted (hcalm : X.calm = true) (hu : X.A.units + 80 < cLine) : CallR X (.builtin "sorted") (rC (tb X fa ca) W σ₀ (evBi .sorted)) := by
  intro pins s σ H xs us Q I rv h
  obtain ⟨F, G, m, st, ds, r, rd, h⟩ := h
  match ds, rd, h with
  | [], _, h => exact (show False from h).elim
  | d :: _ :: _, rd, h => cases d <;> exact (show False from h).elim
  | [d], rd, h =>
    obtain ⟨x, rfl, rx⟩ := one_of rd
    obtain ⟨u, rfl, ru⟩ := vals1 rv
    have lists : (TRg (tb X fa ca) W (Rp (tb X fa ca)) σ₀ F G m (match st.items d with
      | some ds => match st.pys ds with
        | some ps => if (sortOk ps || sortFst ps) = true then .ok (.lst (ds.mergeSort (leD st))) st else .stuck
        | none => .stuck
      | none => .stuck) Q) → wpAny (model X.prog X.w) X.A (call (.builtin "sorted") [u]) (EP X pins σ Q) X.xe s := by
      intro h
      cases q : st.items d with
      | none => rw [q] at h; exact h.elim
      | some es =>
        rw [q] at h
        cases q2 : st.pys es with
        | none => simp only [q2] at h; exact h.elim
        | some ps =>
          simp only [q2] at h
          obtain ⟨hc, h⟩ := TRg.ite h
          obtain ⟨a, vs, rfl, ha, ra⟩ := r.items q rx
          cases ru
          obtain ⟨its, rvs, pl, hz⟩ := I.list (SqL.of (K := X.K) ha)
          obtain ⟨e1, e2⟩ := pys_map q2
          obtain ⟨x1, x2⟩ := sort_each I r e2 ra rvs
          have hl : es.length ≤ sizeLine := by rw [ra.length]; exact hz
          have main : ∀ {Q' : Value → Shared → Prop}, (∀ out, out.length = es.length → PySem.W.EachIs (fun u d => ∃ v, Rp (tb X fa ca) G m d v ∧ RelV v u) out (es.mergeSort (leD st)) → Q' (.ref (s.heap.objs.size + 1)) { s with heap := sortedAll s.heap its (List.toArray out) }) → wpAny (model X.prog X.w) X.A (call (.builtin "sorted") [.ref a]) Q' X.xe s := by
            intro Q' hq
            rw [Bool.or_eq_true] at hc
            rcases hc with hc | hc
            · obtain ⟨p1, p2, p3⟩ := sortOk_of hc e1
              refine PySem.W.sorted_data pl.isList x1 x2 p1 p2 hl (fun b hb => by have := p3 b hb; omega) fun out ho eo => ?_
              rw [← leD_eq] at eo
              exact hq out ho eo
            · obtain ⟨F, p3⟩ := fsts_of hc
              rw [← e1] at F p3
              refine sorted_fst pl.isList x1 x2 F hl (fun b hb => by have := p3 _ (List.mem_map.mpr ⟨b, hb, rfl⟩); omega) fun out ho eo => ?_
              rw [← leD_eq] at eo
              exact hq out ho eo
          refine main fun out ho eo => ?_
          obtain ⟨ws, rw1, rw2⟩ := each_back eo
          obtain ⟨c, hc'⟩ := PyProof.Rows.sortedAll_at s.heap its out.toArray
          have hlen : ws.length ≤ sizeLine := by rw [← rw1.length, List.length_mergeSort]; exact hl
          have I2 := I.laid (t' := s.toks) (h' := sortedAll s.heap its out.toArray) (a := s.heap.objs.size + 1) (o := .lst ws) (fun b o e => PyProof.Rows.sortedAll_old e) (by omega) ⟨hlen, out, c, rw2, hc'⟩
          have hf : H (s.heap.objs.size + 1) = none := I.hok.fresh (by omega)
          exact ⟨.ref (s.heap.objs.size + 1), _, I2, rfl, h.new r (fun p hp => .lst upd_same (rw1.mono (Ext.upd (none_of_sub r.gH hp)))) _ hf⟩
    cases rx with
    | @dic a ho kvs ks vs h1 h2 h3 h4 h5 =>
      have h' : TRg (tb X fa ca) W (Rp (tb X fa ca)) σ₀ F G m (match st.pys ks with
        | some ps => if sortOk ps then .ok (.lst (ks.mergeSort (leD st))) st else .stuck
        | none => .stuck) Q := h
      clear h
      cases q2 : st.pys ks with
      | none => simp only [q2] at h'; exact h'.elim
      | some ps =>
        simp only [q2] at h'
        obtain ⟨hc, h⟩ := TRg.ite h'
        cases ru
        obtain ⟨ob, es, ep, xs, rfl, g1, g2, g3, g4, g5, g6, g7⟩ := h2
        obtain ⟨hg, _, _⟩ := I.hok a _ (r.gH _ _ h1)
        obtain ⟨e1, e2⟩ := pys_map q2
        obtain ⟨p1, p2, p3⟩ := sortOk_of hc e1
        have hlx : es.size = xs.length := by rw [← Array.length_toList, g3, List.length_map]
        have hlk : kvs.length = xs.length := Paired.length g7
        have hlks : ks.length = kvs.length := by have := h3.length; rw [List.length_map] at this; exact this
        refine Calls.call_function_entry PyProof.Rows.kind_sorted PyProof.Rows.plain_sorted PyProof.Rows.entry_sorted (PyProof.Rows.args_sorted1 _) ?_
        unfold Builtin.«sorted»
        refine wpAny_bind (m := checkCount "sorted" 1 1 _) (wpAny_pure ?_)
        refine wpAny_bind (PySem.W.kdu_collect (A := X.A.in1) (kdl_raw g5 g1 g2) (I.ok.hd hcalm) hg (by omega) fun h' tk acc hk hacc => ?_)
        -- the collected keys are the keys' values
        have keyv : Vals (kvs.map fun p => V.ref p.2.1) acc.toList := by
          refine vals_at (by rw [List.length_map, Array.length_toList, hacc.1]; omega) fun j v e => ?_
          obtain ⟨en, e3, e4⟩ := hacc.2 j v (by rw [← Array.getElem?_toList]; exact e)
          rw [← Array.getElem?_toList, g3, List.getElem?_map] at e3
          cases e5 : xs[j]? with
          | none => rw [e5] at e3; cases e3
          | some x =>
            rw [e5] at e3
            cases e3
            obtain ⟨p, e6, e7⟩ := paired_back g7 e5
            refine ⟨V.ref p.2.1, by rw [List.getElem?_map, e6] <;> rfl, ?_⟩
            rw [e4, e7.2.1]
            rfl
        have I1 : Inv X pins σ H { s with heap := h', toks := tk } := I.kept hk
        have hal : acc.toList.length = ks.length := by rw [Array.length_toList, hacc.1]; omega
        refine wpAny_bind (wpAny_newList ?_ (by rw [hal]; omega))
        have hoL : (h'.push (seqObj "list" acc.toList.toArray 0)).get? h'.objs.size = some (seqObj "list" acc.toList.toArray 0) := Heap.get?_push_size _ rfl
        show wpAny _ _ _ _ _ { s with heap := h'.push (seqObj "list" acc.toList.toArray 0), toks := tk }
        obtain ⟨x1, x2⟩ := sort_each I1 r e2 h3 keyv
        have x3 : PySem.W.EachIs (fun u d => ∃ as, Reads (h'.push (seqObj "list" acc.toList.toArray 0)) u (encD st d) as ∧ h'.objs.size ∉ as) acc.toList ks :=
          (PySem.W.each_mem x2).mono fun u d ⟨⟨as, z⟩, hd⟩ => ⟨as, PyProof.Rows.Reads.keeps (fun _ _ q => Heap.get?_push_of_some _ q) z, fun hm => Nat.lt_irrefl _ (reads_lt _ (p1 _ (List.mem_map.mpr ⟨d, hd, rfl⟩) _ (List.mem_map.mpr ⟨d, hd, rfl⟩)) z _ hm)⟩
        refine wpAny_bind (wpAny_holding (PySem.W.list_sort_data (s := { s with heap := h'.push (seqObj "list" acc.toList.toArray 0), toks := tk }) (enc := encD st) hoL x1 x3 p1 p2 (by omega) (fun b hb => by have := p3 b hb; show X.A.units + 1 + 1 + _ < _; omega) fun out ho eo => ?_))
        rw [← leD_eq] at eo
        obtain ⟨ws, rw1, rw2⟩ := each_back eo
        obtain ⟨c, hc'⟩ := PyProof.Rows.sortedHeap_at (vs := acc.toList) (out := out.toArray) hoL
        have hlen : ws.length ≤ sizeLine := by rw [← rw1.length, List.length_mergeSort]; omega
        have hf : H h'.objs.size = none := I1.hok.fresh (Nat.le_refl _)
        refine wpAny_pure ⟨_, rfl, .ref h'.objs.size, upd H h'.objs.size (.lst ws), I1.laid (t' := tk) (fun b u e => ?_) (Nat.le_refl _) ⟨hlen, out, c, rw2, hc'⟩, rfl, h.new r (fun p hp => .lst upd_same (rw1.mono (Ext.upd (none_of_sub r.gH hp)))) _ hf⟩
        have hb : b < h'.objs.size := Heap.lt_size e
        rw [PyProof.Rows.sortedHeap_old (Nat.ne_of_lt hb) (by rw [size_push']; exact Nat.lt_succ_of_lt hb)]
        exact Heap.get?_push_of_some _ e
    | lst h1 h2 => exact lists h
    | ref e => exact lists h
    | _ => exact lists h
end
end Mi
set_option Elab.async false
set_option linter.all false
set_option maxRecDepth 100000
set_option maxHeartbeats 400000
/-! Mi8: methods, subscripts, stores, slices, freezing, isinstance. -/
namespace Mi
open PySem PySem.Spec PyProof.Rows L2
section
variable {X : Cx} {fa ca : Nat → Addr} {W : WX} {σ₀ : L2.St}
def rM (T : Tb) (W : WX) (σ₀ : L2.St) (ev : D → List D → S → Res D) : V → List V → Hp → VK → Prop := fun x xs H Q =>
  ∃ F G m s d ds, R T F G m s H ∧ Rp T G m d x ∧ Rps T G m ds xs ∧ TRg T W (Rp T) σ₀ F G m (ev d ds s) Q
def idM : Mt → String
  | .append => "list.append"
  | .extend => "list.extend"
  | .index => "list.index"
  | .get => "dict.get"
theorem firstIx_of {p : PyData} : ∀ {ps : List PyData} {k i : Nat}, firstIx p k ps = some i → ∃ j z, i = k + j ∧ ps[j]? = some z ∧ PyData.eqv z p = true ∧ ∀ (n : Nat) (z' : PyData), n < j → ps[n]? = some z' → PyData.eqv z' p = false
  | [], _, _, h => by simp [firstIx] at h
  | q :: r, k, i, h => by
    simp only [firstIx] at h
    by_cases hq : PyData.eqv q p = true
    · rw [if_pos hq] at h
      cases h
      exact ⟨0, q, rfl, rfl, hq, fun n z' hn => absurd hn (Nat.not_lt_zero n)⟩
    · rw [if_neg hq] at h
      obtain ⟨j, z, e1, e2, e3, e4⟩ := firstIx_of h
      refine ⟨j + 1, z, by omega, by simpa using e2, e3, fun n z' hn hz => ?_⟩
      cases n with
      | zero =>
        simp at hz
        subst hz
        simpa using hq
      | succ n => exact e4 n z' (by omega) (by simpa using hz)
theorem cell_lst {T : Tb} {F G H : Hp} {m : Mm} {st : S} {n : Nat} {fz : Bool} {ds : List D} {v : V} (r : R T F G m st H) (q : st.get n = some (.lst fz ds)) (rx : Rp T G m (.ref n) v) : ∃ a vs, v = .ref a ∧ m n = some a ∧ H a = some (.lst vs) ∧ Rps T G m ds vs ∧ (fz = true → G a = some (.lst vs)) ∧ (fz = false → G a = none) := by
  cases rx with
  | ref e =>
    obtain ⟨a, e1, ⟨vs, h1, h2, h3, h4⟩, _⟩ := r.cell n _ q
    rw [e] at e1
    cases e1
    exact ⟨_, vs, rfl, e, h1, h2, h3, h4⟩
theorem cell_dic {T : Tb} {F G H : Hp} {m : Mm} {st : S} {n : Nat} {fz : Bool} {ks vs : List D} {v : V} (r : R T F G m st H) (q : st.get n = some (.dic fz ks vs)) (rx : Rp T G m (.ref n) v) : ∃ a ho kvs, v = .ref a ∧ m n = some a ∧ H a = some ho ∧ DicV T a kvs ho ∧ Rps T G m ks (kvs.map fun p => V.ref p.2.1) ∧ ks.map keyT = kvs.map (fun p => some p.1) ∧ Rps T G m vs (kvs.map fun p => p.2.2) ∧ (fz = true → G a = some ho) ∧ (fz = false → G a = none) := by
  cases rx with
  | ref e =>
    obtain ⟨a, e1, ⟨ho, kvs, h1⟩, _⟩ := r.cell n _ q
    rw [e] at e1
    cases e1
    exact ⟨_, ho, kvs, rfl, e, h1⟩
/-- a list in a cell is written -/
theorem put_lst {T : Tb} {F G H : Hp} {m : Mm} {st : S} {n : Nat} {ds es : List D} {a : Addr} {ws : List V} {Q : VK} (r : R T F G m st H) (q : st.get n = some (.lst false ds)) (hm : m n = some a) (hG : G a = none) (rw' : Rps T G m es ws)
    (h : TRg T W (Rp T) σ₀ F G m (.ok .non (st.put n (.lst false es))) Q) : Q .non (upd H a (.lst ws)) :=
  h G m (upd H a (.lst ws)) .non (Ext.refl G m) (r.put q hm hG ⟨ws, upd_same, rw', fun z => Bool.noConfusion z, fun _ => hG⟩) .non
theorem mt_all (hu : X.A.units + 80 < cLine) (mt : Mt) : MtR X (idM mt) (rM (tb X fa ca) W σ₀ (evMt mt)) := by
  intro pins s σ H x xs v us Q I rx rxs h
  obtain ⟨F, G, m, st, d, ds, r, rd, rds, h⟩ := h
  cases mt with
  | append =>
    cases rd with
    | @ref n a e =>
      match ds, rds, h with
      | [], _, h => exact (show False from h).elim
      | _ :: _ :: _, _, h => exact (show False from h).elim
      | [y], rds, h =>
        obtain ⟨yv, rfl, ry⟩ := one_of rds
        have h' : TRg (tb X fa ca) W (Rp (tb X fa ca)) σ₀ F G m (match st.get n with
          | some (.lst false ds) => if ds.length < sizeLine then .ok .non (st.put n (.lst false (ds ++ [y]))) else .stuck
          | _ => .stuck) Q := h
        clear h
        cases q : st.get n with
        | none => rw [q] at h'; exact h'.elim
        | some c =>
          rw [q] at h'
          cases c with
          | dic _ _ _ => exact h'.elim
          | lst fz ds =>
            cases fz with
            | true => exact h'.elim
            | false =>
              obtain ⟨hc, h⟩ := TRg.ite h'
              obtain ⟨a', vs, e1, hm, h1, h2, _, h4⟩ := cell_lst r q (.ref e)
              cases e1
              exact mt_append pins s σ H _ _ v us Q I rx rxs ⟨a, vs, yv, rfl, rfl, h1, by rw [← h2.length]; exact hc, put_lst r q hm (h4 rfl) (h2.append (.cons ry .nil)) h⟩
    | _ => exact (show False from h).elim
  | extend =>
    cases rd with
    | @ref n a e =>
      match ds, rds, h with
      | [], _, h => exact (show False from h).elim
      | _ :: _ :: _, _, h => exact (show False from h).elim
      | [y], rds, h =>
        obtain ⟨yv, rfl, ry⟩ := one_of rds
        have h' : TRg (tb X fa ca) W (Rp (tb X fa ca)) σ₀ F G m (match st.get n, st.items y with
          | some (.lst false ds), some es => if fits (ds ++ es) && notRef n y then .ok .non (st.put n (.lst false (ds ++ es))) else .stuck
          | _, _ => .stuck) Q := h
        clear h
        cases q : st.get n with
        | none => rw [q] at h'; exact h'.elim
        | some c =>
          rw [q] at h'
          cases c with
          | dic _ _ _ => exact h'.elim
          | lst fz ds =>
            cases fz with
            | true => exact h'.elim
            | false =>
              cases q2 : st.items y with
              | none => rw [q2] at h'; exact h'.elim
              | some es =>
                rw [q2] at h'
                obtain ⟨hc, h⟩ := TRg.ite h'
                obtain ⟨a', vs, e1, hm, h1, h2, _, h4⟩ := cell_lst r q (.ref e)
                cases e1
                obtain ⟨b, ws, rfl, hb, rb⟩ := r.items q2 ry
                have hl := fits_len (Bool.and_eq_true_iff.mp hc).1
                rw [List.length_append, h2.length, rb.length] at hl
                exact mt_extend pins s σ H _ _ v us Q I rx rxs ⟨a, b, vs, ws, rfl, rfl, h1, hb, hl, put_lst r q hm (h4 rfl) (h2.append rb) h⟩
    | _ => exact (show False from h).elim
  | index =>
    match ds, rds, h with
    | [], _, h => cases d <;> exact (show False from h).elim
    | _ :: _ :: _, _, h => cases d <;> exact (show False from h).elim
    | [y], rds, h =>
      obtain ⟨yv, rfl, ry⟩ := one_of rds
      have h' : TRg (tb X fa ca) W (Rp (tb X fa ca)) σ₀ F G m (match st.items d with
        | some ds => match st.py y, st.pys ds with
          | some p, some ps => if SeqAt.shaped p && SeqAt.shaped (.list ps) then (match firstIx p 0 ps with
            | some i => .ok (.int i) st
            | none => .stuck) else .stuck
          | _, _ => .stuck
        | none => .stuck) Q := by cases d <;> exact h
      clear h
      cases q : st.items d with
      | none => rw [q] at h'; exact h'.elim
      | some ds =>
        rw [q] at h'
        cases q1 : st.py y with
        | none => simp only [q1] at h'; exact h'.elim
        | some p =>
          cases q2 : st.pys ds with
          | none => simp only [q1, q2] at h'; exact h'.elim
          | some ps =>
            simp only [q1, q2] at h'
            obtain ⟨hc, h⟩ := TRg.ite h'
            cases q3 : firstIx p 0 ps with
            | none => simp only [q3] at h; exact h.elim
            | some i =>
              simp only [q3] at h
              obtain ⟨a, vs, rfl, ha, ra⟩ := r.items q rd
              have hc := Bool.and_eq_true_iff.mp hc
              obtain ⟨j, z, e1, e2, e3, e4⟩ := firstIx_of q3
              have e1 : i = j := by omega
              subst e1
              exact mt_indexD (by omega) pins s σ H _ _ v us Q I rx rxs ⟨a, yv, p, ps, i, z, rfl, rfl, .lst (SqL.of ha) (r.pys q2 ra), r.py q1 ry, hc.2, hc.1, e2, e3, e4, TRg.ok h r (.int _)⟩
  | get => cases d <;> exact (show False from h).elim
end
end Mi
set_option Elab.async false
set_option linter.all false
set_option maxRecDepth 100000
set_option maxHeartbeats 400000
/-! Mi9: subscripts, stores, slices, freezing, isinstance, the empty dict. -/
namespace Mi
open PySem PySem.Spec PyProof.Rows L2
section
variable {X : Cx} {fa ca : Nat → Addr} {W : WX} {σ₀ : L2.St}
theorem atI_rps {T : Tb} {G : Hp} {m : Mm} {ds : List D} {vs : List V} {i : Int} {d : D} (r : Rps T G m ds vs) (h : L2.atI ds i = some d) : ∃ v, L2.atI vs i = some v ∧ Rp T G m d v := by
  unfold L2.atI at h ⊢
  rw [r.length] at h
  cases e : L2.ixN vs.length i with
  | none => rw [e] at h; cases h
  | some j =>
    rw [e] at h
    exact r.get (show ds[j]? = some d from h)
theorem atI_map {ns : List Int} {i n : Int} (h : L2.atI ns i = some n) : L2.atI (ns.map V.int) i = some (.int n) := by
  unfold L2.atI at h ⊢
  rw [List.length_map]
  cases e : L2.ixN ns.length i with
  | none => rw [e] at h; cases h
  | some j =>
    rw [e] at h
    have h' : ns[j]? = some n := h
    show (ns.map V.int)[j]? = _
    rw [List.getElem?_map, h']
    rfl
theorem ix_all (hu : X.A.units + 80 < cLine) : IxR X (rO (tb X fa ca) W σ₀ evIx) := by
  intro value slice pins s σ H x y v u Q I rx ry h hs
  obtain ⟨F, G, m, st, d, e, r, rd, re, h⟩ := h
  have lists : ∀ (a : Addr) (vs : List V) (ds : List D), x = .ref a → H a = some (.lst vs) → Rps (tb X fa ca) G m ds vs → (∃ i, e = .int i ∧ TRg (tb X fa ca) W (Rp (tb X fa ca)) σ₀ F G m (match L2.atI ds i with
      | some d => .ok d st
      | none => .stuck) Q) → wpAny (model X.prog X.w) X.A (subscriptTail value slice v u) (EP X pins σ Q) X.xe s := by
    intro a vs ds ex hH hr ⟨i, ei, h2⟩
    subst ex ei
    cases re
    cases q : L2.atI ds i with
    | none => rw [q] at h2; exact h2.elim
    | some z =>
      rw [q] at h2
      obtain ⟨w, e1, e2⟩ := atI_rps hr q
      exact ix_list value slice pins s σ H _ _ v u Q I rx ry ⟨a, vs, i, w, rfl, rfl, SqL.of hH, e1, TRg.ok h2 r e2⟩ hs
  have dicts : ∀ (a : Addr) (ho : HO) (kvs : List (NestedKey × Addr × V)) (ks vs : List D), x = .ref a → H a = some ho → DicV (tb X fa ca) a kvs ho → Rps (tb X fa ca) G m ks (kvs.map fun p => V.ref p.2.1) → ks.map Mi.keyT = kvs.map (fun p => some p.1) → Rps (tb X fa ca) G m vs (kvs.map fun p => p.2.2) →
      TRg (tb X fa ca) W (Rp (tb X fa ca)) σ₀ F G m (match Mi.keyT e with
        | some q => match dget q ks vs with
          | some d => .ok d st
          | none => .stuck
        | none => .stuck) Q → wpAny (model X.prog X.w) X.A (subscriptTail value slice v u) (EP X pins σ Q) X.xe s := by
    intro a ho kvs ks vs ex hH hd hk he hv h
    subst ex
    cases q : Mi.keyT e with
    | none => rw [q] at h; exact h.elim
    | some k =>
      rw [q] at h
      cases q2 : dget k ks vs with
      | none => simp only [q2] at h; exact h.elim
      | some z =>
        simp only [q2] at h
        obtain ⟨xa, rfl, isk⟩ := Rp.keyT I r re q
        obtain ⟨xs, h1, h2, h3, _⟩ := DicV.dictOf I r hH hd hk he
        obtain ⟨b, u', v', e1, e2, e3⟩ := (dget_at (T := tb X fa ca) (G := G) (m := m) k he hv h2).1 z q2
        cases rx
        cases ry
        exact tail_any h1.typeIs PySem.F.slot_dict_getitem.lookup (wpAny_getItem_heap (show X.A.in1.units + 8 < cLine from by show X.A.units + 1 + 8 < cLine; omega) isk h1 e1 ⟨v', H, I.tok _, e2, TRg.ok h r e3⟩) hs
  cases rd with
  | @tup a vs ds h1 h2 =>
    cases re with
    | int i =>
      have h : TRg (tb X fa ca) W (Rp (tb X fa ca)) σ₀ F G m (match L2.atI ds i with
        | some d => .ok d st
        | none => .stuck) Q := h
      cases q : L2.atI ds i with
      | none => rw [q] at h; exact h.elim
      | some z =>
        rw [q] at h
        obtain ⟨w, e1, e2⟩ := atI_rps h2 q
        exact ix_tup value slice pins s σ H _ _ v u Q I rx ry ⟨a, vs, i, w, rfl, rfl, SqT.sub r.gH h1, e1, TRg.ok h r e2⟩ hs
    | _ => exact (show False from h).elim
  | @lst a vs ds h1 h2 =>
    cases re with
    | int i => exact lists a vs ds rfl (r.gH _ _ h1) h2 ⟨i, rfl, h⟩
    | _ => exact (show False from h).elim
  | @inp a ns h1 =>
    cases re with
    | int i =>
      have h : TRg (tb X fa ca) W (Rp (tb X fa ca)) σ₀ F G m (match L2.atI ns i with
        | some n => .ok (.int n) st
        | none => .stuck) Q := h
      cases q : L2.atI ns i with
      | none => rw [q] at h; exact h.elim
      | some z =>
        rw [q] at h
        exact ix_list value slice pins s σ H _ _ v u Q I rx ry ⟨a, _, i, .int z, rfl, rfl, SqL.sub r.gH h1, atI_map q, TRg.ok h r (.int _)⟩ hs
    | _ => exact (show False from h).elim
  | @dic a ho kvs ks vs h1 h2 h3 h4 h5 =>
    exact dicts a ho kvs ks vs rfl (r.gH _ _ h1) h2 h3 h4 h5 (by cases e <;> exact h)
  | @ref n a em =>
    cases q : st.get n with
    | none =>
      have h : TRg (tb X fa ca) W (Rp (tb X fa ca)) σ₀ F G m (match st.get n, e with
        | some (.lst _ ds), .int i => match L2.atI ds i with
          | some d => .ok d st
          | none => .stuck
        | some (.dic _ ks vs), k => match Mi.keyT k with
          | some q => match dget q ks vs with
            | some d => .ok d st
            | none => .stuck
          | none => .stuck
        | _, _ => .stuck) Q := h
      rw [q] at h
      exact h.elim
    | some c =>
      have h : TRg (tb X fa ca) W (Rp (tb X fa ca)) σ₀ F G m (match st.get n, e with
        | some (.lst _ ds), .int i => match L2.atI ds i with
          | some d => .ok d st
          | none => .stuck
        | some (.dic _ ks vs), k => match Mi.keyT k with
          | some q => match dget q ks vs with
            | some d => .ok d st
            | none => .stuck
          | none => .stuck
        | _, _ => .stuck) Q := h
      rw [q] at h
      cases c with
      | lst fz ds =>
        obtain ⟨a', vs, e1, _, h1, h2, _⟩ := cell_lst r q (.ref em)
        cases e1
        cases re with
        | int i => exact lists a vs ds rfl h1 h2 ⟨i, rfl, h⟩
        | _ => exact (show False from h).elim
      | dic fz ks vs =>
        obtain ⟨a', ho, kvs, e1, _, h1, h2, h3, h4, h5, _⟩ := cell_dic r q (.ref em)
        cases e1
        exact dicts a ho kvs ks vs rfl h1 h2 h3 h4 h5 h
  | _ => exact (show False from h).elim

/-! ### slices -/
def rS (T : Tb) (W : WX) (σ₀ : L2.St) : V → Option Int → Option Int → Hp → VK → Prop := fun x lo hi H Q =>
  ∃ F G m s d, R T F G m s H ∧ Rp T G m d x ∧ TRg T W (Rp T) σ₀ F G m (evSl d lo hi s) Q
theorem cut_rps {T : Tb} {G : Hp} {m : Mm} {ds : List D} {vs : List V} (r : Rps T G m ds vs) (lo hi : Option Int) : Rps T G m (cutD ds lo hi) (cutV vs lo hi) := by
  unfold cutD cutV
  rw [r.length]
  exact (r.drop _).take _
theorem Rps.ints {T : Tb} {G : Hp} {m : Mm} : ∀ ns : List Int, Rps T G m (ns.map D.int) (ns.map V.int)
  | [] => .nil
  | n :: ns => .cons (.int n) (Rps.ints ns)
theorem sl_all : SlR X (rS (tb X fa ca) W σ₀) := by
  intro pins s σ H x v vl vu lo hi sl Q I rx hs pl pu h
  obtain ⟨F, G, m, st, d, r, rd, h⟩ := h
  have lists : (TRg (tb X fa ca) W (Rp (tb X fa ca)) σ₀ F G m (match st.items d with
      | some ds => .ok (.lst (cutD ds lo hi)) st
      | none => .stuck) Q) → ∃ T id, typeLookup (.type T) "__getitem__" = pure (some (.builtin id)) ∧ s.TypeIs v T ∧ wpAny (model X.prog X.w) X.A (getItem v (.ref sl)) (EP X pins σ Q) X.xe s := by
    intro h
    cases q : st.items d with
    | none => rw [q] at h; exact h.elim
    | some es =>
      rw [q] at h
      obtain ⟨a, vs, rfl, ha, ra⟩ := r.items q rd
      exact sl_list pins s σ H _ v vl vu lo hi sl Q I rx hs pl pu ⟨a, vs, rfl, SqL.of ha, h.new r fun p hp => .lst upd_same ((cut_rps ra lo hi).mono (Ext.upd (none_of_sub r.gH hp)))⟩
  cases rd with
  | @tup a vs ds h1 h2 =>
    have h : TRg (tb X fa ca) W (Rp (tb X fa ca)) σ₀ F G m (.ok (.tup (cutD ds lo hi)) st) Q := h
    refine sl_tupA pins s σ H _ v vl vu lo hi sl Q I rx hs pl pu ⟨a, vs, rfl, SqT.sub r.gH h1, fun z => ?_, fun _ => h.new r fun p hp => .tup (SqT.of upd_same) ((cut_rps h2 lo hi).mono (Ext.upd (none_of_sub r.gH hp)))⟩
    have e : cutD ds lo hi = ds := by
      unfold cutD
      rw [h2.length, z.1, z.2, ← h2.length]
      simp
    rw [e] at h
    exact TRg.ok h r (.tup h1 h2)
  | @inp a ns h1 =>
    have h : TRg (tb X fa ca) W (Rp (tb X fa ca)) σ₀ F G m (.ok (.lst (cutD (ns.map .int) lo hi)) st) Q := h
    exact sl_list pins s σ H _ v vl vu lo hi sl Q I rx hs pl pu ⟨a, _, rfl, SqL.sub r.gH h1, h.new r fun p hp => .lst upd_same ((cut_rps (Rps.ints ns) lo hi).mono (Ext.upd (none_of_sub r.gH hp)))⟩
  | lst _ _ => exact lists h
  | ref _ => exact lists h
  | _ => exact lists h
theorem rev_ok {F G H : Hp} {m : Mm} {st : S} {d : D} {x : V} {Q : VK} (r : R (tb X fa ca) F G m st H) (rd : Rp (tb X fa ca) G m d x) (h : TRg (tb X fa ca) W (Rp (tb X fa ca)) σ₀ F G m (evRev d st) Q) :
    ∃ a xs, x = .ref a ∧ SqL X.K H a xs ∧ ∀ p, H p = none → Q (.ref p) (upd H p (.lst xs.reverse)) := by
  unfold evRev at h
  cases q : st.items d with
  | none => rw [q] at h; exact h.elim
  | some es =>
    rw [q] at h
    obtain ⟨a, vs, rfl, ha, ra⟩ := r.items q rd
    exact ⟨a, vs, rfl, SqL.of ha, h.new r fun p hp => .lst upd_same (ra.reverse.mono (Ext.upd (none_of_sub r.gH hp)))⟩

/-! ### freezing -/
theorem frz_ok {T : Tb} {F G H : Hp} {m : Mm} {st : S} {d : D} {x : V} (r : R T F G m st H) (rd : Rp T G m d x) : match evFrz d st with
    | .ok d1 s1 => ∃ G1, Ext G m G1 m ∧ R T F G1 m s1 H ∧ Rp T G1 m d1 x
    | .exc _ _ => False
    | .stuck => True := by
  have same : ∃ G1, Ext G m G1 m ∧ R T F G1 m st H ∧ Rp T G1 m d x := ⟨G, Ext.refl G m, r, rd⟩
  cases rd with
  | @ref n a em =>
    cases q : st.get n with
    | none => simp only [evFrz, q]
    | some c =>
      cases c with
      | lst fz ds =>
        obtain ⟨a', vs, e1, hm, h1, h2, h3, h4⟩ := cell_lst r q (.ref em)
        cases e1
        simp only [evFrz, q]
        cases fz with
        | false =>
          have x1 : Ext G m (upd G a (.lst vs)) m := Ext.upd (h4 rfl)
          exact ⟨_, x1, r.frz q hm (h4 rfl) h1 ⟨vs, h1, h2.mono x1, fun _ => upd_same, fun z => Bool.noConfusion z⟩, .lst upd_same (h2.mono x1)⟩
        | true =>
          have e : st.put n (.lst true ds) = st.put n (.lst true ds) := rfl
          refine ⟨G, Ext.refl G m, ?_, .lst (h3 rfl) h2⟩
          refine ⟨r.gH, r.fH, r.fG, fun k c e => ?_, fun i j b hij hi hj => ?_, fun k hk => ?_, r.fresh⟩
          · rw [S.get_put q] at e
            by_cases hk : k = n
            · rw [if_pos hk] at e
              cases e
              rw [hk]
              exact r.cell n _ q
            · rw [if_neg hk] at e
              exact r.cell k c e
          · have g : ∀ i, (S.get (st.put n (.lst true ds)) i).isSome = true → (st.get i).isSome = true := fun i hi => by
              rw [S.get_put q] at hi
              by_cases hk : i = n
              · rw [hk, q]; rfl
              · rw [if_neg hk] at hi; exact hi
            exact r.inj i j b hij (g i hi) (g j hj)
          · rw [S.get_put q] at hk
            by_cases z : k = n
            · exact r.lt k (by rw [z, q]; rfl)
            · rw [if_neg z] at hk
              exact r.lt k hk
      | dic fz ks vs =>
        obtain ⟨a', ho, kvs, e1, hm, h1, h2, h3, h4, h5, h6, h7⟩ := cell_dic r q (.ref em)
        cases e1
        simp only [evFrz, q]
        cases fz with
        | false =>
          have x1 : Ext G m (upd G a ho) m := Ext.upd (h7 rfl)
          exact ⟨_, x1, r.frz q hm (h7 rfl) h1 ⟨ho, kvs, h1, h2, h3.mono x1, h4, h5.mono x1, fun _ => upd_same, fun z => Bool.noConfusion z⟩, .dic upd_same h2 (h3.mono x1) h4 (h5.mono x1)⟩
        | true =>
          refine ⟨G, Ext.refl G m, ?_, .dic (h6 rfl) h2 h3 h4 h5⟩
          refine ⟨r.gH, r.fH, r.fG, fun k c e => ?_, fun i j b hij hi hj => ?_, fun k hk => ?_, r.fresh⟩
          · rw [S.get_put q] at e
            by_cases hk : k = n
            · rw [if_pos hk] at e
              cases e
              rw [hk]
              exact r.cell n _ q
            · rw [if_neg hk] at e
              exact r.cell k c e
          · have g : ∀ i, (S.get (st.put n (.dic true ks vs)) i).isSome = true → (st.get i).isSome = true := fun i hi => by
              rw [S.get_put q] at hi
              by_cases hk : i = n
              · rw [hk, q]; rfl
              · rw [if_neg hk] at hi; exact hi
            exact r.inj i j b hij (g i hi) (g j hj)
          · rw [S.get_put q] at hk
            by_cases z : k = n
            · exact r.lt k (by rw [z, q]; rfl)
            · rw [if_neg z] at hk
              exact r.lt k hk
  | _ => exact same

/-! ### isinstance -/
theorem ty_kit {pins : List (Addr × Obj)} {s : Shared} {σ : L2.St} {F G H : Hp} {m : Mm} {st : S} {d : D} {x : V} {u : Value} {t : Ty} (I : Inv X pins σ H s) (r : R (tb X fa ca) F G m st H) (rd : Rp (tb X fa ca) G m d x) (rx : RelV x u) (ht : st.tyOf d = some t) :
    ∃ P : Heap → Prop, PySem.W.KitX X.K u (.type t.nm) P ∧ P s.heap ∧ u ≠ .builtin "__main__.__loader__#opaque" := by
  have lists : ∀ (a : Addr) (vs : List V), x = .ref a → H a = some (.lst vs) → t = .lst → ∃ P : Heap → Prop, PySem.W.KitX X.K u (.type t.nm) P ∧ P s.heap ∧ u ≠ .builtin "__main__.__loader__#opaque" := by
    intro a vs ex h et
    subst ex et
    exact kit_of I rx (.base (.lst h))
  have dicts : ∀ (a : Addr) (ho : HO) (kvs : List (NestedKey × Addr × V)), x = .ref a → H a = some ho → DicV (tb X fa ca) a kvs ho → t = .dic → ∃ P : Heap → Prop, PySem.W.KitX X.K u (.type t.nm) P ∧ P s.heap ∧ u ≠ .builtin "__main__.__loader__#opaque" := by
    intro a ho kvs ex h hd et
    subst ex et
    cases rx
    obtain ⟨ob, es, ep, xs, rfl, h1, _⟩ := hd
    obtain ⟨hg, _, _⟩ := I.hok a _ h
    exact ⟨_, PySem.W.kitx_dict, ⟨ob, hg, h1.1⟩, fun z => nomatch z⟩
  cases rd with
  | non => cases ht; exact kit_of I rx (.base .non)
  | bl b => cases ht; exact kit_of I rx (.base (.bl b))
  | int i => cases ht; exact kit_of I rx (.base (.int i))
  | str z => cases ht; exact kit_of I rx (.base (.str z))
  | @tup a vs ds h1 h2 =>
    cases ht
    cases rx
    obtain ⟨its, rv, ⟨o, e1, e2, _⟩, _⟩ := I.tuple (SqT.sub r.gH h1)
    exact ⟨_, PySem.W.kitx_tuple, ⟨o, e1, e2⟩, fun z => nomatch z⟩
  | @lst a vs ds h1 h2 => cases ht; exact lists a vs rfl (r.gH _ _ h1) rfl
  | @dic a ho kvs ks vs h1 h2 _ _ _ => cases ht; exact dicts a ho kvs rfl (r.gH _ _ h1) h2 rfl
  | @ref n a em =>
    simp only [S.tyOf] at ht
    cases q : st.get n with
    | none => rw [q] at ht; cases ht
    | some c =>
      rw [q] at ht
      cases c with
      | lst fz ds =>
        obtain ⟨a', vs, e1, _, h1, _⟩ := cell_lst r q (.ref em)
        cases e1
        cases ht
        exact lists a vs rfl h1 rfl
      | dic fz ks vs =>
        obtain ⟨a', ho, kvs, e1, _, h1, h2, _⟩ := cell_dic r q (.ref em)
        cases e1
        cases ht
        exact dicts a ho kvs rfl h1 h2 rfl
  | _ => cases ht
theorem kit_isa {K : PySem.W.Frag} (a b : Ty) : PySem.W.kitOne K (.type a.nm) (.type b.nm) = some (a.isa b) := by
  refine kit_ty ?_
  cases a <;> cases b <;> decide +kernel
theorem kit_isas {K : PySem.W.Frag} (a : Ty) : ∀ ts : List Ty, PySem.W.kitAny K (.type a.nm) (ts.map fun t => .type t.nm) = some (ts.any fun u => a.isa u)
  | [] => rfl
  | t :: ts => by
    rw [List.map_cons, List.any_cons]
    refine kitAny_cons (kit_isa a t) (fun h => ?_) (fun h => by rw [h, Bool.true_or])
    rw [h, Bool.false_or]
    exact kit_isas a ts
end
end Mi
set_option Elab.async false
set_option linter.all false
set_option maxRecDepth 100000
set_option maxHeartbeats 400000
/-! Mi10: a[b] = v; new cells. -/
namespace Mi
open PySem PySem.Spec PyProof.Rows L2
abbrev KVs := List (NestedKey × Addr × V)
def putA (k : NestedKey) (v : V) (p : NestedKey × Addr × V) : NestedKey × Addr × V := if p.1 = k then (p.1, p.2.1, v) else p
theorem putA_key (k : NestedKey) (v : V) (p : NestedKey × Addr × V) : (putA k v p).1 = p.1 ∧ (putA k v p).2.1 = p.2.1 := by
  unfold putA
  split <;> exact ⟨rfl, rfl⟩
theorem putA_out {k : NestedKey} {v : V} : ∀ {kvs : KVs}, k ∉ kvs.map (·.1) → kvs.map (putA k v) = kvs
  | [], _ => rfl
  | p :: kvs, h => by
    simp only [List.map_cons, List.mem_cons, not_or] at h
    rw [List.map_cons, putA_out h.2]
    unfold putA
    rw [if_neg (fun e => h.1 e.symm)]
theorem putA_map {κ : Type} {k : NestedKey} {v : V} (f : NestedKey × Addr × V → κ) (hf : ∀ p, f (putA k v p) = f p) (kvs : KVs) : (kvs.map (putA k v)).map f = kvs.map f := by
  rw [List.map_map]
  exact List.map_congr_left fun p _ => hf p
abbrev PairR : NestedKey × Addr × V → NestedKey × Addr × Value → Prop := fun p q => p.1 = q.1 ∧ p.2.1 = q.2.1 ∧ RelV p.2.2 q.2.2
theorem putA_paired {k : NestedKey} {v : V} {u : Value} (r : RelV v u) : ∀ {kvs : KVs} {xs : List (NestedKey × Addr × Value)}, Paired PairR kvs xs → Paired PairR (kvs.map (putA k v)) (xs.map (putAt k u))
  | _, _, .nil => .nil
  | _, _, .cons (a := p) (b := q) z t => by
    refine .cons ?_ (putA_paired r t)
    unfold putA putAt
    by_cases h : p.1 = k
    · have h' : q.1 = k := z.1 ▸ h
      rw [if_pos h, if_pos h']
      exact ⟨z.1, z.2.1, r⟩
    · have h' : ¬ q.1 = k := fun e => h (z.1.trans e)
      rw [if_neg h, if_neg h']
      exact z
theorem paired_snoc {α β : Type} {P : α → β → Prop} {a : α} {b : β} (h : P a b) : ∀ {l1 : List α} {l2 : List β}, Paired P l1 l2 → Paired P (l1 ++ [a]) (l2 ++ [b])
  | _, _, .nil => .cons h .nil
  | _, _, .cons z t => .cons z (paired_snoc h t)
theorem paired_keys : ∀ {kvs : KVs} {xs : List (NestedKey × Addr × Value)}, Paired PairR kvs xs → kvs.map (·.1) = xs.map (·.1)
  | _, _, .nil => rfl
  | _, _, .cons z t => by rw [List.map_cons, List.map_cons, z.1, paired_keys t]
theorem dputV_rps {T : Tb} {G : Hp} {m : Mm} {k : NestedKey} {w : D} {v : V} (rw' : Rp T G m w v) : ∀ {ks vs : List D} {kvs : KVs}, ks.map keyT = kvs.map (fun p => some p.1) → Rps T G m vs (kvs.map fun p => p.2.2) → (kvs.map (·.1)).Nodup → Rps T G m (dputV k w ks vs) ((kvs.map (putA k v)).map fun p => p.2.2)
  | [], [], [], _, _, _ => .nil
  | [], _ :: _, [], _, r, _ => by cases r
  | [], _, _ :: _, e, _, _ => by simp at e
  | _ :: _, _, [], e, _, _ => by simp at e
  | _ :: _, [], _ :: _, _, r, _ => by cases r
  | a :: ks, b :: vs, p :: kvs, e, r, nd => by
    simp only [List.map_cons, List.cons.injEq] at e
    simp only [List.map_cons, List.nodup_cons] at nd
    cases r with
    | cons r1 r2 =>
      unfold dputV
      simp only [List.map_cons]
      by_cases h : keyT a = some k
      · rw [if_pos h]
        have hk : p.1 = k := Option.some.inj (e.1.symm.trans h)
        refine .cons ?_ ?_
        · unfold putA
          rw [if_pos hk]
          exact rw'
        · rw [putA_out (by rw [← hk]; exact nd.1)]
          exact r2
      · rw [if_neg h]
        have hk : ¬ p.1 = k := fun z => h (e.1.trans (by rw [z]))
        refine .cons ?_ (dputV_rps rw' e.2 r2 nd.2)
        unfold putA
        rw [if_neg hk]
        exact r1
section
variable {X : Cx} {fa ca : Nat → Addr} {W : WX} {σ₀ : L2.St}
def rSet (T : Tb) : V → V → V → Hp → (Hp → Prop) → Prop := fun o i v H Q =>
  ∃ F G m s a b d s', R T F G m s H ∧ Rp T G m a o ∧ Rp T G m b i ∧ Rp T G m d v ∧ setIx a b d s = some s' ∧ ∀ G' m' H', Ext G m G' m' → R T F G' m' s' H' → Q H'
theorem set_all (hu : X.A.units + 80 < cLine) : PSet X (rSet (tb X fa ca)) := by
  intro pins s σ H o i v ov iv u Q I ro ri rv h
  obtain ⟨F, G, m, st, a, b, d, s', r, ra, rb, rd, hs, h⟩ := h
  cases ra with
  | @ref n p em =>
    cases ro
    simp only [setIx] at hs
    cases q : st.get n with
    | none => rw [q] at hs; cases hs
    | some c =>
      rw [q] at hs
      cases c with
      | lst fz ds =>
        cases fz with
        | true => cases hs
        | false =>
          cases rb with
          | int k =>
            simp only [Option.map_eq_some_iff] at hs
            obtain ⟨j, hj, rfl⟩ := hs
            obtain ⟨a', vs, e1, hm, h1, h2, _, h4⟩ := cell_lst r q (.ref em)
            cases e1
            refine set_list pins s σ H (V.ref p) _ v _ iv u Q I rfl ri rv ⟨p, vs, k, j, rfl, rfl, h1, by rw [← h2.length]; exact hj, ?_⟩
            exact h G m _ (Ext.refl G m) (r.put q hm (h4 rfl) ⟨_, upd_same, h2.set rd j, fun z => Bool.noConfusion z, fun _ => h4 rfl⟩)
          | _ => cases hs
      | dic fz ks vs =>
        cases fz with
        | true => cases hs
        | false =>
          simp only at hs
          cases q2 : Mi.keyT b with
          | none => rw [q2] at hs; cases hs
          | some k =>
            simp only [q2] at hs
            by_cases hl : ks.length < sizeLine
            · rw [if_pos hl] at hs
              cases hs
              obtain ⟨a', ho, kvs, e1, hm, h1, h2, h3, h4, h5, _, h7⟩ := cell_dic r q (.ref em)
              cases e1
              obtain ⟨ka, rfl, isk⟩ := Rp.keyT I r rb q2
              cases ri
              obtain ⟨xs, d1, d2, d3, d4⟩ := DicV.dictOf I r h1 h2 h3 h4
              have hlen : kvs.length = ks.length := by have := congrArg List.length h4; simp only [List.length_map] at this; exact this.symm
              have hlx : kvs.length = xs.length := Paired.length d2
              have mut_ : Mut (H p) := by
                obtain ⟨ob, es, ep, xs', rfl, _⟩ := h2
                rw [h1]
                exact True.intro
              obtain ⟨_, _, _, _, _, _, _, _, nd⟩ := id d1
              have ndk : (kvs.map (·.1)).Nodup := by rw [paired_keys d2]; exact nd
              refine wpAny_setItem_heap (show X.A.in1.units + 8 < cLine from by show X.A.units + 1 + 8 < cLine; omega) isk d1 (fun h' hd' sb => ?_) d4
              obtain ⟨ob, es, ep, g1, g2, g3, g4, g5, g6⟩ := hd'
              -- the new dict, in the abstract
              have fin : ∀ (kvs' : KVs), Paired PairR kvs' (storedH xs k ka u) → Rps (tb X fa ca) G m (dput k b d ks vs).1 (kvs'.map fun p => V.ref p.2.1) → (dput k b d ks vs).1.map keyT = kvs'.map (fun p => some p.1) → Rps (tb X fa ca) G m (dput k b d ks vs).2 (kvs'.map fun p => p.2.2) → (storedH xs k ka u).length ≤ sizeLine →
                  ∃ H', Inv X pins σ H' { s with heap := h', toks := s.toks + (nestedKind X.prog X.w).draws k } ∧ Q H' := by
                intro kvs' p1 p2 p3 p4 p5
                have I' := I.write (x := p) (e := p) (h' := h') (o := .ext fun h => h.get? p = some ob) (t' := s.toks + (nestedKind X.prog X.w).draws k) mut_ (.inl rfl) (fun b u hb hu => (sb.2 b hb).trans hu) ⟨_, g1⟩
                  ⟨g1, ⟨_, g1⟩, fun h1 h2 e st => st _ e⟩
                refine ⟨_, I', h G m _ (Ext.refl G m) (r.put q hm (h7 rfl) ⟨_, kvs', upd_same, ⟨ob, es, ep, storedH xs k ka u, rfl, g2, g3, g4, g6, d3, p5, p1⟩, p2, p3, p4, fun z => Bool.noConfusion z, fun _ => h7 rfl⟩)⟩
              obtain ⟨x1, x2⟩ := dget_at (T := tb X fa ca) (G := G) (m := m) k h4 h5 d2
              cases z : dget k ks vs with
              | none =>
                have z2 := storedH_new (x2 z) ka u
                have e : dput k b d ks vs = (ks ++ [b], vs ++ [d]) := by unfold dput; rw [z]
                refine fin (kvs ++ [(k, ka, v)]) (by rw [z2]; exact paired_snoc ⟨rfl, rfl, rv⟩ d2) ?_ ?_ ?_ (by rw [z2, List.length_append, List.length_singleton]; omega)
                · rw [e, List.map_append]
                  exact h3.append (.cons rb .nil)
                · rw [e, List.map_append, List.map_append, h4]
                  simp [q2]
                · rw [e, List.map_append]
                  exact h5.append (.cons rd .nil)
              | some w =>
                obtain ⟨b', u', v', y1, _⟩ := x1 w z
                have z2 := storedH_old y1 ka u
                have e : dput k b d ks vs = (ks, dputV k d ks vs) := by unfold dput; rw [z]
                refine fin (kvs.map (putA k v)) (by rw [z2]; exact putA_paired rv d2) ?_ ?_ ?_ (by rw [z2, List.length_map]; omega)
                · rw [e, putA_map _ (fun p => by rw [(putA_key k v p).2])]
                  exact h3
                · rw [e, putA_map _ (fun p => by rw [(putA_key k v p).1])]
                  exact h4
                · rw [e]
                  exact dputV_rps rd h4 h5 ndk
            · rw [if_neg hl] at hs
              cases hs
  | _ => cases hs
/-- a new list in a cell -/
theorem TRg.cell {F G H : Hp} {m : Mm} {st : S} {ds : List D} {vs : List V} {Q : VK} {T : Tb} (r : R T F G m st H) (rs : Rps T G m ds vs) (h : TRg T W (Rp T) σ₀ F G m (.ok (.ref st.nx) (st.add (.lst false ds))) Q) : ∀ p, H p = none → Q (.ref p) (upd H p (.lst vs)) := by
  intro p hp
  have x1 : Ext G m G (mAdd m st.nx p) := Ext.add (r.fresh _ (Nat.le_refl _))
  refine h G _ _ _ x1 (r.add hp ⟨vs, upd_same, rs.mono x1, fun z => Bool.noConfusion z, fun _ => none_of_sub r.gH hp⟩) (.ref ?_)
  show (if st.nx = st.nx then some p else m st.nx) = some p
  rw [if_pos rfl]
/-- {} -/
theorem pe_dic0 {pos : Pos} : PE X (.Dict [] [] pos) (tRd (tb X fa ca) W (Rp (tb X fa ca)) (fun _ s => .ok (.ref s.nx) (s.add (.dic false [] [])))) := by
  refine ⟨fun pins s σ H Q I ⟨F, G, m, st, τ, r, hs, h⟩ => wpAny_Dict_empty ?_⟩
  have hd := Heap.DictOfH.new (knd := nestedKind X.prog X.w) s.heap
  obtain ⟨ob, es, ep, g1, g2, g3, g4, g5, g6⟩ := hd
  have hp : H s.heap.objs.size = none := I.hok.fresh (Nat.le_refl _)
  have x1 : Ext G m G (mAdd m st.nx s.heap.objs.size) := Ext.add (r.fresh _ (Nat.le_refl _))
  have hbig : (s.heap.objs.size == sysModules) = false := by
    have q := I.big
    exact beq_eq_false_iff_ne.mpr (fun e => by rw [e] at q; exact Nat.lt_irrefl _ q)
  have I' := I.laid (a := s.heap.objs.size) (h' := s.heap.push { cls := .type "dict", data := .dict #[] }) (o := .ext fun h => h.get? s.heap.objs.size = some ob) (t' := s.toks) (fun b u e => Heap.get?_push_of_some _ e) (Nat.le_refl _)
    ⟨g1, ⟨_, g1⟩, fun h1 h2 e st => st _ e⟩
  refine ⟨.ref s.heap.objs.size, _, I', rfl, h G _ _ _ x1 (r.add hp ⟨_, [], upd_same, ⟨ob, es, ep, [], rfl, g2, g3, g4, List.nodup_nil, hbig, Nat.zero_le _, .nil⟩, .nil, rfl, .nil, fun z => Bool.noConfusion z, fun _ => none_of_sub r.gH hp⟩) (.ref ?_)⟩
  show (if st.nx = st.nx then some s.heap.objs.size else m st.nx) = some s.heap.objs.size
  rw [if_pos rfl]
end
end Mi
set_option Elab.async false
set_option linter.all false
set_option maxRecDepth 100000
set_option maxHeartbeats 400000
/-! Mi11: what loops walk: enumerate and zip over lists and tuples, the keys of a dict. -/
namespace Mi
open PySem PySem.Spec PyProof.Rows L2
def SqB (b : Bool) (K : PySem.W.Frag) (H : Hp) (a : Addr) (xs : List V) : Prop := if b = true then SqL K H a xs else SqT K H a xs
def IterB (b : Bool) (h : Heap) (it a : Addr) (i : Nat) : Prop := if b = true then h.IsListIter it a i else h.IsTupleIter it a i
def SeqB (b : Bool) (h : Heap) (a : Addr) (items : Array Value) : Prop := if b = true then h.IsList a items else h.IsTuple a items
def objB (b : Bool) (a : Addr) : Obj := if b = true then { cls := .type "list_iterator", data := .fields #[.ref a, .int 0 0] } else { cls := .type "tuple_iterator", data := .fields #[.ref a, .int 0 0] }
theorem IterB.is {b : Bool} {h : Heap} {it a : Addr} {i : Nat} (x : IterB b h it a i) : ∃ o, h.get? it = some o ∧ ∀ v, o.data ≠ .cell v := by
  cases b with
  | true => obtain ⟨o, e, _, d⟩ := (show h.IsListIter it a i from x); exact ⟨o, e, fun v z => by rw [d] at z; cases z⟩
  | false => obtain ⟨o, e, _, d⟩ := (show h.IsTupleIter it a i from x); exact ⟨o, e, fun v z => by rw [d] at z; cases z⟩
theorem IterB.at_ {b : Bool} {h h' : Heap} {it a : Addr} {i : Nat} (x : IterB b h it a i) (k : ∀ o, h.get? it = some o → h'.get? it = some o) : IterB b h' it a i := by
  cases b with
  | true => exact (show h.IsListIter it a i from x).at k
  | false => exact (show h.IsTupleIter it a i from x).at k
theorem drawsB {prog : Program} {w : World} {A : Around} (b : Bool) (hh : A.handled = none) (it a : Addr) (hne : a ≠ it) (items : Array Value) :
    Draws prog w A it [it, a] items.size (fun i v => items[i]? = some v) (fun i h => IterB b h it a i ∧ SeqB b h a items) := by
  cases b with
  | true => exact Draws.list hh it a hne items
  | false => exact Draws.tuple hh it a hne items
theorem beginsB (b : Bool) (a : Addr) (items : Array Value) : Begins (.ref a) (objB b a) fun h => SeqB b h a items := by
  cases b with
  | true => exact begins_list a items
  | false => exact begins_tuple a items
theorem objB_iter {b : Bool} {h : Heap} {it a : Addr} (e : h.get? it = some (objB b a)) : IterB b h it a 0 := by
  cases b with
  | true => exact (show h.IsListIter it a 0 from ⟨_, e, rfl, rfl⟩)
  | false => exact (show h.IsTupleIter it a 0 from ⟨_, e, rfl, rfl⟩)
section
variable {X : Cx} {pins : List (Addr × Obj)} {σ : L2.St} {H : Hp} {s : Shared}
theorem seqB_of {b : Bool} {a : Addr} {xs : List V} (I : Inv X pins σ H s) (h : SqB b X.K H a xs) : ∃ its, Vals xs its ∧ SeqB b s.heap a its.toArray ∧ xs.length ≤ sizeLine ∧ a < s.heap.objs.size := by
  cases b with
  | true =>
    obtain ⟨its, r, p, z⟩ := I.list (show SqL X.K H a xs from h)
    exact ⟨its, r, p.isList, z, p.lt⟩
  | false =>
    obtain ⟨its, r, p, z⟩ := I.tuple (show SqT X.K H a xs from h)
    obtain ⟨o, e, _⟩ := id p
    exact ⟨its, r, p, z, Heap.lt_size e⟩
theorem seqB_inj {b : Bool} {a : Addr} {xs ys : List V} (I : Inv X pins σ H s) (h : SqB b X.K H a xs) (h' : SqB b X.K H a ys) : xs = ys := by
  cases b with
  | true => exact I.list_inj h h'
  | false => exact I.tuple_inj h h'
end
/-! ### enumerate -/
def ItE (K : PySem.W.Frag) (b : Bool) (a : Addr) : It where
  go := fun i H => ∃ xs x, SqB b K H a xs ∧ xs[i]? = some x
  yld := fun i H v H' => ∃ T x, v = .ref T ∧ H T = none ∧ H' = upd H T (.tup [.int (i : Nat), x]) ∧ ∀ xs, SqB b K H a xs → xs[i]? = some x
  stop := fun i H => ∃ xs : List V, SqB b K H a xs ∧ xs.length = i
theorem turnE {P : Program} {w : World} {K : PySem.W.Frag} {elts : List Expr} {kk : Nat} {tpos : Pos} (b : Bool) (a e it : Addr) (hai : a ≠ it) (hae : a ≠ e) :
    Turn P w K (.Tuple elts kk tpos) (ItE K b a) [e, it] e (fun i h => (∃ old, IsEnum h e it ((i : Nat) : Int) old) ∧ IterB b h it a i ∧ e ≠ it) where
  mem := List.mem_cons_self
  obj := fun i h ⟨⟨old, he⟩, hit, _⟩ c hc => by
    rcases List.mem_cons.mp hc with z | hc
    · subst z
      exact ⟨_, he, fun v q => nomatch q⟩
    · rcases List.mem_singleton.mp hc with rfl
      exact hit.is
  keep := fun i h h' ⟨⟨old, he⟩, hit, ne⟩ k => ⟨⟨old, k e List.mem_cons_self _ he⟩, hit.at_ fun o q => k it (List.mem_cons_of_mem _ List.mem_cons_self) o q, ne⟩
  item := by
    intro X hP hw hK hc i pins s σ H E I hf st hg
    subst hP hw hK
    obtain ⟨⟨old, he⟩, hit, hne⟩ := st
    obtain ⟨xs, x, hq, hx⟩ := hg
    obtain ⟨its, rv, p, hz, ha⟩ := seqB_of I hq
    have D := drawsB (prog := X.prog) (w := X.w) (A := X.A.in1) b (I.ok.hd hc) it a hai its.toArray
    have hlen := rv.length
    have hi : i < its.toArray.size := by
      have := (List.getElem?_eq_some_iff.mp hx).1
      rw [List.size_toArray]
      omega
    have hel : e < s.heap.objs.size := Heap.lt_size he
    have hil : it < s.heap.objs.size := by obtain ⟨o, q, _⟩ := hit.is; exact Heap.lt_size q
    refine wpAny_pyNext_enum_itemD D he ⟨hit, p⟩ hi hne (fun z => by
      rcases List.mem_cons.mp z with z | z
      · exact hne z
      · exact hae (List.mem_singleton.mp z).symm) fun y h' tk hy ho hst' hT hsz hk => ?_
    obtain ⟨u, hu, ru⟩ := rv.get hx
    have hyu : y = u := by
      have q : its.toArray[i]? = some u := by simpa using hu
      rw [hy] at q
      exact Option.some.inj q
    subst hyu
    refine ⟨_, rfl, wpAny_letOwnedTupleGo_enum (s := { s with heap := h', toks := tk + 1 }) ho fun h'' he' sb => ?_⟩
    have hT2 : h''.get? s.heap.objs.size = some { cls := .type "tuple", data := .seq #[.int i tk, y] } := (sb.2 _ (Nat.ne_of_gt hel)).trans hT
    have new : ObjOk X.prog X.w (upd H s.heap.objs.size (.tup [.int (i : Nat), x])) h'' s.heap.objs.size (.tup [.int (i : Nat), x]) :=
      ⟨by show 2 ≤ sizeLine; decide, [.int i tk, y], .cons ⟨_, rfl⟩ (.cons ru .nil), ⟨_, hT2, rfl, _, rfl⟩⟩
    have out : ∀ c, c ∉ [e, it] → c ≠ e ∧ c ≠ it := fun c hc => ⟨fun z => hc (by simp [z]), fun z => hc (by simp [z])⟩
    have I1 : Inv X pins σ (upd H s.heap.objs.size (.tup [.int (i : Nat), x])) { s with heap := h'', toks := tk + 1 } :=
      I.turnedNew (ch := [e, it]) (fun c ob hc q => (sb.2 c (out c hc).1).trans (hk c ob (out c hc).1 (out c hc).2 q)) hf (Nat.le_refl _) new
    refine ⟨.ref s.heap.objs.size, _, I1, rfl, ⟨_, x, rfl, I.hok.fresh (Nat.le_refl _), rfl, fun ys hy => by rw [seqB_inj I hy hq]; exact hx⟩, ⟨⟨y, ?_⟩, hst'.1.at_ fun o q => (sb.2 it (Ne.symm hne)).trans q, hne⟩, fun c hc => ?_⟩
    · have e1 : ((i + 1 : Nat) : Int) = (i : Int) + 1 := by omega
      rw [e1]
      exact he'
    · have hc' : c < s.heap.objs.size := by
        rcases List.mem_cons.mp hc with z | z
        · rw [z]; exact hel
        · rw [List.mem_singleton.mp z]; exact hil
      rw [upd_ne (Nat.ne_of_lt hc')]
      exact (hf c hc).1
  done := by
    intro X hP hw hK hc i pins s σ H E I hf st hg
    subst hP hw hK
    obtain ⟨⟨old, he⟩, hit, hne⟩ := st
    obtain ⟨xs, hq, hx⟩ := hg
    obtain ⟨its, rv, p, hz, ha⟩ := seqB_of I hq
    have D := drawsB (prog := X.prog) (w := X.w) (A := X.A.in1) b (I.ok.hd hc) it a hai its.toArray
    have hn : its.toArray.size = i := by rw [List.size_toArray, ← rv.length, hx]
    refine wpAny_pyNext_enum_endD D he (by rw [hn]; exact ⟨hit, p⟩) fun h' eb => ⟨rfl, ?_⟩
    obtain ⟨f0, f1, f2, f3, f4, f5⟩ := hf it (List.mem_cons_of_mem _ List.mem_cons_self)
    exact I.turned (t' := s.toks) (fun c o hc q => eb c o hc q) f0 f1 f3 f4 f5
  self := fun A i s Q E ⟨⟨_, he⟩, _⟩ h => wpAny_pyIter_enum he h
/-! ### zip of three -/
def IsIt3 (z TI TO i1 i2 i3 a1 a2 a3 : Addr) (b1 b2 b3 : Bool) (i : Nat) (h : Heap) : Prop :=
  IsZip h z TI TO .none ∧ IsTupOf3 h TI (.ref i1) (.ref i2) (.ref i3) ∧ (∃ x y u, IsTupOf3 h TO x y u) ∧ IterB b1 h i1 a1 i ∧ IterB b2 h i2 a2 i ∧ IterB b3 h i3 a3 i
def ItZ3 (K : PySem.W.Frag) (b1 b2 b3 : Bool) (a1 a2 a3 : Addr) : It where
  go := fun i H => ∃ xs ys zs x y z, SqB b1 K H a1 xs ∧ SqB b2 K H a2 ys ∧ SqB b3 K H a3 zs ∧ xs[i]? = some x ∧ ys[i]? = some y ∧ zs[i]? = some z
  yld := fun i H v H' => ∃ T x y z, v = .ref T ∧ H T = none ∧ H' = upd H T (.tup [x, y, z]) ∧ (∀ xs, SqB b1 K H a1 xs → xs[i]? = some x) ∧ (∀ xs, SqB b2 K H a2 xs → xs[i]? = some y) ∧ ∀ xs, SqB b3 K H a3 xs → xs[i]? = some z
  stop := fun i H => ∃ xs ys zs : List V, SqB b1 K H a1 xs ∧ SqB b2 K H a2 ys ∧ SqB b3 K H a3 zs ∧ i = min (min xs.length ys.length) zs.length
theorem mem5 {z TI TO i1 i2 i3 c : Addr} (hc : c ∈ [z, TI, TO, i1, i2, i3]) : c = z ∨ c = TI ∨ c = TO ∨ c = i1 ∨ c = i2 ∨ c = i3 := by simpa using hc
theorem turnZ3 {P : Program} {w : World} {K : PySem.W.Frag} {elts : List Expr} {kk : Nat} {tpos : Pos} (b1 b2 b3 : Bool) {z TI TO i1 i2 i3 a1 a2 a3 : Addr} (S : ZipSep3 z TI TO i1 i2 i3 [i1, a1] [i2, a2] [i3, a3]) (h1 : a1 ≠ i1) (h2 : a2 ≠ i2) (h3 : a3 ≠ i3) :
    Turn P w K (.Tuple elts kk tpos) (ItZ3 K b1 b2 b3 a1 a2 a3) [z, TI, TO, i1, i2, i3] z (IsIt3 z TI TO i1 i2 i3 a1 a2 a3 b1 b2 b3) where
  mem := List.mem_cons_self
  obj := fun i h ⟨hz, hTI, ⟨x, y, u, hTO⟩, t1, t2, t3⟩ c hc => by
    rcases mem5 hc with q | q | q | q | q | q
    · rw [q]; exact ⟨_, hz, fun v q => nomatch q⟩
    · rw [q]; exact ⟨_, hTI, fun v q => nomatch q⟩
    · rw [q]; exact ⟨_, hTO, fun v q => nomatch q⟩
    · rw [q]; exact t1.is
    · rw [q]; exact t2.is
    · rw [q]; exact t3.is
  keep := fun i h h' ⟨hz, hTI, ⟨x, y, u, hTO⟩, t1, t2, t3⟩ k => ⟨k z (by simp) _ hz, k TI (by simp) _ hTI, ⟨x, y, u, k TO (by simp) _ hTO⟩, t1.at_ fun o q => k i1 (by simp) o q, t2.at_ fun o q => k i2 (by simp) o q, t3.at_ fun o q => k i3 (by simp) o q⟩
  item := by
    intro X hP hw hK hc i pins s σ H E I hf st hg
    subst hP hw hK
    obtain ⟨hz, hTI, ⟨x0, y0, u0, hTO⟩, t1, t2, t3⟩ := st
    obtain ⟨xs, ys, zs, x, y, u, hqx, hqy, hqu, hx, hy, hu⟩ := hg
    obtain ⟨l1, r1, p1, _, _⟩ := seqB_of I hqx
    obtain ⟨l2, r2, p2, _, _⟩ := seqB_of I hqy
    obtain ⟨l3, r3, p3, _, _⟩ := seqB_of I hqu
    have D1 := drawsB (prog := X.prog) (w := X.w) (A := X.A.in1) b1 (I.ok.hd hc) i1 a1 h1 l1.toArray
    have D2 := drawsB (prog := X.prog) (w := X.w) (A := X.A.in1) b2 (I.ok.hd hc) i2 a2 h2 l2.toArray
    have D3 := drawsB (prog := X.prog) (w := X.w) (A := X.A.in1) b3 (I.ok.hd hc) i3 a3 h3 l3.toArray
    have lt : ∀ {ws : List V} {l : List Value} {v : V}, Vals ws l → ws[i]? = some v → i < l.toArray.size := fun {ws l v} r e => by
      have q := (List.getElem?_eq_some_iff.mp e).1
      have q2 := r.length
      rw [List.size_toArray]
      omega
    have hzl : z < s.heap.objs.size := Heap.lt_size hz
    refine wpAny_pyNext_zipD3_item S D1 D2 D3 hz hTI hTO ⟨t1, p1⟩ ⟨t2, p2⟩ ⟨t3, p3⟩ (lt r1 hx) (lt r2 hy) (lt r3 hu) fun v1 v2 v3 h' tk e1 e2 e3 hz' hTO' s1 s2 s3 hT hsz hk => ?_
    obtain ⟨w1, f1, g1⟩ := r1.get hx
    obtain ⟨w2, f2, g2⟩ := r2.get hy
    obtain ⟨w3, f3, g3⟩ := r3.get hu
    have same : ∀ {l : List Value} {v v' : Value}, l.toArray[i]? = some v → l[i]? = some v' → v = v' := fun {l v v'} a b => by
      have q : l.toArray[i]? = some v' := by simpa using b
      rw [a] at q
      exact Option.some.inj q
    obtain rfl := same e1 f1
    obtain rfl := same e2 f2
    obtain rfl := same e3 f3
    refine ⟨_, rfl, wpAny_letOwnedTupleGo_zip (s := { s with heap := h', toks := tk }) hz' fun h'' hz'' sb => ?_⟩
    have hT2 : h''.get? s.heap.objs.size = some { cls := .type "tuple", data := .seq #[v1, v2, v3] } := (sb.2 _ (Nat.ne_of_gt hzl)).trans hT
    have new : ObjOk X.prog X.w (upd H s.heap.objs.size (.tup [x, y, u])) h'' s.heap.objs.size (.tup [x, y, u]) :=
      ⟨by show 3 ≤ sizeLine; decide, [v1, v2, v3], .cons g1 (.cons g2 (.cons g3 .nil)), ⟨_, hT2, rfl, _, rfl⟩⟩
    have I1 : Inv X pins σ (upd H s.heap.objs.size (.tup [x, y, u])) { s with heap := h'', toks := tk } :=
      I.turnedNew (ch := [z, TI, TO, i1, i2, i3]) (fun c o hc q => by
        simp only [List.mem_cons, List.not_mem_nil, or_false, not_or] at hc
        exact (sb.2 c hc.1).trans (hk c o hc.1 hc.2.2.1 hc.2.2.2.1 hc.2.2.2.2.1 hc.2.2.2.2.2 q)) hf (Nat.le_refl _) new
    refine ⟨.ref s.heap.objs.size, _, I1, rfl, ⟨_, x, y, u, rfl, I.hok.fresh (Nat.le_refl _), rfl, fun l hl => by rw [seqB_inj I hl hqx]; exact hx, fun l hl => by rw [seqB_inj I hl hqy]; exact hy, fun l hl => by rw [seqB_inj I hl hqu]; exact hu⟩, ⟨hz'', ?_, ⟨v1, v2, v3, ?_⟩, ?_, ?_, ?_⟩, fun c hc => ?_⟩
    · exact (sb.2 _ S.TIz).trans (hk _ _ S.TIz S.TITO S.TIi1 S.TIi2 S.TIi3 hTI)
    · exact (sb.2 _ S.TOz).trans hTO'
    · exact s1.1.at_ fun o q => (sb.2 _ (Ne.symm S.zi1)).trans q
    · exact s2.1.at_ fun o q => (sb.2 _ (Ne.symm S.zi2)).trans q
    · exact s3.1.at_ fun o q => (sb.2 _ (Ne.symm S.zi3)).trans q
    · have hc' : c < s.heap.objs.size := by
        have tl : ∀ {b : Bool} {it a : Addr}, IterB b s.heap it a i → it < s.heap.objs.size := fun t => by obtain ⟨o, q, _⟩ := t.is; exact Heap.lt_size q
        rcases mem5 hc with q | q | q | q | q | q
        · rw [q]; exact hzl
        · rw [q]; exact Heap.lt_size hTI
        · rw [q]; exact Heap.lt_size hTO
        · rw [q]; exact tl t1
        · rw [q]; exact tl t2
        · rw [q]; exact tl t3
      rw [upd_ne (Nat.ne_of_lt hc')]
      exact (hf c hc).1
  done := by
    intro X hP hw hK hc i pins s σ H E I hf st hg
    subst hP hw hK
    obtain ⟨hz, hTI, ⟨x0, y0, u0, hTO⟩, t1, t2, t3⟩ := st
    obtain ⟨xs, ys, zs, hqx, hqy, hqu, hi⟩ := hg
    obtain ⟨l1, r1, p1, _, _⟩ := seqB_of I hqx
    obtain ⟨l2, r2, p2, _, _⟩ := seqB_of I hqy
    obtain ⟨l3, r3, p3, _, _⟩ := seqB_of I hqu
    have D1 := drawsB (prog := X.prog) (w := X.w) (A := X.A.in1) b1 (I.ok.hd hc) i1 a1 h1 l1.toArray
    have D2 := drawsB (prog := X.prog) (w := X.w) (A := X.A.in1) b2 (I.ok.hd hc) i2 a2 h2 l2.toArray
    have D3 := drawsB (prog := X.prog) (w := X.w) (A := X.A.in1) b3 (I.ok.hd hc) i3 a3 h3 l3.toArray
    have e1 := r1.length
    have e2 := r2.length
    have e3 := r3.length
    have z1 : l1.toArray.size = l1.length := List.size_toArray
    have z2 : l2.toArray.size = l2.length := List.size_toArray
    have z3 : l3.toArray.size = l3.length := List.size_toArray
    refine wpAny_pyNext_zipD3_end S D1 D2 D3 hz hTI hTO ⟨t1, p1⟩ ⟨t2, p2⟩ ⟨t3, p3⟩ (by omega) (by omega) (by omega) (by omega) fun h' tk hk => ⟨rfl, ?_⟩
    exact I.turnedL (t' := tk) (ch := [z, TI, TO, i1, i2, i3]) (fun c o hc q => by
      simp only [List.mem_cons, List.not_mem_nil, or_false, not_or] at hc
      exact hk c o hc.1 hc.2.2.1 hc.2.2.2.1 hc.2.2.2.2.1 hc.2.2.2.2.2 q) hf
  self := fun A i s Q E st h => wpAny_pyIter_zip st.1 h
/-! ### the keys of a dict -/
def ItK (d : Addr) (ob : Obj) (ks : List Addr) : It where
  go := fun i H => H d = some (.ext fun h => h.get? d = some ob) ∧ i < ks.length
  yld := fun i H v H' => H' = H ∧ ∃ a, ks[i]? = some a ∧ v = .ref a
  stop := fun i H => H d = some (.ext fun h => h.get? d = some ob) ∧ ks.length = i
theorem turnK {P : Program} {w : World} {K : PySem.W.Frag} {tg : Expr} {ob : Obj} {es : Array DictEntry} {ep : Nat} {ks : List Addr} (d it : Addr) (hod : ob.data = .dict es ep) (hes : es.toList.map (·.key) = ks.map Value.ref) :
    Turn P w K tg (ItK d ob ks) [it] it (fun i h => h.IsKeyIter it d i es.size ep) where
  mem := List.mem_singleton.mpr rfl
  obj := fun i h ⟨oi, e, c, dd⟩ b hb => by
    rcases List.mem_singleton.mp hb with rfl
    exact ⟨oi, e, fun v z => by rw [dd] at z; cases z⟩
  keep := fun i h h' st k => st.at fun oi e => k it (List.mem_singleton.mpr rfl) oi e
  item := by
    intro X hP hw hK hc i pins s σ H E I hf st hg
    subst hP hw hK
    obtain ⟨hd, hi⟩ := hg
    obtain ⟨f0, f1, f2, f3, f4, f5⟩ := hf it (List.mem_singleton.mpr rfl)
    obtain ⟨hgd, _, _⟩ := I.hok d _ hd
    have hl : es.size = ks.length := by
      have := congrArg List.length hes
      simp only [List.length_map, Array.length_toList] at this
      exact this
    have hie : i < es.size := by omega
    have hx : es[i]? = some es[i] := Array.getElem?_eq_getElem hie
    have hkey : es[i].key = .ref (ks[i]'hi) := by
      have q := congrArg (fun l => l[i]?) hes
      simp only [List.getElem?_map, Array.getElem?_toList, hx, List.getElem?_eq_getElem hi, Option.map_some, Option.some.injEq] at q
      exact q
    refine next_key_item st hgd hod rfl hx fun h' st' sb => ?_
    have I1 : Inv X pins σ H { s with heap := h' } := I.turned (t' := s.toks) (fun b o hb e => (sb.2 b hb).trans e) f0 f1 f3 f4 f5
    obtain ⟨oi, e, c, dd⟩ := id st'
    rw [hkey]
    exact ⟨_, rfl, go_of (s := { s with heap := h' }) e c dd (by decide) ⟨.ref ks[i], H, I1, rfl, ⟨rfl, _, List.getElem?_eq_getElem hi, rfl⟩, st', fun b hb => (hf b hb).1⟩⟩
  done := by
    intro X hP hw hK hc i pins s σ H E I hf st hg
    subst hP hw hK
    obtain ⟨hd, hi⟩ := hg
    obtain ⟨f0, f1, f2, f3, f4, f5⟩ := hf it (List.mem_singleton.mpr rfl)
    obtain ⟨hgd, _, _⟩ := I.hok d _ hd
    have hl : es.size = ks.length := by
      have := congrArg List.length hes
      simp only [List.length_map, Array.length_toList] at this
      exact this
    exact next_key_end (I.ok.hd hc) st hgd hod rfl (by omega) fun h' eb => ⟨rfl, I.turned (t' := s.toks) (fun b o hb e => eb b o hb e) f0 f1 f3 f4 f5⟩
  self := fun A i s Q E st h => wpAny_pyIter_keyiter st h
end Mi
set_option Elab.async false
set_option linter.all false
set_option maxRecDepth 100000
set_option maxHeartbeats 400000
/-! Mi12: sources of loops, read. -/
namespace Mi
open PySem PySem.Spec PyProof.Rows L2
/-- enumerate(v) of anything that begins an iterator -/
theorem meets_enum1 {v : Value} {o : Obj} {Hh : Heap → Prop} (B : Begins v o Hh) : Meets (Builtin.«enumerate.__new__» ⟨[.type "enumerate", v], []⟩) (fun _ R s => Hh s.heap ∧
    R (.ok (.ret (.ref (s.heap.push o).objs.size))) { s with heap := (s.heap.push o).push { cls := .type "enumerate", data := .fields #[.none, .bool false, .ref s.heap.objs.size, rawInt 0, .none, .none] } }) :=
  .of_wp fun prog w A R s hh => by
    obtain ⟨hp, g, d, tk, os⟩ := s
    obtain ⟨h1, hh⟩ := hh
    have hsub := sub_enumerate
    have q1 : ∀ {A' : Around} {E : Value → Shared → Prop} {Q : Value → Shared → Prop}, Q (.ref hp.objs.size) ⟨hp.push o, g, d, tk, os⟩ → wpAny (model prog w) A' (pyIter v) Q E ⟨hp, g, d, tk, os⟩ :=
      fun q => B.iter prog w _ _ ⟨hp, g, d, tk, os⟩ _ h1 q
    wp_walk using q1
    refine wpAny_stack_any fun st => wpAny_pure ?_
    split
    · rename_i c _ _ _ _ _
      cases (c == Value.type "enumerate")
      · wp_walk using q1
        exact ⟨_, rfl, hh⟩
      · wp_walk using q1
        exact ⟨_, rfl, hh⟩
    · wp_walk using q1
      exact ⟨_, rfl, hh⟩
theorem enum_begins1 {prog : Program} {w : World} {A : Around} {E : Value → Shared → Prop} {s : Shared} {v : Value} {o : Obj} {Hh : Heap → Prop} {Q : Value → Shared → Prop} (B : Begins v o Hh) (h1 : Hh s.heap)
    (h : ∀ h', IsEnum h' (s.heap.objs.size + 1) s.heap.objs.size 0 .none → h'.get? s.heap.objs.size = some o → (∀ b o, s.heap.get? b = some o → h'.get? b = some o) → Q (.ref (s.heap.objs.size + 1)) { s with heap := h' }) :
    wpAny (model prog w) A (call (.type "enumerate") [v]) Q E s := by
  refine callType_new F.called_enumerate (by decide) (F.typeCall_enumerate_1 _) (F.newCall_enumerate_1 _) (fun obj => F.args_object_init_2 obj _) F.entry_enumerate_new (meets_enum1 B) ⟨h1, ?_⟩
  have z : (s.heap.push o).objs.size = s.heap.objs.size + 1 := Heap.size_push ..
  show _ ∧ _
  rw [z]
  have he := Heap.get?_push_size (s.heap.push o) (o := { cls := .type "enumerate", data := .fields #[.none, .bool false, .ref s.heap.objs.size, rawInt 0, .none, .none] }) rfl
  rw [z] at he
  exact ⟨⟨_, he, rfl⟩, h _ he (Heap.get?_push_of_some _ (Heap.get?_push_size _ B.free)) fun b o x => Heap.get?_push_of_some _ (Heap.get?_push_of_some _ x)⟩

/-! ### what a source gives -/
def JOk (T : Tb) (G0 : Hp) (m0 : Mm) (ds : List D) (J : It) : Prop :=
  ∀ (i : Nat) (F G : Hp) (m : Mm) (s : S) (H : Hp), Ext G0 m0 G m → R T F G m s H →
    (i = ds.length → J.stop i H) ∧ ∀ d, ds[i]? = some d → J.go i H ∧ ∀ x H', J.yld i H x H' → ∃ G', Ext G m G' m ∧ R T F G' m s H' ∧ Rp T G' m d x
section
variable {T : Tb} {G0 : Hp} {m0 : Mm}
theorem jok_list {a : Addr} {ds : List D} {vs : List V} (h : G0 a = some (.lst vs)) (r : Rps T G0 m0 ds vs) : JOk T G0 m0 ds (Itl T.K a) := by
  intro i F G m s H e rr
  have hH : SqL T.K H a vs := SqL.of (rr.gH _ _ (e.g _ _ h))
  refine ⟨fun hi => ⟨vs, hH, by rw [hi, r.length]; exact Nat.le_refl _⟩, fun d hd => ?_⟩
  obtain ⟨v, hv, rv⟩ := r.get hd
  refine ⟨⟨vs, v, hH, hv⟩, fun x H' y => ?_⟩
  obtain ⟨y1, y2⟩ := y
  subst y1
  have := y2 vs hH
  rw [hv] at this
  cases this
  exact ⟨G, Ext.refl G m, rr, rv.mono e⟩
theorem jok_tup {a : Addr} {ds : List D} {vs : List V} (h : SqT T.K G0 a vs) (r : Rps T G0 m0 ds vs) : JOk T G0 m0 ds (Itt T.K a) := by
  intro i F G m s H e rr
  have hH : SqT T.K H a vs := SqT.sub rr.gH (SqT.sub e.g h)
  refine ⟨fun hi => ⟨vs, hH, by rw [hi, r.length]; exact Nat.le_refl _⟩, fun d hd => ?_⟩
  obtain ⟨v, hv, rv⟩ := r.get hd
  refine ⟨⟨vs, v, hH, hv⟩, fun x H' y => ?_⟩
  obtain ⟨y1, y2⟩ := y
  subst y1
  have := y2 vs hH
  rw [hv] at this
  cases this
  exact ⟨G, Ext.refl G m, rr, rv.mono e⟩
theorem rangeD_get : ∀ (n : Nat) (lo : Int) (i : Nat) (d : D), (rangeD lo n)[i]? = some d → i < n ∧ d = .int (lo + i)
  | 0, _, _, _, h => by simp [rangeD] at h
  | n + 1, lo, 0, d, h => by
    simp [rangeD] at h
    exact ⟨Nat.succ_pos _, by rw [← h]; simp⟩
  | n + 1, lo, i + 1, d, h => by
    obtain ⟨h1, h2⟩ := rangeD_get n (lo + 1) i d (by simpa [rangeD] using h)
    refine ⟨by omega, ?_⟩
    rw [h2]
    congr 1
    omega
theorem rangeD_length : ∀ (n : Nat) (lo : Int), (rangeD lo n).length = n
  | 0, _ => rfl
  | n + 1, lo => by simp [rangeD, rangeD_length n]
theorem jok_rng (lo : Int) (n : Nat) : JOk T G0 m0 (rangeD lo n) (Itr lo n) := by
  intro i F G m s H e rr
  refine ⟨fun hi => by rw [rangeD_length] at hi; exact Nat.le_of_eq hi.symm, fun d hd => ?_⟩
  obtain ⟨h1, rfl⟩ := rangeD_get _ _ _ _ hd
  refine ⟨h1, fun x H' y => ?_⟩
  obtain ⟨y1, y2⟩ := y
  subst y1 y2
  exact ⟨G, Ext.refl G m, rr, .int _⟩
theorem zipD_get : ∀ {xs ys : List D} {i : Nat} {d : D}, (zipD xs ys)[i]? = some d → ∃ a b, xs[i]? = some a ∧ ys[i]? = some b ∧ d = .tup [a, b]
  | [], _, _, _, h => by simp [zipD] at h
  | _ :: _, [], _, _, h => by simp [zipD] at h
  | x :: xs, y :: ys, 0, d, h => by
    simp [zipD] at h
    exact ⟨x, y, rfl, rfl, h.symm⟩
  | x :: xs, y :: ys, i + 1, d, h => by
    obtain ⟨a, b, h1, h2, h3⟩ := zipD_get (i := i) (by simpa [zipD] using h)
    exact ⟨a, b, by simpa using h1, by simpa using h2, h3⟩
theorem zipD_length : ∀ xs ys : List D, (zipD xs ys).length = min xs.length ys.length
  | [], _ => by simp [zipD]
  | _ :: _, [] => by simp [zipD]
  | _ :: xs, _ :: ys => by simp [zipD, zipD_length xs ys]
theorem zipD3_get : ∀ {xs ys zs : List D} {i : Nat} {d : D}, (zipD3 xs ys zs)[i]? = some d → ∃ a b c, xs[i]? = some a ∧ ys[i]? = some b ∧ zs[i]? = some c ∧ d = .tup [a, b, c]
  | [], _, _, _, _, h => by simp [zipD3] at h
  | _ :: _, [], _, _, _, h => by simp [zipD3] at h
  | _ :: _, _ :: _, [], _, _, h => by simp [zipD3] at h
  | x :: xs, y :: ys, z :: zs, 0, d, h => by
    simp [zipD3] at h
    exact ⟨x, y, z, rfl, rfl, rfl, h.symm⟩
  | x :: xs, y :: ys, z :: zs, i + 1, d, h => by
    obtain ⟨a, b, c, h1, h2, h3, h4⟩ := zipD3_get (i := i) (by simpa [zipD3] using h)
    exact ⟨a, b, c, by simpa using h1, by simpa using h2, by simpa using h3, h4⟩
theorem zipD3_length : ∀ xs ys zs : List D, (zipD3 xs ys zs).length = min (min xs.length ys.length) zs.length
  | [], _, _ => by simp [zipD3]
  | _ :: _, [], _ => by simp [zipD3]
  | _ :: _, _ :: _, [] => by simp [zipD3]
  | _ :: xs, _ :: ys, _ :: zs => by simp [zipD3, zipD3_length xs ys zs]
theorem enumD_get : ∀ {ds : List D} {k i : Nat} {d : D}, (enumD k ds)[i]? = some d → ∃ a, ds[i]? = some a ∧ d = .tup [.int ((k + i : Nat) : Int), a]
  | [], _, _, _, h => by simp [enumD] at h
  | x :: ds, k, 0, d, h => by
    simp [enumD] at h
    exact ⟨x, rfl, by rw [← h]; simp⟩
  | x :: ds, k, i + 1, d, h => by
    obtain ⟨a, h1, h2⟩ := enumD_get (k := k + 1) (i := i) (by simpa [enumD] using h)
    exact ⟨a, by simpa using h1, by rw [h2]; congr 3; omega⟩
theorem enumD_length : ∀ (ds : List D) (k : Nat), (enumD k ds).length = ds.length
  | [], _ => rfl
  | _ :: ds, k => by simp [enumD, enumD_length ds]
/-- a new tuple that is yielded -/
theorem new_tup {F G H : Hp} {m : Mm} {s : S} {p : Addr} {ds : List D} {vs : List V} (r : R T F G m s H) (hp : H p = none) (rs : Rps T G m ds vs) : ∃ G', Ext G m G' m ∧ R T F G' m s (upd H p (.tup vs)) ∧ Rp T G' m (.tup ds) (.ref p) :=
  ⟨upd G p (.tup vs), Ext.upd (none_of_sub r.gH hp), r.imm hp, .tup (SqT.of upd_same) (rs.mono (Ext.upd (none_of_sub r.gH hp)))⟩
def SqBG (b : Bool) (T : Tb) (G : Hp) (a : Addr) (vs : List V) : Prop := if b = true then G a = some (.lst vs) else SqT T.K G a vs
theorem SqBG.sub {b : Bool} {G H : Hp} {a : Addr} {vs : List V} (k : Sub G H) (h : SqBG b T G a vs) : SqBG b T H a vs := by
  cases b with
  | true => exact k _ _ (show G a = some (.lst vs) from h)
  | false => exact SqT.sub k (show SqT T.K G a vs from h)
theorem SqBG.sq {b : Bool} {H : Hp} {a : Addr} {vs : List V} (h : SqBG b T H a vs) : SqB b T.K H a vs := by
  cases b with
  | true => exact SqL.of (show H a = some (.lst vs) from h)
  | false => exact h
theorem jok_enum {b : Bool} {a : Addr} {ds : List D} {vs : List V} (h : SqBG b T G0 a vs) (r : Rps T G0 m0 ds vs) : JOk T G0 m0 (enumD 0 ds) (ItE T.K b a) := by
  intro i F G m s H e rr
  have hH : SqB b T.K H a vs := ((h.sub e.g).sub rr.gH).sq
  refine ⟨fun hi => ⟨vs, hH, by rw [hi, enumD_length, r.length]⟩, fun d hd => ?_⟩
  obtain ⟨d', hd', rfl⟩ := enumD_get hd
  obtain ⟨v, hv, rv⟩ := r.get hd'
  refine ⟨⟨vs, v, hH, hv⟩, fun x H' y => ?_⟩
  obtain ⟨p, x', rfl, hp, rfl, y2⟩ := y
  have := y2 vs hH
  rw [hv] at this
  cases this
  refine new_tup rr hp (.cons ?_ (.cons (rv.mono e) .nil))
  rw [Nat.zero_add]
  exact .int _
theorem jok_zipL {a b : Addr} {ds es : List D} {vs ws : List V} (h1 : G0 a = some (.lst vs)) (r1 : Rps T G0 m0 ds vs) (h2 : G0 b = some (.lst ws)) (r2 : Rps T G0 m0 es ws) : JOk T G0 m0 (zipD ds es) (Itz T.K a b) := by
  intro i F G m s H e rr
  have hA : SqL T.K H a vs := SqL.of (rr.gH _ _ (e.g _ _ h1))
  have hB : SqL T.K H b ws := SqL.of (rr.gH _ _ (e.g _ _ h2))
  refine ⟨fun hi => ⟨vs, ws, hA, hB, by rw [zipD_length, r1.length, r2.length] at hi; omega⟩, fun d hd => ?_⟩
  obtain ⟨x, y, e1, e2, rfl⟩ := zipD_get hd
  obtain ⟨v, hv, rv⟩ := r1.get e1
  obtain ⟨w, hw, rw'⟩ := r2.get e2
  refine ⟨⟨vs, ws, v, w, hA, hB, hv, hw⟩, fun z H' q => ?_⟩
  obtain ⟨p, x', y', rfl, hp, rfl, q1, q2⟩ := q
  have z1 := q1 vs hA
  have z2 := q2 ws hB
  rw [hv] at z1
  rw [hw] at z2
  cases z1
  cases z2
  exact new_tup rr hp (.cons (rv.mono e) (.cons (rw'.mono e) .nil))
theorem jok_zipT {a b : Addr} {ds es : List D} {vs ws : List V} (h1 : SqT T.K G0 a vs) (r1 : Rps T G0 m0 ds vs) (h2 : SqT T.K G0 b ws) (r2 : Rps T G0 m0 es ws) : JOk T G0 m0 (zipD ds es) (RZ.ItzT T.K a b) := by
  intro i F G m s H e rr
  have hA : SqT T.K H a vs := SqT.sub rr.gH (SqT.sub e.g h1)
  have hB : SqT T.K H b ws := SqT.sub rr.gH (SqT.sub e.g h2)
  refine ⟨fun hi => ⟨vs, ws, hA, hB, by rw [zipD_length, r1.length, r2.length] at hi; omega⟩, fun d hd => ?_⟩
  obtain ⟨x, y, e1, e2, rfl⟩ := zipD_get hd
  obtain ⟨v, hv, rv⟩ := r1.get e1
  obtain ⟨w, hw, rw'⟩ := r2.get e2
  refine ⟨⟨vs, ws, v, w, hA, hB, hv, hw⟩, fun z H' q => ?_⟩
  obtain ⟨p, x', y', rfl, hp, rfl, q1, q2⟩ := q
  have z1 := q1 vs hA
  have z2 := q2 ws hB
  rw [hv] at z1
  rw [hw] at z2
  cases z1
  cases z2
  exact new_tup rr hp (.cons (rv.mono e) (.cons (rw'.mono e) .nil))
theorem jok_zip3 {b1 b2 b3 : Bool} {a1 a2 a3 : Addr} {d1 d2 d3 : List D} {v1 v2 v3 : List V} (h1 : SqBG b1 T G0 a1 v1) (r1 : Rps T G0 m0 d1 v1) (h2 : SqBG b2 T G0 a2 v2) (r2 : Rps T G0 m0 d2 v2) (h3 : SqBG b3 T G0 a3 v3) (r3 : Rps T G0 m0 d3 v3) :
    JOk T G0 m0 (zipD3 d1 d2 d3) (ItZ3 T.K b1 b2 b3 a1 a2 a3) := by
  intro i F G m s H e rr
  have hA : SqB b1 T.K H a1 v1 := ((h1.sub e.g).sub rr.gH).sq
  have hB : SqB b2 T.K H a2 v2 := ((h2.sub e.g).sub rr.gH).sq
  have hC : SqB b3 T.K H a3 v3 := ((h3.sub e.g).sub rr.gH).sq
  refine ⟨fun hi => ⟨v1, v2, v3, hA, hB, hC, by rw [zipD3_length, r1.length, r2.length, r3.length] at hi; exact hi⟩, fun d hd => ?_⟩
  obtain ⟨x, y, u, e1, e2, e3, rfl⟩ := zipD3_get hd
  obtain ⟨w1, g1, f1⟩ := r1.get e1
  obtain ⟨w2, g2, f2⟩ := r2.get e2
  obtain ⟨w3, g3, f3⟩ := r3.get e3
  refine ⟨⟨v1, v2, v3, w1, w2, w3, hA, hB, hC, g1, g2, g3⟩, fun z H' q => ?_⟩
  obtain ⟨p, x', y', u', rfl, hp, rfl, q1, q2, q3⟩ := q
  have z1 := q1 _ hA
  have z2 := q2 _ hB
  have z3 := q3 _ hC
  rw [g1] at z1
  rw [g2] at z2
  rw [g3] at z3
  cases z1
  cases z2
  cases z3
  exact new_tup rr hp (.cons (f1.mono e) (.cons (f2.mono e) (.cons (f3.mono e) .nil)))
theorem jok_keys {d : Addr} {ob : Obj} {ks : List D} {as : List Addr} (h : G0 d = some (.ext fun h => h.get? d = some ob)) (r : Rps T G0 m0 ks (as.map V.ref)) : JOk T G0 m0 ks (ItK d ob as) := by
  intro i F G m s H e rr
  have hH := rr.gH _ _ (e.g _ _ h)
  have hl := r.length
  rw [List.length_map] at hl
  refine ⟨fun hi => ⟨hH, by omega⟩, fun x hx => ?_⟩
  obtain ⟨v, hv, rv⟩ := r.get hx
  rw [List.getElem?_map] at hv
  obtain ⟨a, ha, rfl⟩ := Option.map_eq_some_iff.mp hv
  refine ⟨⟨hH, (List.getElem?_eq_some_iff.mp ha).1⟩, fun z H' q => ?_⟩
  obtain ⟨rfl, a', q1, rfl⟩ := q
  rw [ha] at q1
  cases q1
  exact ⟨G, Ext.refl G m, rr, rv.mono e⟩
end
end Mi
set_option Elab.async false
set_option linter.all false
set_option maxRecDepth 100000
set_option maxHeartbeats 400000
/-! Mi13: readings of sources, targets; list comprehensions. -/
namespace Mi
open PySem PySem.Spec PyProof.Rows L2
/-! ### the frame of others grows -/
section
variable {T : Tb} {F G H : Hp} {m : Mm} {s : S} {p : Addr} {o o' : HO}
theorem R.cells {F' G' H' : Hp} (r : R T F G m s H) (gH : Sub G' H') (fH : Sub F' H') (fG : ∀ a o, F' a = some o → G' a = none) (x : Ext G m G' m) (k : ∀ n c a, s.get n = some c → m n = some a → CellAt T G m H a c → CellAt T G' m H' a c ∧ F' a = none) : R T F' G' m s H' :=
  ⟨gH, fH, fG, fun n c e => by
    obtain ⟨a, e1, e2, e3⟩ := r.cell n c e
    exact ⟨a, e1, (k n c a e e1 e2).1, (k n c a e e1 e2).2⟩, r.inj, r.lt, r.fresh⟩
theorem CellAt.upd {a : Addr} {c : Cl} (h : CellAt T G m H a c) (ha : a ≠ p) : CellAt T G m (L2.upd H p o) a c := by
  cases c with
  | lst fz ds =>
    obtain ⟨vs, h1, h2⟩ := h
    exact ⟨vs, by rw [upd_ne ha]; exact h1, h2⟩
  | dic fz ks vs =>
    obtain ⟨ho, kvs, h1, h2⟩ := h
    exact ⟨ho, kvs, by rw [upd_ne ha]; exact h1, h2⟩
theorem R.fnew (r : R T F G m s H) (hp : H p = none) : R T (upd F p o) G m s (upd H p o) := by
  refine r.cells (r.gH.upd hp) r.fH.upd2 (fun a u e => ?_) (Ext.refl G m) (fun n c a e e1 e2 => ?_)
  · by_cases ha : a = p
    · rw [ha]; exact none_of_sub r.gH hp
    · rw [upd_ne ha] at e; exact r.fG a u e
  · have ha : a ≠ p := fun z => by rw [z] at e2; exact e2.there hp
    obtain ⟨a', q1, _, q3⟩ := r.cell n c e
    rw [e1] at q1
    cases q1
    exact ⟨e2.upd ha, by rw [upd_ne ha]; exact q3⟩
theorem R.fset (r : R T (upd F p o) G m s H) : R T (upd F p o') G m s (upd H p o') := by
  have gp : G p = none := r.fG p o upd_same
  refine r.cells (fun a u e => ?_) (fun a u e => ?_) (fun a u e => ?_) (Ext.refl G m) (fun n c a e e1 e2 => ?_)
  · have ha : a ≠ p := fun z => by rw [z, gp] at e; cases e
    rw [upd_ne ha]
    exact r.gH a u e
  · by_cases ha : a = p
    · rw [ha, upd_same] at e ⊢; exact e
    · rw [upd_ne ha] at e ⊢
      exact r.fH a u (by rw [upd_ne ha]; exact e)
  · by_cases ha : a = p
    · rw [ha]; exact gp
    · rw [upd_ne ha] at e
      exact r.fG a u (by rw [upd_ne ha]; exact e)
  · obtain ⟨a', q1, _, q3⟩ := r.cell n c e
    rw [e1] at q1
    cases q1
    have ha : a ≠ p := fun z => by rw [z, upd_same] at q3; cases q3
    rw [upd_ne ha] at q3
    exact ⟨e2.upd ha, by rw [upd_ne ha]; exact q3⟩
theorem R.fat (r : R T (upd F p o) G m s H) : H p = some o := r.fH p o upd_same
/-- what was others' becomes a thing that changes no more -/
theorem R.own (r : R T (upd F p o) G m s H) (hF : F p = none) : R T F (upd G p o) m s H := by
  have gp : G p = none := r.fG p o upd_same
  have x : Ext G m (upd G p o) m := Ext.upd gp
  refine r.cells (fun a u e => ?_) (fun a u e => ?_) (fun a u e => ?_) x (fun n c a e e1 e2 => ?_)
  · by_cases ha : a = p
    · rw [ha, upd_same] at e; rw [ha, ← e]; exact r.fat
    · rw [upd_ne ha] at e; exact r.gH a u e
  · have ha : a ≠ p := fun z => by rw [z, hF] at e; cases e
    exact r.fH a u (by rw [upd_ne ha]; exact e)
  · have ha : a ≠ p := fun z => by rw [z, hF] at e; cases e
    rw [upd_ne ha]
    exact r.fG a u (by rw [upd_ne ha]; exact e)
  · obtain ⟨a', q1, _, q3⟩ := r.cell n c e
    rw [e1] at q1
    cases q1
    have ha : a ≠ p := fun z => by rw [z, upd_same] at q3; cases q3
    rw [upd_ne ha] at q3
    refine ⟨?_, q3⟩
    cases c with
    | lst fz ds =>
      obtain ⟨vs, h1, h2, h3, h4⟩ := e2
      exact ⟨vs, h1, h2.mono x, fun z => by rw [upd_ne ha]; exact h3 z, fun z => by rw [upd_ne ha]; exact h4 z⟩
    | dic fz ks vs =>
      obtain ⟨ho, kvs, h1, h2, h3, h4, h5, h6, h7⟩ := e2
      exact ⟨ho, kvs, h1, h2, h3.mono x, h4, h5.mono x, fun z => by rw [upd_ne ha]; exact h6 z, fun z => by rw [upd_ne ha]; exact h7 z⟩
/-- .. becomes a cell -/
theorem R.ownX {o : HO} {c0 : Cl} (r : R T (upd F p o) G m s H) (hF : F p = none) (hc : CellAt T G (mAdd m s.nx p) H p c0) : R T F G (mAdd m s.nx p) (s.add c0) H := by
  have gp : G p = none := r.fG p _ upd_same
  have x : Ext G m G (mAdd m s.nx p) := Ext.add (r.fresh _ (Nat.le_refl _))
  have notp : ∀ n c a, s.get n = some c → m n = some a → a ≠ p := fun n c a e e1 z => by
    obtain ⟨a', q1, _, q3⟩ := r.cell n c e
    rw [e1] at q1
    cases q1
    rw [z, upd_same] at q3
    cases q3
  refine ⟨r.gH, fun a u e => ?_, fun a u e => ?_, fun n c e => ?_, fun n k b hnk hn hk e1 e2 => ?_, fun n hn => ?_, fun n hn => ?_⟩
  · have ha : a ≠ p := fun z => by rw [z, hF] at e; cases e
    exact r.fH a u (by rw [upd_ne ha]; exact e)
  · have ha : a ≠ p := fun z => by rw [z, hF] at e; cases e
    exact r.fG a u (by rw [upd_ne ha]; exact e)
  · rw [S.get_add] at e
    by_cases h : n = s.nx
    · rw [if_pos h] at e
      cases e
      exact ⟨p, by unfold mAdd; rw [if_pos h], hc, hF⟩
    · rw [if_neg h] at e
      obtain ⟨b, e1, e2, e3⟩ := r.cell n c e
      have hb := notp n c b e e1
      rw [upd_ne hb] at e3
      refine ⟨b, x.m _ _ e1, ?_, e3⟩
      cases c with
      | lst fz ds =>
        obtain ⟨vs, h1, h2, h3⟩ := e2
        exact ⟨vs, h1, h2.mono x, h3⟩
      | dic fz ks vs =>
        obtain ⟨ho, kvs, h1, h2, h3, h4, h5, h6⟩ := e2
        exact ⟨ho, kvs, h1, h2, h3.mono x, h4, h5.mono x, h6⟩
  · rw [S.get_add] at hn hk
    unfold mAdd at e1 e2
    by_cases h : n = s.nx
    · by_cases h' : k = s.nx
      · exact hnk (h.trans h'.symm)
      · rw [if_pos h] at e1
        rw [if_neg h'] at e2 hk
        obtain ⟨d, hd⟩ := Option.isSome_iff_exists.mp hk
        exact notp k d b hd e2 (Option.some.inj e1).symm
    · by_cases h' : k = s.nx
      · rw [if_neg h] at e1 hn
        rw [if_pos h'] at e2
        obtain ⟨d, hd⟩ := Option.isSome_iff_exists.mp hn
        exact notp n d b hd e1 (Option.some.inj e2).symm
      · rw [if_neg h] at e1 hn
        rw [if_neg h'] at e2 hk
        exact r.inj n k b hnk hn hk e1 e2
  · rw [S.get_add] at hn
    show n < s.nx + 1
    by_cases h : n = s.nx
    · omega
    · rw [if_neg h] at hn
      exact Nat.lt_succ_of_lt (r.lt n hn)
  · have hn' : s.nx + 1 ≤ n := hn
    show (if n = s.nx then some p else m n) = none
    rw [if_neg (by omega)]
    exact r.fresh n (by omega)
theorem R.ownC {vs : List V} {ds : List D} (r : R T (upd F p (.lst vs)) G m s H) (hF : F p = none) (rs : Rps T G m ds vs) : R T F G (mAdd m s.nx p) (s.add (.lst false ds)) H :=
  r.ownX hF ⟨vs, r.fat, rs.mono (Ext.add (r.fresh _ (Nat.le_refl _))), fun z => Bool.noConfusion z, fun _ => r.fG p _ upd_same⟩
end
/-! ### targets -/
def Only (l : List Nat) (σ σ' : L2.St) : Prop := σ'.length = σ.length ∧ ∀ j, j ∉ l → σ'[j]? = σ[j]?
theorem Only.refl (l : List Nat) (σ : L2.St) : Only l σ σ := ⟨rfl, fun _ _ => rfl⟩
theorem Only.trans {l l' k : List Nat} {σ σ1 σ2 : L2.St} (a : Only l σ σ1) (b : Only l' σ1 σ2) (h1 : ∀ i ∈ l, i ∈ k) (h2 : ∀ i ∈ l', i ∈ k) : Only k σ σ2 :=
  ⟨b.1.trans a.1, fun j hj => (b.2 j fun z => hj (h2 j z)).trans (a.2 j fun z => hj (h1 j z))⟩
theorem Only.set (i : Nat) (σ : L2.St) (o : Option V) : Only [i] σ (σ.set i o) := ⟨by simp, fun j hj => by rw [List.getElem?_set_ne (fun z => hj (by simp [z]))]⟩
theorem wipe_get (σ : L2.St) : ∀ (vs : List Nat) (j : Nat), (L2.wipe σ vs)[j]? = if j ∈ vs ∧ j < σ.length then some none else σ[j]?
  | [], j => by simp [L2.wipe]
  | v :: vs, j => by
    unfold L2.wipe
    by_cases hv : v = j
    · subst hv
      by_cases hl : v < σ.length
      · rw [List.getElem?_set_self (by rw [L2.wipe_length]; exact hl), if_pos ⟨by simp, hl⟩]
      · rw [List.getElem?_eq_none (by simp [L2.wipe_length]; omega), if_neg (fun z => hl z.2), List.getElem?_eq_none (by omega)]
    · rw [List.getElem?_set_ne hv, wipe_get σ vs j]
      by_cases h : j ∈ vs ∧ j < σ.length
      · rw [if_pos h, if_pos ⟨List.mem_cons_of_mem _ h.1, h.2⟩]
      · rw [if_neg h, if_neg (fun z => h ⟨by
          rcases List.mem_cons.mp z.1 with q | q
          · exact absurd q.symm hv
          · exact q, z.2⟩)]
theorem Only.wipe {l vs : List Nat} {σ σ' : L2.St} (h : Only l σ σ') (k : ∀ i ∈ l, i ∈ vs) : L2.wipe σ' vs = L2.wipe σ vs := by
  apply List.ext_getElem?
  intro j
  rw [wipe_get, wipe_get, h.1]
  by_cases hj : j ∈ vs ∧ j < σ.length
  · rw [if_pos hj, if_pos hj]
  · rw [if_neg hj, if_neg hj]
    by_cases hv : j ∈ vs
    · have hl : ¬ j < σ.length := fun z => hj ⟨hv, z⟩
      have h1 := h.1
      rw [List.getElem?_eq_none (by omega), List.getElem?_eq_none (by omega)]
    · exact h.2 j fun z => hv (k j z)
theorem wipe_wipe (σ : L2.St) (vs : List Nat) : L2.wipe (L2.wipe σ vs) vs = L2.wipe σ vs :=
  Only.wipe (l := vs) ⟨L2.wipe_length σ vs, fun j hj => by rw [wipe_get, if_neg (fun z => hj z.1)]⟩ fun i h => h
section
variable (T : Tb) (l : List Nat)
/-- what a target's store asks -/
def GOk (σ : L2.St) (F G : Hp) (m : Mm) (r : Res Tau) (Q : L2.St → Hp → Prop) : Prop := match r with
  | .ok τ' s' => ∀ G' m' H' σ', Ext G m G' m' → R T F G' m' s' H' → RpS T G' m' τ' σ' → Only l σ σ' → Q σ' H'
  | _ => False
def gRd (ev : D → Tau → S → Res Tau) : TG := fun v σ H Q => ∃ F G m s τ d, R T F G m s H ∧ RpS T G m τ σ ∧ Rp T G m d v ∧ GOk T l σ F G m (ev d τ s) Q
def gsRd (ev : List D → Tau → S → Res Tau) : TGs := fun vs σ H Q => ∃ F G m s τ ds, R T F G m s H ∧ RpS T G m τ σ ∧ Rps T G m ds vs ∧ GOk T l σ F G m (ev ds τ s) Q
end
abbrev W0 : WX := fun _ _ _ _ => False
/-- a reading of a test -/
abbrev bRd (T : Tb) (W : WX) (ev : Tau → S → Res Bool) : L2.St → Hp → (Bool → Hp → Prop) → Prop := tRd T W (fun _ _ (a b : Bool) => a = b) ev
abbrev iRd (T : Tb) (W : WX) (ev : Tau → S → Res (List D)) : L2.St → Hp → (It → Hp → Prop) → Prop := tRd T W (fun G m ds J => JOk T G m ds J) ev
/-- the end of a list comprehension -/
def finC (mu : Bool) (r : List D) (s : S) : Res D := if mu then .ok (.ref s.nx) (s.add (.lst false r)) else .ok (.lst r) s
theorem Res.bind_ok {α β : Type} {r : Res α} {f : α → S → Res β} {c : β} {s' : S} (h : r.bind f = .ok c s') : ∃ a s1, r = .ok a s1 ∧ f a s1 = .ok c s' := by
  cases r with
  | ok a s1 => exact ⟨a, s1, rfl, h⟩
  | exc _ _ => cases h
  | stuck => cases h
theorem loopC_cons {f : D → S → Res (Option D)} {d : D} {ds r : List D} {s send : S} (h : loopC f (d :: ds) s = .ok r send) : ∃ o s1 r', f d s = .ok o s1 ∧ loopC f ds s1 = .ok r' send ∧ r = (match o with | some x => x :: r' | none => r') := by
  simp only [loopC] at h
  cases e : f d s with
  | exc _ _ => rw [e] at h; cases h
  | stuck => rw [e] at h; cases h
  | ok o s1 =>
    rw [e] at h
    simp only at h
    cases e2 : loopC f ds s1 with
    | exc _ _ => rw [e2] at h; cases h
    | stuck => rw [e2] at h; cases h
    | ok r' s2 =>
      rw [e2] at h
      simp only [Res.ok.injEq] at h
      obtain ⟨h1, rfl⟩ := h
      exact ⟨o, s1, r', rfl, e2, h1.symm⟩
theorem comp_ok {T : Tb} {W : WX} {mu : Bool} {g : TG} {tt : TT} {te : TE} {evg : D → Tau → S → Res Tau} {evt : Tau → S → Res Bool} {eve : Tau → S → Res D} {l own : List Nat} {σ : L2.St} {H1 : Hp} {Q : VK} {F G1 : Hp} {m1 : Mm} {s1 send : S} {τ : Tau} {J : It} {ds rtot : List D}
    (hg : ∀ v σ H Q, gRd T l evg v σ H Q → g v σ H Q) (ht : ∀ σ H Q, bRd T W0 evt σ H Q → tt σ H Q) (he : ∀ σ H Q, tRd T W0 (Rp T) eve σ H Q → te σ H Q) (hl : ∀ i ∈ l, i ∈ own)
    (r1 : R T F G1 m1 s1 H1) (hs : RpS T G1 m1 τ σ) (jo : JOk T G1 m1 ds J) (hf : fits ds = true)
    (hloop : loopC (fun d s2 => (evg d (wipeT τ own) s2).bind fun τ1 s3 => (evt τ1 s3).bind fun b s4 => if b then (eve τ1 s4).bind fun y s5 => .ok (some y) s5 else .ok none s4) ds s1 = .ok rtot send)
    (hfin : TRg T W (Rp T) σ F G1 m1 (finC mu rtot send) Q) : ∀ D, H1 D = none → ∃ W : Nat → Nat → Hp → Prop, (∃ m, W 0 m (upd H1 D (.lst []))) ∧ ∀ i m H, W i m H →
      (J.stop i H ∧ Q (.ref D) H) ∨ (J.go i H ∧ ∃ Nx : Hp → Prop, (∀ H', Nx H' → ∃ m', m' < m ∧ W (i + 1) m' H') ∧ ∀ x H', J.yld i H x H' → g x (L2.wipe σ own) H' fun σ2 H2 => L2.wipe σ2 own = L2.wipe σ own ∧ tt σ2 H2 fun b H3 =>
        if b = true then te σ2 H3 fun y H4 => ∃ acc, H4 D = some (.lst acc) ∧ acc.length < sizeLine ∧ Nx (upd H4 D (.lst (acc ++ [y]))) else Nx H3) := by
  intro D hD
  have hFD : F D = none := none_of_sub r1.fH hD
  generalize hf' : (fun d s2 => (evg d (wipeT τ own) s2).bind fun τ1 s3 => (evt τ1 s3).bind fun b s4 => if b then (eve τ1 s4).bind fun y s5 => .ok (some y) s5 else .ok none s4) = f at hloop
  -- the state ahead of turn i
  let Pv : Nat → Hp → Prop := fun i H => ∃ G m s acc vs r2, i ≤ ds.length ∧ Ext G1 m1 G m ∧ R T (upd F D (.lst vs)) G m s H ∧ Rps T G m acc vs ∧ acc.length ≤ i ∧ loopC f (ds.drop i) s = .ok r2 send ∧ acc ++ r2 = rtot
  refine ⟨fun i m H => m = ds.length - i ∧ Pv i H, ⟨ds.length, by simp, G1, m1, s1, [], [], rtot, Nat.zero_le _, Ext.refl _ _, r1.fnew hD, .nil, Nat.zero_le _, by simpa using hloop, rfl⟩, ?_⟩
  rintro i m H ⟨rfl, G, m, s, acc, vs, r2, hi, x, r, ra, hla, hlo, hr⟩
  obtain ⟨stop, go⟩ := jo i _ G m s H x r
  by_cases hlt : i < ds.length
  · right
    have hd : ds[i]? = some ds[i] := List.getElem?_eq_getElem hlt
    obtain ⟨g1, g2⟩ := go _ hd
    rw [List.drop_eq_getElem_cons hlt] at hlo
    refine ⟨g1, Pv (i + 1), fun H' p => ⟨ds.length - (i + 1), by omega, rfl, p⟩, fun v H' hy => ?_⟩
    obtain ⟨G', x', r0, rv⟩ := g2 v H' hy
    refine hg _ _ _ _ ⟨_, G', m, s, wipeT τ own, ds[i], r0, ((hs.mono x).mono x').wipe own, rv, ?_⟩
    obtain ⟨o, sd, r', e0, e4, er⟩ := loopC_cons hlo
    rw [← hf'] at e0
    obtain ⟨τ1, sa, e1, e0⟩ := Res.bind_ok e0
    obtain ⟨b, sb, e2, e0⟩ := Res.bind_ok e0
    rw [e1]
    intro G2 m2 H2 σ2 x2 r2' hs2 ho2
    refine ⟨(ho2.wipe hl).trans (wipe_wipe σ own), ht _ _ _ ⟨_, G2, m2, sa, τ1, r2', hs2, ?_⟩⟩
    rw [e2]
    rintro G3 m3 H3 b' x3 r3 rfl
    cases b with
    | false =>
      simp only [Bool.false_eq_true, if_false, Res.ok.injEq] at e0 ⊢
      obtain ⟨rfl, rfl⟩ := e0
      have xx := ((x'.trans x2).trans x3)
      exact ⟨G3, m3, sb, acc, vs, r', hlt, x.trans xx, r3, ra.mono xx, by omega, e4, by rw [er] at hr; exact hr⟩
    | true =>
      simp only [if_true] at e0 ⊢
      obtain ⟨y, sc, e3, e0⟩ := Res.bind_ok e0
      simp only [Res.ok.injEq] at e0
      obtain ⟨rfl, rfl⟩ := e0
      refine he _ _ _ ⟨_, G3, m3, sb, τ1, r3, hs2.mono x3, ?_⟩
      rw [e3]
      intro G4 m4 H4 yv x4 r4 ry
      have xx := (((x'.trans x2).trans x3).trans x4)
      have hlen := fits_len hf
      refine ⟨vs, r4.fat, by rw [← ra.length]; omega, G4, m4, sc, acc ++ [y], vs ++ [yv], r', hlt, x.trans xx, r4.fset, (ra.mono xx).append (.cons ry .nil), by rw [List.length_append, List.length_singleton]; omega, e4, by rw [er] at hr; rw [List.append_assoc]; exact hr⟩
  · left
    have hi' : i = ds.length := by omega
    refine ⟨stop hi', ?_⟩
    rw [hi', List.drop_length] at hlo
    simp only [loopC, Res.ok.injEq] at hlo
    obtain ⟨rfl, rfl⟩ := hlo
    rw [List.append_nil] at hr
    subst hr
    have hfin := TRg.mono x hfin
    cases mu with
    | false =>
      have hfin : TRg T W (Rp T) σ F G m (.ok (.lst acc) s) Q := hfin
      have gp : G D = none := r.fG D _ upd_same
      exact hfin _ m H _ (Ext.upd gp) (r.own hFD) (.lst upd_same (ra.mono (Ext.upd gp)))
    | true =>
      have hfin : TRg T W (Rp T) σ F G m (.ok (.ref s.nx) (s.add (.lst false acc))) Q := hfin
      refine hfin G _ H _ (Ext.add (r.fresh _ (Nat.le_refl _))) (r.ownC hFD ra) (.ref ?_)
      show (if s.nx = s.nx then some D else m s.nx) = some D
      rw [if_pos rfl]
end Mi
set_option Elab.async false
set_option linter.all false
set_option maxRecDepth 100000
set_option maxHeartbeats 400000
/-! Mi14: the rules of expressions, as readings. -/
namespace Mi
open PySem PySem.Spec PyProof.Rows L2
theorem PE.mono {X : Cx} {e : Expr} {t t' : TE} (h : PE X e t) (k : ∀ σ H Q, t' σ H Q → t σ H Q) : PE X e t' := ⟨fun pins s σ H Q I q => h.run pins s σ H Q I (k σ H Q q)⟩
theorem PT.mono {X : Cx} {e : Expr} {t t' : TT} (h : PT X e t) (k : ∀ σ H Q, t' σ H Q → t σ H Q) : PT X e t' := ⟨fun pins s σ H Q I q => h.run pins s σ H Q I (k σ H Q q)⟩
theorem PW.mono {X : Cx} {e : Expr} {t t' : TT} (h : PW X e t) (k : ∀ σ H Q, t' σ H Q → t σ H Q) : PW X e t' := ⟨fun w pins s σ H Q I q => h.run w pins s σ H Q I (k σ H Q q)⟩
theorem PA.mono {X : Cx} {es : List Expr} {t t' : TA} (h : PA X es t) (k : ∀ σ H Q, t' σ H Q → t σ H Q) : PA X es t' := ⟨fun p pins s σ H Q I q => h.run p pins s σ H Q I (k σ H Q q)⟩
theorem PI.mono {X : Cx} {tg e : Expr} {t t' : TI} (h : PI X tg e t) (k : ∀ σ H Q, t' σ H Q → t σ H Q) : PI X tg e t' := ⟨fun pins s σ H R I q => h.run pins s σ H R I (k σ H R q)⟩
theorem PO.mono {X : Cx} {e : Option Expr} {t t' : TO} (h : PO X e t) (k : ∀ σ H Q, t' σ H Q → t σ H Q) : PO X e t' := ⟨fun pins s σ H Q I q => h.run pins s σ H Q I (k σ H Q q)⟩
abbrev eRd (T : Tb) (W : WX) (ev : Tau → S → Res D) : TE := tRd T W (Rp T) ev
abbrev aRd (T : Tb) (W : WX) (ev : Tau → S → Res (List D)) : TA := tRd T W (Rps T) ev
abbrev oRd (T : Tb) (W : WX) (ev : Tau → S → Res (Option Int)) : TO := tRd T W (fun _ _ (a b : Option Int) => a = b) ev
/-- a value as a test -/
def asB (d : D) (s : S) : Res Bool := match d with
  | .bl b => .ok b s
  | _ => .stuck
section
variable {X : Cx} {fa ca : Nat → Addr} {W : WX} {c : Cc} {a b e : Expr} {pos : Pos} {eva evb evd : Tau → S → Res D}
theorem two_rd {T : Tb} {α β : Type} {Rel : Hp → Mm → α → β → Prop} {k : D → D → S → Res α} {σ : L2.St} {H : Hp} {Q : β → Hp → Prop} {P : V → V → Hp → Prop} (h : tRd T W Rel (fun τ s => (eva τ s).bind fun x s1 => (evb τ s1).bind fun y s2 => k x y s2) σ H Q)
    (fin : ∀ F G m s d e x y H, R T F G m s H → Rp T G m d x → Rp T G m e y → TRg T W Rel σ F G m (k d e s) Q → P x y H) : eRd T W eva σ H fun x H1 => eRd T W evb σ H1 fun y H2 => P x y H2 := by
  obtain ⟨F, G, m, s, τ, r, hs, h⟩ := h
  refine tRd.bind (f := fun x s1 => (evb τ s1).bind fun y s2 => k x y s2) r hs h fun d1 s1 G1 m1 H1 v1 e1 r1 hs1 rv1 h1 => ?_
  exact tRd.bind (f := fun y s2 => k d1 y s2) r1 hs1 h1 fun d2 s2 G2 m2 H2 v2 e2 r2 hs2 rv2 h2 => fin F G2 m2 s2 d1 d2 v1 v2 H2 r2 (rv1.mono e2) rv2 h2
theorem rd_bin (o : Bo) (ha : PE X a (eRd (tb X fa ca) W eva)) (hb : PE X b (eRd (tb X fa ca) W evb)) : PE X (.BinOp a (opBo o) b pos) (eRd (tb X fa ca) W fun τ s => (eva τ s).bind fun x s1 => (evb τ s1).bind fun y s2 => evBin o x y s2) := by
  refine ⟨fun pins s σ H Q I h => (pe_op (pos := pos) (op_bin (fa := fa) (ca := ca) (W := W) (σ₀ := σ) o) ha hb).run pins s σ H Q I (two_rd h fun F G m s d e x y H r rd re h => ⟨F, G, m, s, d, e, r, rd, re, h⟩)⟩
theorem rd_cmp (hu : X.A.units + 80 < cLine) (o : Co) (ha : PE X a (eRd (tb X fa ca) W eva)) (hb : PE X b (eRd (tb X fa ca) W evb)) (hm : behindInMarks (opCo o) b = false) :
    PE X (.Compare a [opCo o] [b] pos) (eRd (tb X fa ca) W fun τ s => (eva τ s).bind fun x s1 => (evb τ s1).bind fun y s2 => evCmp o x y s2) :=
  ⟨fun pins s σ H Q I h => (pe_cmpR (pos := pos) (op_cmp (fa := fa) (ca := ca) (W := W) (σ₀ := σ) hu o) ha hb hm).run pins s σ H Q I (two_rd h fun F G m s d e x y H r rd re h => ⟨F, G, m, s, d, e, r, rd, re, h⟩)⟩
theorem bl_rp {T : Tb} {G : Hp} {m : Mm} {d : D} {b : Bool} (r : Rp T G m d (.bl b)) : d = .bl b := by cases r; rfl
theorem TRg.asB {T : Tb} {α : Type} {β : Type} {Rel : Hp → Mm → α → β → Prop} {σ : L2.St} {F G H : Hp} {m : Mm} {d : D} {s : S} {f : Bool → S → Res α} {Q : β → Hp → Prop} {v : V} (rv : Rp T G m d v) (h : TRg T W Rel σ F G m ((asB d s).bind f) Q) : ∃ b, v = .bl b ∧ d = .bl b ∧ TRg T W Rel σ F G m (f b s) Q := by
  cases rv with
  | bl b => exact ⟨b, rfl, rfl, h⟩
  | _ => exact (show False from h).elim
/-- a test's reading from the value's -/
theorem test_rd {ev : Tau → S → Res D} {σ : L2.St} {H : Hp} {Q : Bool → Hp → Prop} {T : Tb} (h : bRd T W (fun τ s => (ev τ s).bind asB) σ H Q) : eRd T W ev σ H fun x H' => ∃ k, x = .bl k ∧ Q k H' := by
  obtain ⟨F, G, m, s, τ, r, hs, h⟩ := h
  refine ⟨F, G, m, s, τ, r, hs, TRg.bind h fun d1 s1 G1 m1 H1 v1 e1 r1 rv1 h1 => ?_⟩
  cases rv1 with
  | bl b => exact ⟨b, rfl, TRg.ok (show TRg T W (fun _ _ (a b : Bool) => a = b) σ F G1 m1 (.ok b s1) Q from h1) r1 rfl⟩
  | _ => exact (show False from h1).elim
theorem rt_cmp (hu : X.A.units + 80 < cLine) (o : Co) (ha : PE X a (eRd (tb X fa ca) W eva)) (hb : PE X b (eRd (tb X fa ca) W evb)) (hm : behindInMarks (opCo o) b = false) :
    PT X (.Compare a [opCo o] [b] pos) (bRd (tb X fa ca) W fun τ s => ((eva τ s).bind fun x s1 => (evb τ s1).bind fun y s2 => evCmp o x y s2).bind asB) :=
  ⟨fun pins s σ H Q I h => (pt_cmpR (pos := pos) (op_cmp (fa := fa) (ca := ca) (W := W) (σ₀ := σ) hu o) ha hb hm).run pins s σ H Q I (two_rd (test_rd h) fun F G m s d e x y H r rd re h => ⟨F, G, m, s, d, e, r, rd, re, h⟩)⟩
theorem bind_asB (r : Res D) : r.bind asB = (r.bind asB).bind fun b s => .ok b s := by
  cases r with
  | ok d s => cases d <;> rfl
  | _ => rfl
/-- a test of any plain form, by its value -/
theorem rt_val (ha : PE X a (eRd (tb X fa ca) W eva)) (he : ∀ whole, isTrue a X.env whole = (do let v ← whole; standAt a.pos; holding [v] (truthy v))) : PT X a (bRd (tb X fa ca) W fun τ s => (eva τ s).bind asB) :=
  PT.mono (pt_val ha he) fun σ H Q h => test_rd h
/-! ### not, and, or -/
abbrev evNo (ev : Tau → S → Res D) : Tau → S → Res D := fun τ s => (ev τ s).bind fun x s1 => match x with
    | .bl b => .ok (.bl (!b)) s1
    | _ => .stuck
abbrev evAnd (eva evb : Tau → S → Res D) : Tau → S → Res D := fun τ s => (eva τ s).bind fun x s1 => match x with
    | .bl true => (evb τ s1).bind fun y s2 => match y with
      | .bl r => .ok (.bl r) s2
      | _ => .stuck
    | .bl false => .ok (.bl false) s1
    | _ => .stuck
abbrev evOr (eva evb : Tau → S → Res D) : Tau → S → Res D := fun τ s => (eva τ s).bind fun x s1 => match x with
    | .bl false => (evb τ s1).bind fun y s2 => match y with
      | .bl r => .ok (.bl r) s2
      | _ => .stuck
    | .bl true => .ok (.bl true) s1
    | _ => .stuck
theorem rd_no (ha : PE X a (eRd (tb X fa ca) W eva)) : PE X (.UnaryOp .Not a pos) (eRd (tb X fa ca) W (evNo eva)) := by
  refine PE.mono (pe_not ha) fun σ H Q ⟨F, G, m, s, τ, r, hs, h⟩ => ?_
  exact tRd.bind r hs h fun d1 s1 G1 m1 H1 v1 e1 r1 hs1 rv1 h1 => by
    cases rv1 with
    | bl b => exact ⟨b, rfl, TRg.ok h1 r1 (.bl _)⟩
    | _ => exact (show False from h1).elim
theorem rd_and {rest : List Expr} (ha : PE X a (eRd (tb X fa ca) W eva)) (hb : PE X (.BoolOp .And (b :: rest) pos) (eRd (tb X fa ca) W evb)) : PE X (.BoolOp .And (a :: b :: rest) pos) (eRd (tb X fa ca) W (evAnd eva evb)) := by
  refine PE.mono (pe_and ha hb) fun σ H Q ⟨F, G, m, s, τ, r, hs, h⟩ => ?_
  exact tRd.bind r hs h fun d1 s1 G1 m1 H1 v1 e1 r1 hs1 rv1 h1 => by
    cases rv1 with
    | bl b =>
      cases b with
      | false => exact ⟨false, rfl, TRg.ok h1 r1 (.bl _)⟩
      | true =>
        refine ⟨true, rfl, ?_⟩
        rw [if_pos rfl]
        exact tRd.bind r1 hs1 h1 fun d2 s2 G2 m2 H2 v2 e2 r2 hs2 rv2 h2 => by
          cases rv2 with
          | bl b => exact TRg.ok h2 r2 (.bl _)
          | _ => exact (show False from h2).elim
    | _ => exact (show False from h1).elim
theorem rd_or {rest : List Expr} (ha : PE X a (eRd (tb X fa ca) W eva)) (hb : PE X (.BoolOp .Or (b :: rest) pos) (eRd (tb X fa ca) W evb)) : PE X (.BoolOp .Or (a :: b :: rest) pos) (eRd (tb X fa ca) W (evOr eva evb)) := by
  refine PE.mono (pe_or ha hb) fun σ H Q ⟨F, G, m, s, τ, r, hs, h⟩ => ?_
  exact tRd.bind r hs h fun d1 s1 G1 m1 H1 v1 e1 r1 hs1 rv1 h1 => by
    cases rv1 with
    | bl b =>
      cases b with
      | true => exact ⟨true, rfl, TRg.ok h1 r1 (.bl _)⟩
      | false =>
        refine ⟨false, rfl, ?_⟩
        rw [if_neg Bool.false_ne_true]
        exact tRd.bind r1 hs1 h1 fun d2 s2 G2 m2 H2 v2 e2 r2 hs2 rv2 h2 => by
          cases rv2 with
          | bl b => exact TRg.ok h2 r2 (.bl _)
          | _ => exact (show False from h2).elim
    | _ => exact (show False from h1).elim
/-- a test's reading, by what the value's evaluation is -/
abbrev tbRd (T : Tb) (W : WX) (ev : Tau → S → Res D) : TT := bRd T W fun τ s => (ev τ s).bind asB
theorem rt_no (ha : PT X a (tbRd (tb X fa ca) W eva)) : PT X (.UnaryOp .Not a pos) (tbRd (tb X fa ca) W (evNo eva)) := by
  refine PT.mono (pt_not ha) fun σ H Q ⟨F, G, m, s, τ, r, hs, h⟩ => ⟨F, G, m, s, τ, r, hs, ?_⟩
  have h : TRg (tb X fa ca) W (fun _ _ (a b : Bool) => a = b) σ F G m ((evNo eva τ s).bind asB) Q := h
  cases e : eva τ s with
  | stuck => simp only [evNo, e] at h; exact h.elim
  | exc x s1 => simp only [evNo, e] at h ⊢; exact h
  | ok d s1 =>
    simp only [evNo, e] at h ⊢
    cases d with
    | bl b =>
      have h : TRg (tb X fa ca) W (fun _ _ (a b : Bool) => a = b) σ F G m (.ok (!b) s1) Q := h
      show TRg (tb X fa ca) W (fun _ _ (a b : Bool) => a = b) σ F G m (.ok b s1) _
      rintro G' m' H' b' x r' rfl
      exact h G' m' H' _ x r' rfl
    | _ => exact h.elim
theorem rt_one {op : BoolOp} (h : PT X a (tbRd (tb X fa ca) W eva)) (hop : op = .And ∨ op = .Or) : PW X (.BoolOp op [a] pos) (tbRd (tb X fa ca) W eva) := by
  rcases hop with rfl | rfl
  · exact pw_and1 h
  · exact pw_or1 h
theorem rt_and {rest : List Expr} (ha : PT X a (tbRd (tb X fa ca) W eva)) (hb : PW X (.BoolOp .And (b :: rest) pos) (tbRd (tb X fa ca) W evb)) : PW X (.BoolOp .And (a :: b :: rest) pos) (tbRd (tb X fa ca) W (evAnd eva evb)) := by
  refine PW.mono (pw_and ha hb) fun σ H Q ⟨F, G, m, s, τ, r, hs, h⟩ => ⟨F, G, m, s, τ, r, hs, ?_⟩
  have h : TRg (tb X fa ca) W (fun _ _ (a b : Bool) => a = b) σ F G m ((evAnd eva evb τ s).bind asB) Q := h
  cases e : eva τ s with
  | stuck => simp only [evAnd, e] at h; exact h.elim
  | exc x s1 => simp only [evAnd, e] at h ⊢; exact h
  | ok d s1 =>
    simp only [evAnd, e] at h ⊢
    cases d with
    | bl q =>
      cases q with
      | false =>
        have h : TRg (tb X fa ca) W (fun _ _ (a b : Bool) => a = b) σ F G m (.ok false s1) Q := h
        show TRg (tb X fa ca) W (fun _ _ (a b : Bool) => a = b) σ F G m (.ok false s1) _
        rintro G' m' H' b' x r' rfl
        rw [if_neg Bool.false_ne_true]
        exact h G' m' H' _ x r' rfl
      | true =>
        show TRg (tb X fa ca) W (fun _ _ (a b : Bool) => a = b) σ F G m (.ok true s1) _
        rintro G' m' H' b' x r' rfl
        rw [if_pos rfl]
        refine ⟨F, G', m', s1, τ, r', hs.mono x, TRg.mono x ?_⟩
        have h : TRg (tb X fa ca) W (fun _ _ (a b : Bool) => a = b) σ F G m (((evb τ s1).bind fun y s2 => match y with
          | .bl r => .ok (.bl r) s2
          | _ => .stuck).bind asB) Q := h
        show TRg (tb X fa ca) W (fun _ _ (a b : Bool) => a = b) σ F G m ((evb τ s1).bind asB) Q
        cases e2 : evb τ s1 with
        | stuck => rw [e2] at h; exact h.elim
        | exc y s2 => rw [e2] at h; exact h
        | ok d2 s2 =>
          rw [e2] at h
          cases d2 <;> exact h
    | _ => exact h.elim
theorem rt_or {rest : List Expr} (ha : PT X a (tbRd (tb X fa ca) W eva)) (hb : PW X (.BoolOp .Or (b :: rest) pos) (tbRd (tb X fa ca) W evb)) : PW X (.BoolOp .Or (a :: b :: rest) pos) (tbRd (tb X fa ca) W (evOr eva evb)) := by
  refine PW.mono (pw_or ha hb) fun σ H Q ⟨F, G, m, s, τ, r, hs, h⟩ => ⟨F, G, m, s, τ, r, hs, ?_⟩
  have h : TRg (tb X fa ca) W (fun _ _ (a b : Bool) => a = b) σ F G m ((evOr eva evb τ s).bind asB) Q := h
  cases e : eva τ s with
  | stuck => simp only [evOr, e] at h; exact h.elim
  | exc x s1 => simp only [evOr, e] at h ⊢; exact h
  | ok d s1 =>
    simp only [evOr, e] at h ⊢
    cases d with
    | bl q =>
      cases q with
      | true =>
        have h : TRg (tb X fa ca) W (fun _ _ (a b : Bool) => a = b) σ F G m (.ok true s1) Q := h
        show TRg (tb X fa ca) W (fun _ _ (a b : Bool) => a = b) σ F G m (.ok true s1) _
        rintro G' m' H' b' x r' rfl
        rw [if_pos rfl]
        exact h G' m' H' _ x r' rfl
      | false =>
        show TRg (tb X fa ca) W (fun _ _ (a b : Bool) => a = b) σ F G m (.ok false s1) _
        rintro G' m' H' b' x r' rfl
        rw [if_neg Bool.false_ne_true]
        refine ⟨F, G', m', s1, τ, r', hs.mono x, TRg.mono x ?_⟩
        have h : TRg (tb X fa ca) W (fun _ _ (a b : Bool) => a = b) σ F G m (((evb τ s1).bind fun y s2 => match y with
          | .bl r => .ok (.bl r) s2
          | _ => .stuck).bind asB) Q := h
        show TRg (tb X fa ca) W (fun _ _ (a b : Bool) => a = b) σ F G m ((evb τ s1).bind asB) Q
        cases e2 : evb τ s1 with
        | stuck => rw [e2] at h; exact h.elim
        | exc y s2 => rw [e2] at h; exact h
        | ok d2 s2 =>
          rw [e2] at h
          cases d2 <;> exact h
    | _ => exact h.elim
/-! ### chains -/
abbrev evChain (o p : Co) (eva evb evd : Tau → S → Res D) : Tau → S → Res D := fun τ s => (eva τ s).bind fun x s1 => (evb τ s1).bind fun y s2 => (evCmp o x y s2).bind fun r s3 => match r with
    | .bl true => (evd τ s3).bind fun z s4 => evCmp p y z s4
    | .bl false => .ok (.bl false) s3
    | _ => .stuck
theorem chain_rd (o p : Co) {σ : L2.St} {H : Hp} {Q : VK} (h : eRd (tb X fa ca) W (evChain o p eva evb evd) σ H Q) :
    tChain (rO (tb X fa ca) W σ (evCmp o)) (rO (tb X fa ca) W σ (evCmp p)) (eRd (tb X fa ca) W eva) (eRd (tb X fa ca) W evb) (eRd (tb X fa ca) W evd) σ H Q := by
  obtain ⟨F, G, m, s, τ, r, hs, h⟩ := h
  exact tRd.bind r hs h fun d1 s1 G1 m1 H1 v1 e1 r1 hs1 rv1 h1 => tRd.bind r1 hs1 h1 fun d2 s2 G2 m2 H2 v2 e2 r2 hs2 rv2 h2 => ⟨F, G2, m2, s2, d1, d2, r2, rv1.mono e2, rv2,
    TRg.bind h2 fun d3 s3 G3 m3 H3 v3 e3 r3 rv3 h3 => by
      cases rv3 with
      | bl q =>
        refine ⟨q, rfl, ?_⟩
        cases q with
        | false =>
          rw [if_neg Bool.false_ne_true]
          exact TRg.ok h3 r3 (.bl _)
        | true =>
          rw [if_pos rfl]
          exact tRd.bind r3 (hs2.mono e3) h3 fun d4 s4 G4 m4 H4 v4 e4 r4 hs4 rv4 h4 => ⟨F, G4, m4, s4, d2, d4, r4, (rv2.mono e3).mono e4, rv4, h4⟩
      | _ => exact (show False from h3).elim⟩
theorem rd_chain {d : Expr} (hu : X.A.units + 80 < cLine) (o p : Co) (ha : PE X a (eRd (tb X fa ca) W eva)) (hb : PE X b (eRd (tb X fa ca) W evb)) (hd : PE X d (eRd (tb X fa ca) W evd)) (hm : lastMarks [opCo o, opCo p] [b, d] = false) :
    PE X (.Compare a [opCo o, opCo p] [b, d] pos) (eRd (tb X fa ca) W (evChain o p eva evb evd)) :=
  ⟨fun pins s σ H Q I h => (pe_chain (pos := pos) (op_cmp (fa := fa) (ca := ca) (W := W) (σ₀ := σ) hu o) (op_cmp (fa := fa) (ca := ca) (W := W) (σ₀ := σ) hu p) ha hb hd hm).run pins s σ H Q I (chain_rd o p h)⟩
theorem rt_chain {d : Expr} (hu : X.A.units + 80 < cLine) (o p : Co) (ha : PE X a (eRd (tb X fa ca) W eva)) (hb : PE X b (eRd (tb X fa ca) W evb)) (hd : PE X d (eRd (tb X fa ca) W evd)) (hm : lastMarks [opCo o, opCo p] [b, d] = false) :
    PT X (.Compare a [opCo o, opCo p] [b, d] pos) (tbRd (tb X fa ca) W (evChain o p eva evb evd)) :=
  ⟨fun pins s σ H Q I h => (pt_chain (pos := pos) (op_cmp (fa := fa) (ca := ca) (W := W) (σ₀ := σ) hu o) (op_cmp (fa := fa) (ca := ca) (W := W) (σ₀ := σ) hu p) ha hb hd hm).run pins s σ H Q I (chain_rd o p (test_rd h))⟩
theorem rd_ife {t : Expr} {evt : Tau → S → Res D} (ht : PT X t (tbRd (tb X fa ca) W evt)) (ha : PE X a (eRd (tb X fa ca) W eva)) (hb : PE X b (eRd (tb X fa ca) W evb)) : PE X (.IfExp t a b pos) (eRd (tb X fa ca) W fun τ s => (evt τ s).bind fun x s1 => match x with
    | .bl true => eva τ s1
    | .bl false => evb τ s1
    | _ => .stuck) := by
  refine PE.mono (pe_ifExp ht ha hb) fun σ H Q ⟨F, G, m, s, τ, r, hs, h⟩ => ⟨F, G, m, s, τ, r, hs, ?_⟩
  cases e : evt τ s with
  | stuck => simp only [e] at h; exact h.elim
  | exc x s1 => simp only [e] at h ⊢; exact h
  | ok d s1 =>
    simp only [e] at h ⊢
    cases d with
    | bl q =>
      show TRg (tb X fa ca) W (fun _ _ (a b : Bool) => a = b) σ F G m (.ok q s1) _
      rintro G' m' H' b' x r' rfl
      cases q with
      | true => rw [if_pos rfl]; exact ⟨F, G', m', s1, τ, r', hs.mono x, TRg.mono x h⟩
      | false => rw [if_neg Bool.false_ne_true]; exact ⟨F, G', m', s1, τ, r', hs.mono x, TRg.mono x h⟩
    | _ => exact (show False from h).elim
end
end Mi
set_option Elab.async false
set_option linter.all false
set_option maxRecDepth 100000
set_option maxHeartbeats 400000
/-! Mi15: more rules of expressions; sources. -/
namespace Mi
open PySem PySem.Spec PyProof.Rows L2
def notStar : Expr → Bool
  | .Starred _ _ => false
  | _ => true
theorem star_cons {e : Expr} {es : List Expr} {env : Env} (h : notStar e = true) : starEach (e :: es) env = (false, eval e env) :: starEach es env := by
  cases e <;> first | rfl | (simp [notStar] at h)
def notStars (es : List Expr) : Bool := es.all notStar
theorem plain_all {pos : Pos} {env : Env} : ∀ {es : List Expr}, notStars es = true → (backTo pos (starEach es env)).any (·.1) = false
  | [], _ => rfl
  | e :: es, h => by
    have q := Bool.and_eq_true_iff.mp (show (notStar e && es.all notStar) = true from h)
    rw [star_cons q.1]
    show (false || (backTo pos (starEach es env)).any (·.1)) = false
    rw [Bool.false_or]
    exact plain_all q.2
section
variable {X : Cx} {fa ca : Nat → Addr} {W : WX} {c : Cc} {a b e : Expr} {es : List Expr} {pos p : Pos} {eva evb : Tau → S → Res D} {evs : Tau → S → Res (List D)}
theorem one_rd {T : Tb} {α β : Type} {Rel : Hp → Mm → α → β → Prop} {k : D → S → Res α} {σ : L2.St} {H : Hp} {Q : β → Hp → Prop} {P : V → Hp → Prop} (h : tRd T W Rel (fun τ s => (eva τ s).bind k) σ H Q)
    (fin : ∀ F G m s d x H, R T F G m s H → Rp T G m d x → TRg T W Rel σ F G m (k d s) Q → P x H) : eRd T W eva σ H P := by
  obtain ⟨F, G, m, s, τ, r, hs, h⟩ := h
  exact tRd.bind r hs h fun d1 s1 G1 m1 H1 v1 e1 r1 hs1 rv1 h1 => fin F G1 m1 s1 d1 v1 H1 r1 rv1 h1
theorem many_rd {T : Tb} {α β : Type} {Rel : Hp → Mm → α → β → Prop} {k : List D → S → Res α} {σ : L2.St} {H : Hp} {Q : β → Hp → Prop} {P : List V → Hp → Prop} (h : tRd T W Rel (fun τ s => (evs τ s).bind k) σ H Q)
    (fin : ∀ F G m s ds xs H, R T F G m s H → Rps T G m ds xs → TRg T W Rel σ F G m (k ds s) Q → P xs H) : aRd T W evs σ H P := by
  obtain ⟨F, G, m, s, τ, r, hs, h⟩ := h
  exact tRd.bind r hs h fun d1 s1 G1 m1 H1 v1 e1 r1 hs1 rv1 h1 => fin F G1 m1 s1 d1 v1 H1 r1 rv1 h1
/-! ### names and constants -/
theorem rd_slot {i : Nat} {x : Str} (hN : X.N[i]? = some x) (hv : Vis X.env.scope x) (hd : (x == ("__debug__" : Str)) = false) (hcd : (x == ("__classdict__" : Str)) = false) :
    PE X (.Name x pos) (eRd (tb X fa ca) W fun τ s => match τ[i]? with
      | some (some d) => .ok d s
      | _ => .stuck) := by
  refine PE.mono (pe_var hN hv hd hcd) fun σ H Q ⟨F, G, m, s, τ, r, hs, h⟩ => ?_
  cases e : τ[i]? with
  | none => simp only [e] at h; exact h.elim
  | some o =>
    simp only [e] at h
    cases o with
    | none => exact h.elim
    | some d =>
      obtain ⟨v, e1, e2⟩ := hs.at_ i d e
      exact ⟨v, e1, TRg.ok h r e2⟩
theorem rd_const {v : V} {d : D} (h : PE X e (tC v)) (hr : ∀ G m, Rp (tb X fa ca) G m d v) : PE X e (eRd (tb X fa ca) W fun _ s => .ok d s) :=
  PE.mono h fun σ H Q ⟨F, G, m, s, τ, r, hs, h⟩ => TRg.ok (show TRg (tb X fa ca) W (Rp (tb X fa ca)) σ F G m (.ok d s) Q from h) r (hr G m)
theorem rd_frz (ha : PE X a (eRd (tb X fa ca) W eva)) : PE X a (eRd (tb X fa ca) W fun τ s => (eva τ s).bind evFrz) := by
  refine PE.mono ha fun σ H Q h => one_rd h fun F G m s d x H r rd h => ?_
  have q := frz_ok r rd
  cases e : evFrz d s with
  | stuck => rw [e] at h; exact h.elim
  | exc y s1 => rw [e] at q; exact q.elim
  | ok d1 s1 =>
    rw [e] at q h
    obtain ⟨G1, x1, r1, rd1⟩ := q
    exact h G1 m H x x1 r1 rd1
theorem rd_neg (ha : PE X a (eRd (tb X fa ca) W eva)) : PE X (.UnaryOp .USub a pos) (eRd (tb X fa ca) W fun τ s => (eva τ s).bind fun x s1 => match x with
    | .int i => .ok (.int (-i)) s1
    | _ => .stuck) := by
  refine PE.mono (pe_un un_neg ha) fun σ H Q h => one_rd h fun F G m s d x H r rd h => ?_
  cases rd with
  | int i => exact ⟨i, rfl, TRg.ok (show TRg (tb X fa ca) W (Rp (tb X fa ca)) σ F G m (.ok (.int (-i)) s) Q from h) r (.int _)⟩
  | _ => exact (show False from h).elim
/-! ### lists of expressions -/
theorem ra_nil : PA X [] (aRd (tb X fa ca) W fun _ s => .ok [] s) :=
  PA.mono pa_nil fun σ H Q ⟨F, G, m, s, τ, r, hs, h⟩ => TRg.ok (show TRg (tb X fa ca) W (Rps (tb X fa ca)) σ F G m (.ok [] s) Q from h) r .nil
theorem ra_cons (ha : PE X a (eRd (tb X fa ca) W eva)) (hr : PA X es (aRd (tb X fa ca) W evs)) (hs : notStar a = true) : PA X (a :: es) (aRd (tb X fa ca) W fun τ s => (eva τ s).bind fun d s1 => (evs τ s1).bind fun ds s2 => .ok (d :: ds) s2) := by
  refine PA.mono (pa_cons ha hr (star_cons hs)) fun σ H Q ⟨F, G, m, s, τ, r, hs, h⟩ => ?_
  exact tRd.bind r hs h fun d1 s1 G1 m1 H1 v1 e1 r1 hs1 rv1 h1 => tRd.bind r1 hs1 h1 fun d2 s2 G2 m2 H2 v2 e2 r2 hs2 rv2 h2 => TRg.ok h2 r2 (.cons (rv1.mono e2) rv2)
theorem rd_tup {x1} (h : PA X es (aRd (tb X fa ca) W evs)) : PE X (.Tuple es x1 pos) (eRd (tb X fa ca) W fun τ s => (evs τ s).bind fun ds s1 => if fits ds then .ok (.tup ds) s1 else .stuck) := by
  refine PE.mono (pe_tup h) fun σ H Q h => many_rd h fun F G m s ds xs H r rd h => ?_
  obtain ⟨hf, h⟩ := TRg.ite h
  exact ⟨by rw [← rd.length]; exact fits_len hf, h.new r fun p hp => .tup (SqT.of upd_same) (rd.mono (Ext.upd (none_of_sub r.gH hp)))⟩
theorem rd_lst (h : PA X es (aRd (tb X fa ca) W evs)) : PE X (.List es pos) (eRd (tb X fa ca) W fun τ s => (evs τ s).bind fun ds s1 => if fits ds then .ok (.lst ds) s1 else .stuck) := by
  refine PE.mono (pe_lst h) fun σ H Q h => many_rd h fun F G m s ds xs H r rd h => ?_
  obtain ⟨hf, h⟩ := TRg.ite h
  exact ⟨by rw [← rd.length]; exact fits_len hf, h.new r fun p hp => .lst upd_same (rd.mono (Ext.upd (none_of_sub r.gH hp)))⟩
theorem rd_cell (h : PA X es (aRd (tb X fa ca) W evs)) : PE X (.List es pos) (eRd (tb X fa ca) W fun τ s => (evs τ s).bind fun ds s1 => if fits ds then .ok (.ref s1.nx) (s1.add (.lst false ds)) else .stuck) := by
  refine PE.mono (pe_lst h) fun σ H Q h => many_rd h fun F G m s ds xs H r rd h => ?_
  obtain ⟨hf, h⟩ := TRg.ite h
  exact ⟨by rw [← rd.length]; exact fits_len hf, TRg.cell r rd h⟩
/-! ### subscripts, slices -/
def plainIx : Expr → Bool
  | .Slice _ _ _ _ => false
  | _ => true
theorem plainIx_ok (h : plainIx b = true) : PlainIx b := by
  intro o i
  cases b <;> first | rfl | (simp [plainIx] at h)
theorem rd_ix (hu : X.A.units + 80 < cLine) (ha : PE X a (eRd (tb X fa ca) W eva)) (hb : PE X b (eRd (tb X fa ca) W evb)) (hp : plainIx b = true) : PE X (.Subscript a b pos) (eRd (tb X fa ca) W fun τ s => (eva τ s).bind fun x s1 => (evb τ s1).bind fun y s2 => evIx x y s2) :=
  ⟨fun pins s σ H Q I h => (pe_ix (pos := pos) (ix_all (fa := fa) (ca := ca) (W := W) (σ₀ := σ) hu) ha hb (plainIx_ok hp)).run pins s σ H Q I (two_rd h fun F G m s d e x y H r rd re h => ⟨F, G, m, s, d, e, r, rd, re, h⟩)⟩
theorem ro_no : PO X none (oRd (tb X fa ca) W fun _ s => .ok none s) :=
  PO.mono po_none fun σ H Q ⟨F, G, m, s, τ, r, hs, h⟩ => TRg.ok (show TRg (tb X fa ca) W (fun _ _ (a b : Option Int) => a = b) σ F G m (.ok none s) Q from h) r rfl
theorem ro_so (ha : PE X a (eRd (tb X fa ca) W eva)) : PO X (some a) (oRd (tb X fa ca) W fun τ s => (eva τ s).bind fun d s1 => match d with
    | .int i => .ok (some i) s1
    | _ => .stuck) := by
  refine PO.mono (po_some ha) fun σ H Q h => one_rd h fun F G m s d x H r rd h => ?_
  cases rd with
  | int i => exact ⟨i, rfl, TRg.ok (show TRg (tb X fa ca) W (fun _ _ (a b : Option Int) => a = b) σ F G m (.ok (some i) s) Q from h) r rfl⟩
  | _ => exact (show False from h).elim
theorem rd_sl {lo hi : Option Expr} {p2 : Pos} {evl evh : Tau → S → Res (Option Int)} (ha : PE X a (eRd (tb X fa ca) W eva)) (hl : PO X lo (oRd (tb X fa ca) W evl)) (hh : PO X hi (oRd (tb X fa ca) W evh)) :
    PE X (.Subscript a (.Slice lo hi none p2) pos) (eRd (tb X fa ca) W fun τ s => (eva τ s).bind fun x s1 => (evl τ s1).bind fun l s2 => (evh τ s2).bind fun h s3 => evSl x l h s3) := by
  refine ⟨fun pins s σ H Q I h => (pe_slice (pos := pos) (sl_all (fa := fa) (ca := ca) (W := W) (σ₀ := σ)) ha hl hh).run pins s σ H Q I ?_⟩
  obtain ⟨F, G, m, s, τ, r, hs, h⟩ := h
  refine tRd.bind r hs h fun d1 s1 G1 m1 H1 v1 e1 r1 hs1 rv1 h1 => ?_
  refine tRd.bind r1 hs1 h1 fun d2 s2 G2 m2 H2 v2 e2 r2 hs2 rv2 h2 => ?_
  subst rv2
  refine tRd.bind r2 hs2 h2 fun d3 s3 G3 m3 H3 v3 e3 r3 hs3 rv3 h3 => ?_
  subst rv3
  exact ⟨F, G3, m3, s3, d1, r3, (rv1.mono e2).mono e3, h3⟩
theorem rd_rev {k : Nat} {p1 p2 p3 : Pos} (ha : PE X a (eRd (tb X fa ca) W eva)) : PE X (.Subscript a (.Slice none none (some (.UnaryOp .USub (.Constant (.int 1) k p1) p2)) p3) pos) (eRd (tb X fa ca) W fun τ s => (eva τ s).bind evRev) :=
  PE.mono (pe_revL ha) fun σ H Q h => one_rd h fun F G m s d x H r rd h => rev_ok r rd h
/-! ### built-ins -/
theorem rd_bi {id : String} {x : Str} {ev : List D → S → Res D} (hc : ∀ σ₀, CallR X (.builtin id) (rC (tb X fa ca) W σ₀ ev)) (hg : Gl X x) (hm : X.mg x = none) (hv : bootBuiltins x = some (.builtin id)) (hn : x ≠ "__name__") (hdb : (x == ("__debug__" : Str)) = false)
    (ha : PA X (a :: es) (aRd (tb X fa ca) W evs)) (hst : notStars (a :: es) = true) : PE X (.Call (.Name x p) (a :: es) [] pos) (eRd (tb X fa ca) W fun τ s => (evs τ s).bind ev) := by
  have q := Bool.and_eq_true_iff.mp (show (notStar a && es.all notStar) = true from hst)
  exact ⟨fun pins s σ H Q I h => (pe_callB (p := p) (pos := pos) (hc σ) hg hm hv ha hn hdb (star_cons q.1) (plain_all q.2)).run pins s σ H Q I (many_rd h fun F G m s ds xs H r rd h => ⟨F, G, m, s, ds, r, rd, h⟩)⟩
theorem rd_biT {T : String} {x : Str} {ev : List D → S → Res D} (hc : ∀ σ₀, CallR X (.type T) (rC (tb X fa ca) W σ₀ ev)) (hg : Gl X x) (hm : X.mg x = none) (hv : bootBuiltins x = some (.type T)) (hn : x ≠ "__name__") (hdb : (x == ("__debug__" : Str)) = false)
    (ha : PA X (a :: es) (aRd (tb X fa ca) W evs)) (hst : notStars (a :: es) = true) : PE X (.Call (.Name x p) (a :: es) [] pos) (eRd (tb X fa ca) W fun τ s => (evs τ s).bind ev) := by
  have q := Bool.and_eq_true_iff.mp (show (notStar a && es.all notStar) = true from hst)
  exact ⟨fun pins s σ H Q I h => (pe_callTy (p := p) (pos := pos) (hc σ) hg hm hv ha hn hdb (star_cons q.1) (plain_all q.2)).run pins s σ H Q I (many_rd h fun F G m s ds xs H r rd h => ⟨F, G, m, s, ds, r, rd, h⟩)⟩
/-- the class that is handed to isinstance -/
def TyArg (H : Hp) (ts : List Ty) (v : V) : Prop := (∃ t, ts = [t] ∧ v = .ty t.nm) ∨ ∃ tp, v = .ref tp ∧ H tp = some (.tup (ts.map fun t => .ty t.nm))
def rIs (T : Tb) : List V → Hp → VK → Prop := fun xs H Q => ∃ F G m s d x v t ts, xs = [x, v] ∧ R T F G m s H ∧ Rp T G m d x ∧ s.tyOf d = some t ∧ TyArg H ts v ∧ Q (.bl (ts.any fun u => t.isa u)) H
theorem tys_vals : ∀ {ts : List Ty} {its : List Value}, Vals (ts.map fun t => V.ty t.nm) its → its = ts.map fun t => Value.type t.nm
  | [], _, .nil => rfl
  | t :: ts, _, .cons z1 z2 => by
    rw [tys_vals (ts := ts) z2, show _ = Value.type t.nm from z1]
    rfl
theorem call_is : CallR X (.builtin "isinstance") (rIs (tb X fa ca)) := by
  intro pins s σ H xs us Q I rv h
  obtain ⟨F, G, m, st, d, x, v, t, ts, rfl, r, rd, ht, ha, q⟩ := h
  obtain ⟨u1, u2, rfl, r1, r2⟩ := vals2 rv
  obtain ⟨P, Z, pp, hx⟩ := ty_kit I r rd r1 ht
  rcases ha with ⟨t1, rfl, rfl⟩ | ⟨tp, rfl, hT⟩
  · have e2 : u2 = .type t1.nm := r2
    subst e2
    refine PySem.W.kia_one Z I.kIn pp (kit_isa t t1) hx fun tk => ⟨.bl _, H, I.tok tk, rfl, ?_⟩
    simpa using q
  · cases (show u2 = Value.ref tp from r2)
    obtain ⟨_, its, rvs, o, h1, h2, n, h3⟩ := I.hok tp _ hT
    have e3 : its = ts.map fun t => .type t.nm := tys_vals rvs
    subst e3
    obtain ⟨oc, od, dt, sl⟩ := o
    simp only at h2 h3
    subst h2 h3
    exact PySem.W.kia_tup Z I.kIn pp h1 (kit_isas t ts) hx fun tk => ⟨.bl _, H, I.tok tk, rfl, q⟩
/-- a built-in type's name as a value -/
def tyName (t : Ty) : Str := match t with
  | .non => "NoneType"
  | .bl => "bool"
  | .int => "int"
  | .str => "str"
  | .tup => "tuple"
  | .lst => "list"
  | .dic => "dict"
theorem rd_isi1 {t : Ty} {x : Str} {p2 : Pos} (ha : PE X a (eRd (tb X fa ca) W eva)) (hst : notStar a = true) (hg : Gl X "isinstance") (hm : X.mg "isinstance" = none) (hgt : Gl X x) (hmt : X.mg x = none) (hv : bootBuiltins x = some (.type t.nm)) (hn : x ≠ "__name__") (hdb : (x == ("__debug__" : Str)) = false) :
    PE X (.Call (.Name "isinstance" p) [a, .Name x p2] [] pos) (eRd (tb X fa ca) W fun τ s => (eva τ s).bind fun x s1 => match s1.tyOf x with
      | some t' => .ok (.bl ([t].any fun u => t'.isa u)) s1
      | none => .stuck) := by
  have hpa : PA X [a, .Name x p2] (tCons (eRd (tb X fa ca) W eva) (tCons (tC (.ty t.nm)) tNil)) := pa_cons ha (pa_cons (pe_bltn hgt hmt hv rfl hn hdb) pa_nil) (star_cons hst)
  refine PE.mono (pe_callB (p := p) (pos := pos) (call_is (fa := fa) (ca := ca)) hg hm rfl hpa (by decide) (by decide) (star_cons hst) rfl) fun σ H Q h => one_rd h fun F G m s d x H r rd h => ?_
  cases e : s.tyOf d with
  | none => simp only [e] at h; exact h.elim
  | some t' =>
    simp only [e] at h
    exact ⟨F, G, m, s, d, x, _, t', [t], rfl, r, rd, e, .inl ⟨t, rfl, rfl⟩, TRg.ok h r (.bl _)⟩
/-- the names of built-in types, in a row -/
def tyNames (mgn : Str → Bool) (sc : Scope) : List Ty → List Expr → Bool
  | [], [] => true
  | t :: ts, .Name x _ :: es => decide (x = tyName t) && decide (t ≠ .non) && mgn x && decide (sc.names.lookup x = some .globalImplicit) && tyNames mgn sc ts es
  | _, _ => false
theorem tyName_ok {t : Ty} (h : t ≠ .non) : bootBuiltins (tyName t) = some (.type t.nm) ∧ tyName t ≠ "__name__" ∧ (tyName t == ("__debug__" : Str)) = false := by
  cases t <;> first | exact absurd rfl h | exact ⟨rfl, by decide, by decide⟩
theorem pa_tys {mgn : Str → Bool} (hmg : ∀ x, mgn x = true → X.mg x = none) : ∀ {ts : List Ty} {es : List Expr}, tyNames mgn X.env.scope ts es = true → PA X es (fun σ H Q => Q (ts.map fun t => .ty t.nm) H)
  | [], [], _ => pa_nil
  | [], _ :: _, h => by simp [tyNames] at h
  | _ :: _, [], h => by simp [tyNames] at h
  | t :: ts, e :: es, h => by
    cases e with
    | Name x p =>
      simp only [tyNames, Bool.and_eq_true, decide_eq_true_eq] at h
      obtain ⟨⟨⟨⟨rfl, h2⟩, h3⟩, h4⟩, h5⟩ := h
      obtain ⟨q1, q2, q3⟩ := tyName_ok h2
      exact PA.mono (pa_cons (pe_bltn (v := .ty t.nm) h4 (hmg _ h3) q1 rfl q2 q3) (pa_tys hmg h5)) fun σ H Q h => h
    | _ => simp [tyNames] at h
theorem rd_isiT {mgn : Str → Bool} {ts : List Ty} {x1 : Nat} {p2 : Pos} (ha : PE X a (eRd (tb X fa ca) W eva)) (hst : notStar a = true) (hg : Gl X "isinstance") (hm : X.mg "isinstance" = none) (hmg : ∀ x, mgn x = true → X.mg x = none) (ht : tyNames mgn X.env.scope ts es = true) (hl : ts.length < 10) :
    PE X (.Call (.Name "isinstance" p) [a, .Tuple es x1 p2] [] pos) (eRd (tb X fa ca) W fun τ s => (eva τ s).bind fun x s1 => match s1.tyOf x with
      | some t' => .ok (.bl (ts.any fun u => t'.isa u)) s1
      | none => .stuck) := by
  have hpa := pa_cons ha (pa_cons (pe_tup (x1 := x1) (pos := p2) (pa_tys hmg ht)) pa_nil) (star_cons hst)
  refine PE.mono (pe_callB (p := p) (pos := pos) (call_is (fa := fa) (ca := ca)) hg hm rfl hpa (by decide) (by decide) (star_cons hst) rfl) fun σ H Q h => one_rd h fun F G m s d x H r rd h => ?_
  refine ⟨by rw [List.length_map, sizeLine_eq]; omega, fun p hp => ?_⟩
  cases e : s.tyOf d with
  | none => simp only [e] at h; exact h.elim
  | some t' =>
    simp only [e] at h
    have x1 : Ext G m (upd G p (.tup (ts.map fun t => V.ty t.nm))) m := Ext.upd (none_of_sub r.gH hp)
    exact ⟨F, _, m, s, d, x, _, t', ts, rfl, r.imm hp, rd.mono x1, e, .inr ⟨p, rfl, upd_same⟩, h _ m _ _ x1 (r.imm hp) (.bl _)⟩
end
end Mi
set_option Elab.async false
set_option linter.all false
set_option maxRecDepth 100000
set_option maxHeartbeats 400000
/-! Mi16: methods; sources of loops and comprehensions. -/
namespace Mi
open PySem PySem.Spec PyProof.Rows L2
section
variable {X : Cx} {fa ca : Nat → Addr} {W : WX} {c : Cc} {a b e tg : Expr} {es : List Expr} {pos p : Pos} {eva evb evd : Tau → S → Res D} {evs : Tau → S → Res (List D)}
def nameM : Mt → Str
  | .append => "append"
  | .extend => "extend"
  | .index => "index"
  | .get => "get"
def notCall : Expr → Bool
  | .Call _ _ _ _ => false
  | _ => true
theorem base_of {o : Expr} {nm : Str} {env : Env} {w : Sem Value} (h : notCall o = true) : attributeBase o nm env w = w := by
  cases o <;> first | rfl | cases h
theorem rd_mt {o : Expr} {apos : Pos} (hb : notCall o = true) (hu : X.A.units + 80 < cLine) (mt : Mt) (hmt : mt ≠ .get) (ho : PE X o (eRd (tb X fa ca) W eva)) (hline : (apos.endLine == pos.line) = true) (ha : PA X [a] (aRd (tb X fa ca) W evs)) (hst : notStar a = true) :
    PE X (.Call (.Attribute o (nameM mt) apos) [a] [] pos) (eRd (tb X fa ca) W fun τ s => (eva τ s).bind fun x s1 => if (s1.items x).isSome then (evs τ s1).bind fun ds s2 => evMt mt x ds s2 else .stuck) := by
  have hfew : ((backTo pos (starEach [a] X.env)).all (fun x => !x.1) && (backToKw pos (keywordEach [] X.env)).all (fun x => x.1.isSome) && decide ([a].length + ([] : List Keyword).length + (if ([] : List Keyword).isEmpty then 0 else 1) < 30)) = true := by
    rw [star_cons hst]
    rfl
  have core : ∀ {t : TE} {σ : L2.St} {H : Hp} {Q : VK}, eRd (tb X fa ca) W (fun τ s => (eva τ s).bind fun x s1 => if (s1.items x).isSome then (evs τ s1).bind fun ds s2 => evMt mt x ds s2 else .stuck) σ H Q →
      tBM X.K "list" (rM (tb X fa ca) W σ (evMt mt)) (eRd (tb X fa ca) W eva) (aRd (tb X fa ca) W evs) σ H Q := by
    intro t σ H Q ⟨F, G, m, s, τ, r, hs, h⟩
    refine tRd.bind r hs h fun d1 s1 G1 m1 H1 v1 e1 r1 hs1 rv1 h1 => ?_
    obtain ⟨hi, h1⟩ := TRg.ite h1
    obtain ⟨ds, hds⟩ := Option.isSome_iff_exists.mp hi
    obtain ⟨q, vs, rfl, hH, _⟩ := r1.items hds rv1
    exact ⟨.inl ⟨rfl, vs, SqL.of hH⟩, tRd.bind r1 hs1 h1 fun d2 s2 G2 m2 H2 v2 e2 r2 hs2 rv2 h2 => ⟨F, G2, m2, s2, d1, d2, r2, rv1.mono e2, rv2, h2⟩⟩
  cases mt with
  | append => exact ⟨fun pins s σ H Q I h => (pe_bm (apos := apos) (cpos := pos) PySem.F.plainAttrs_list PySem.F.slot_list_append PySem.F.type_list_append (mt_all (fa := fa) (ca := ca) (W := W) (σ₀ := σ) hu .append) ho ha (base_of hb) hfew hline (star_cons hst) rfl).run pins s σ H Q I (core (t := fun _ _ _ => True) h)⟩
  | extend => exact ⟨fun pins s σ H Q I h => (pe_bm (apos := apos) (cpos := pos) PySem.F.plainAttrs_list PySem.F.slot_list_extend PySem.F.type_list_extend (mt_all (fa := fa) (ca := ca) (W := W) (σ₀ := σ) hu .extend) ho ha (base_of hb) hfew hline (star_cons hst) rfl).run pins s σ H Q I (core (t := fun _ _ _ => True) h)⟩
  | index => exact ⟨fun pins s σ H Q I h => (pe_bm (apos := apos) (cpos := pos) PySem.F.plainAttrs_list PySem.F.slot_list_index PySem.F.type_list_index (mt_all (fa := fa) (ca := ca) (W := W) (σ₀ := σ) hu .index) ho ha (base_of hb) hfew hline (star_cons hst) rfl).run pins s σ H Q I (core (t := fun _ _ _ => True) h)⟩
  | get => exact absurd rfl hmt

/-! ### sources -/
theorem walk_pi {pins : List (Addr × Obj)} {σ : L2.St} {F G H : Hp} {m : Mm} {s : Shared} {st : S} {d : D} {v : V} {u : Value} {Rr : It → Hp → Prop} (I : Inv X pins σ H s) (r : R (tb X fa ca) F G m st H) (rd : Rp (tb X fa ca) G m d v) (ru : RelV v u)
    (h : TRg (tb X fa ca) W (fun G m ds J => JOk (tb X fa ca) G m ds J) σ F G m (match st.walk d with | some ds => .ok ds st | none => .stuck) Rr) : wpAny (model X.prog X.w) X.A (pyIter u) (PIE X pins σ tg Rr) X.xe s := by
  have lists : ∀ (q : Addr) (ds : List D) (vs : List V), v = .ref q → G q = some (.lst vs) → Rps (tb X fa ca) G m ds vs → TRg (tb X fa ca) W (fun G m ds J => JOk (tb X fa ca) G m ds J) σ F G m (.ok ds st) Rr → wpAny (model X.prog X.w) X.A (pyIter u) (PIE X pins σ tg Rr) X.xe s := by
    intro q ds vs ev hG hr h
    subst ev
    cases ru
    obtain ⟨its, rv, pl, hz⟩ := I.list (SqL.of (K := X.K) (r.gH _ _ hG))
    exact wpAny_pyIter_list pl.isList (pi_one (tk := s.toks) I _ (turn_list q _) ⟨_, Heap.get?_push_size _ rfl, rfl, rfl⟩ (TRg.ok h r (jok_list hG hr)))
  cases rd with
  | @lst q vs ds h1 h2 => exact lists q ds vs rfl h1 h2 h
  | @tup q vs ds h1 h2 =>
    cases ru
    have h : TRg (tb X fa ca) W (fun G m ds J => JOk (tb X fa ca) G m ds J) σ F G m (.ok ds st) Rr := h
    obtain ⟨its, rv, pl, hz⟩ := I.tuple (SqT.sub r.gH h1)
    exact wpAny_pyIter_tuple (show s.heap.IsTuple q its.toArray from pl) (pi_one (tk := s.toks) I _ (turn_tuple q _) ⟨_, Heap.get?_push_size _ rfl, rfl, rfl⟩ (TRg.ok h r (jok_tup h1 h2)))
  | @dic q ho kvs ks vs h1 h2 h3 h4 h5 =>
    cases ru
    have h : TRg (tb X fa ca) W (fun G m ds J => JOk (tb X fa ca) G m ds J) σ F G m (.ok ks st) Rr := h
    obtain ⟨ob, es, ep, xs, rfl, g1, g2, g3, g4, g5, g6, g7⟩ := h2
    obtain ⟨hg, _, _⟩ := I.hok q _ (r.gH _ _ h1)
    have hes : es.toList.map (·.key) = (kvs.map (fun p => p.2.1)).map Value.ref := by
      rw [g3, List.map_map, List.map_map]
      clear h1 h3 h4 h5 g3 g4 g6 h
      induction g7 with
      | nil => rfl
      | cons z t ih => rw [List.map_cons, List.map_cons, ih]; congr 1; exact congrArg Value.ref z.2.1.symm
    have hk : Rps (tb X fa ca) G m ks ((kvs.map (fun p => p.2.1)).map V.ref) := by
      rw [List.map_map]
      exact h3
    refine iter_keys g5 hg g1 g2 (pi_one (tk := s.toks) I _ (turnK q _ g2 hes) ⟨_, Heap.get?_push_size _ rfl, rfl, rfl⟩ (TRg.ok h r (jok_keys h1 hk)))
  | @ref n q em =>
    cases z : st.get n with
    | none => simp only [S.walk, z] at h; exact h.elim
    | some cl =>
      simp only [S.walk, z] at h
      cases cl with
      | dic _ _ _ => exact h.elim
      | lst fz ds =>
        cases fz with
        | false => exact h.elim
        | true =>
          obtain ⟨q', vs, e1, _, h1, h2, h3, _⟩ := cell_lst r z (.ref em)
          cases e1
          exact lists q ds vs rfl (h3 rfl) h2 h
  | _ => exact (show False from h).elim
theorem ri_it (ha : PE X a (eRd (tb X fa ca) W eva)) : PI X tg a (iRd (tb X fa ca) W fun τ s => (eva τ s).bind fun d s1 => match s1.walk d with
    | some ds => .ok ds s1
    | none => .stuck) := by
  refine ⟨fun pins s σ H Rr I h => ?_⟩
  refine thn (ha.run pins s σ H (fun v H1 => ∃ F G m st d, R (tb X fa ca) F G m st H1 ∧ Rp (tb X fa ca) G m d v ∧ TRg (tb X fa ca) W (fun G m ds J => JOk (tb X fa ca) G m ds J) σ F G m (match st.walk d with | some ds => .ok ds st | none => .stuck) Rr) I (one_rd h fun F G m s d x H r rd h => ⟨F, G, m, s, d, r, rd, h⟩)) fun u s1 ⟨v, H1, I1, ru, F, G, m, st, d, r, rd, h⟩ => ?_
  exact walk_pi I1 r rd ru h
theorem small_of {i : Int} (h : small i = true) : -(2 ^ 62) ≤ i ∧ i < 2 ^ 62 := by
  have q := Bool.and_eq_true_iff.mp h
  exact ⟨of_decide_eq_true q.1, of_decide_eq_true q.2⟩
theorem ri_rng (hg : Gl X "range") (hm : X.mg "range" = none) (ha : PE X a (eRd (tb X fa ca) W eva)) (hst : notStar a = true) : PI X tg (.Call (.Name "range" p) [a] [] pos) (iRd (tb X fa ca) W fun τ s => (eva τ s).bind fun d s1 => match d with
    | .int j => if small j then .ok (rangeD 0 j.toNat) s1 else .stuck
    | _ => .stuck) := by
  refine PI.mono (pi_range1 hg hm (pa_cons ha pa_nil (star_cons hst)) (star_cons hst)) fun σ H Rr h => one_rd h fun F G m s d x H r rd h => ?_
  cases rd with
  | int j =>
    obtain ⟨hs, h⟩ := TRg.ite (show TRg (tb X fa ca) W (fun G m ds J => JOk (tb X fa ca) G m ds J) σ F G m (if small j then .ok (rangeD 0 j.toNat) s else .stuck) Rr from h)
    have q := small_of hs
    exact ⟨j, rfl, q.1, q.2, TRg.ok h r (jok_rng 0 j.toNat)⟩
  | _ => exact (show False from h).elim
theorem ri_rng2 (hg : Gl X "range") (hm : X.mg "range" = none) (ha : PE X a (eRd (tb X fa ca) W eva)) (hb : PE X b (eRd (tb X fa ca) W evb)) (hst : notStar a = true) (hst2 : notStar b = true) : PI X tg (.Call (.Name "range" p) [a, b] [] pos) (iRd (tb X fa ca) W fun τ s => (eva τ s).bind fun x s1 => (evb τ s1).bind fun y s2 => match x, y with
    | .int i, .int j => if small i && small j then .ok (rangeD i (j - i).toNat) s2 else .stuck
    | _, _ => .stuck) := by
  refine PI.mono (pi_range2 hg hm (pa_cons ha (pa_cons hb pa_nil (star_cons hst2)) (star_cons hst)) (by rw [star_cons hst, star_cons hst2] <;> rfl) (star_cons hst2)) fun σ H Rr h => two_rd h fun F G m s d e x y H r rd re h => ?_
  cases rd with
  | int i =>
    cases re with
    | int j =>
      obtain ⟨hs, h⟩ := TRg.ite (show TRg (tb X fa ca) W (fun G m ds J => JOk (tb X fa ca) G m ds J) σ F G m (if small i && small j then .ok (rangeD i (j - i).toNat) s else .stuck) Rr from h)
      have hs := Bool.and_eq_true_iff.mp hs
      have q := small_of hs.1
      have q2 := small_of hs.2
      exact ⟨i, j, rfl, ⟨q.1, q.2, q2.1, q2.2⟩, TRg.ok h r (jok_rng i (j - i).toNat)⟩
    | _ => exact (show False from h).elim
  | _ => exact (show False from h).elim
/-- what is walked by enumerate or zip: a list that changes no more, or a tuple -/
theorem walkS_sq {T : Tb} {F G H : Hp} {m : Mm} {st : S} {d : D} {v : V} {ds : List D} (r : R T F G m st H) (rd : Rp T G m d v) (h : st.walkS d = some ds) : ∃ q vs, v = .ref q ∧ SqBG (!isTupD d) T G q vs ∧ Rps T G m ds vs := by
  cases rd with
  | @lst q vs ds' h1 h2 =>
    simp only [S.walkS, Option.some.injEq] at h
    subst h
    exact ⟨q, vs, rfl, h1, h2⟩
  | @tup q vs ds' h1 h2 =>
    simp only [S.walkS, Option.some.injEq] at h
    subst h
    exact ⟨q, vs, rfl, h1, h2⟩
  | @ref n q em =>
    cases z : st.get n with
    | none => simp [S.walkS, z] at h
    | some cl =>
      cases cl with
      | dic _ _ _ => simp [S.walkS, z] at h
      | lst fz ds' =>
        cases fz with
        | false => simp [S.walkS, z] at h
        | true =>
          simp only [S.walkS, z, Option.some.injEq] at h
          subst h
          obtain ⟨q', vs, e1, _, h1, h2, h3, _⟩ := cell_lst r z (.ref em)
          cases e1
          exact ⟨q, vs, rfl, h3 rfl, h2⟩
  | _ => simp [S.walkS] at h
theorem ri_zip2 {elts : List Expr} {kk : Nat} {tpos : Pos} (hg : Gl X "zip") (hm : X.mg "zip" = none) (ha : PE X a (eRd (tb X fa ca) W eva)) (hb : PE X b (eRd (tb X fa ca) W evb)) (hst : notStar a = true) (hst2 : notStar b = true) :
    PI X (.Tuple elts kk tpos) (.Call (.Name "zip" p) [a, b] [] pos) (iRd (tb X fa ca) W fun τ s => (eva τ s).bind fun x s1 => (evb τ s1).bind fun y s2 => match s2.walkS x, s2.walkS y with
      | some xs, some ys => if isTupD x == isTupD y then .ok (zipD xs ys) s2 else .stuck
      | _, _ => .stuck) := by
  refine PI.mono (RZ.pi_zipA hg hm (pa_cons ha (pa_cons hb pa_nil (star_cons hst2)) (star_cons hst)) (star_cons hst) (plain_all (by simp [notStars, hst2]))) fun σ H Rr h => two_rd h fun F G m s d e x y H r rd re h => ?_
  cases q1 : s.walkS d with
  | none => rw [q1] at h; exact h.elim
  | some xs =>
    cases q2 : s.walkS e with
    | none => rw [q1, q2] at h; exact h.elim
    | some ys =>
      rw [q1, q2] at h
      obtain ⟨hk, h⟩ := TRg.ite h
      obtain ⟨q, vs, rfl, hq, rq⟩ := walkS_sq r rd q1
      obtain ⟨q', ws, rfl, hq', rq'⟩ := walkS_sq r re q2
      refine ⟨q, q', vs, ws, rfl, ?_⟩
      cases hd : isTupD d with
      | false =>
        have he : isTupD e = false := by rw [hd] at hk; simpa using hk.symm
        rw [hd] at hq
        rw [he] at hq'
        exact .inl ⟨SqL.of (r.gH _ _ (show G q = some (.lst vs) from hq)), SqL.of (r.gH _ _ (show G q' = some (.lst ws) from hq')), TRg.ok h r (jok_zipL hq rq hq' rq')⟩
      | true =>
        have he : isTupD e = true := by rw [hd] at hk; simpa using hk.symm
        rw [hd] at hq
        rw [he] at hq'
        exact .inr ⟨SqT.sub r.gH hq, SqT.sub r.gH hq', TRg.ok h r (jok_zipT hq rq hq' rq')⟩
theorem ri_enu {elts : List Expr} {kk : Nat} {tpos : Pos} (hg : Gl X "enumerate") (hm : X.mg "enumerate" = none) (ha : PE X a (eRd (tb X fa ca) W eva)) (hst : notStar a = true) :
    PI X (.Tuple elts kk tpos) (.Call (.Name "enumerate" p) [a] [] pos) (iRd (tb X fa ca) W fun τ s => (eva τ s).bind fun d s1 => match s1.walkS d with
      | some ds => .ok (enumD 0 ds) s1
      | none => .stuck) := by
  refine ⟨fun pins s σ H Rr I h => ?_⟩
  have ha' : PA X [a] (tCons (eRd (tb X fa ca) W eva) tNil) := pa_cons ha pa_nil (star_cons hst)
  refine Call_ (ld_blt I hg hm boot_enumerate (PyProof.Rows.callWith_type1 (thn (ha'.run pos pins s σ H (fun vs H1 => ∃ F G m st d v, vs = [v] ∧ R (tb X fa ca) F G m st H1 ∧ Rp (tb X fa ca) G m d v ∧ TRg (tb X fa ca) W (fun G m ds J => JOk (tb X fa ca) G m ds J) σ F G m (match st.walkS d with | some ds => .ok (enumD 0 ds) st | none => .stuck) Rr) I
    (one_rd h fun F G m s d x H r rd h => ⟨F, G, m, s, d, x, rfl, r, rd, h⟩)) fun us s1 ⟨vs, H1, I1, rv, F, G, m, st, d, v, ev, r, rd, h⟩ => ?_) (star_cons hst) rfl))
  subst ev
  obtain ⟨u, rfl, ru⟩ := vals1 rv
  cases q1 : st.walkS d with
  | none => rw [q1] at h; exact h.elim
  | some xs =>
    rw [q1] at h
    obtain ⟨q, vs, rfl, hq, rq⟩ := walkS_sq r rd q1
    cases ru
    have hB : SqB (!isTupD d) X.K H1 q vs := (hq.sub r.gH).sq
    obtain ⟨its, rvs, p', hz, hlt⟩ := seqB_of I1 hB
    refine enum_begins1 (beginsB (!isTupD d) q its.toArray) p' fun h' he hit hk => wpAny_pyIter_enum he ?_
    have I2 : Inv X pins σ H1 { s1 with heap := h' } := I1.kept (t' := s1.toks) hk
    refine ⟨s1.heap.objs.size + 1, [s1.heap.objs.size + 1, s1.heap.objs.size], _, _, H1, rfl, I2, turnE (!isTupD d) q (s1.heap.objs.size + 1) s1.heap.objs.size (Nat.ne_of_lt hlt) (Nat.ne_of_lt (Nat.lt_succ_of_lt hlt)), ⟨⟨.none, he⟩, objB_iter hit, Nat.succ_ne_self _⟩, fun b hb => ?_, TRg.ok h r (jok_enum hq rq)⟩
    have hle : s1.heap.objs.size ≤ b := by
      rcases List.mem_cons.mp hb with z | z
      · rw [z]; exact Nat.le_succ _
      · rw [List.mem_singleton.mp z]; exact Nat.le_refl _
    exact I1.fpOk hle (I1.hok.fresh hle)
theorem ri_zip3 {d : Expr} {elts : List Expr} {kk : Nat} {tpos : Pos} (hg : Gl X "zip") (hm : X.mg "zip" = none) (ha : PE X a (eRd (tb X fa ca) W eva)) (hb : PE X b (eRd (tb X fa ca) W evb)) (hd : PE X d (eRd (tb X fa ca) W evd)) (hst : notStar a = true) (hst2 : notStar b = true) (hst3 : notStar d = true) :
    PI X (.Tuple elts kk tpos) (.Call (.Name "zip" p) [a, b, d] [] pos) (iRd (tb X fa ca) W fun τ s => (eva τ s).bind fun x s1 => (evb τ s1).bind fun y s2 => (evd τ s2).bind fun z s3 => match s3.walkS x, s3.walkS y, s3.walkS z with
      | some xs, some ys, some zs => .ok (zipD3 xs ys zs) s3
      | _, _, _ => .stuck) := by
  refine ⟨fun pins s σ H Rr I h => ?_⟩
  have ha' : PA X [a, b, d] (tCons (eRd (tb X fa ca) W eva) (tCons (eRd (tb X fa ca) W evb) (tCons (eRd (tb X fa ca) W evd) tNil))) := pa_cons ha (pa_cons hb (pa_cons hd pa_nil (star_cons hst3)) (star_cons hst2)) (star_cons hst)
  refine Call_ (ld_blt I hg hm PyProof.Rows.boot_zip (PyProof.Rows.callWith_type1 (thn (ha'.run pos pins s σ H (fun vs H1 => ∃ F G m st d1 d2 d3 v1 v2 v3, vs = [v1, v2, v3] ∧ R (tb X fa ca) F G m st H1 ∧ Rp (tb X fa ca) G m d1 v1 ∧ Rp (tb X fa ca) G m d2 v2 ∧ Rp (tb X fa ca) G m d3 v3 ∧ TRg (tb X fa ca) W (fun G m ds J => JOk (tb X fa ca) G m ds J) σ F G m (match st.walkS d1, st.walkS d2, st.walkS d3 with
      | some xs, some ys, some zs => .ok (zipD3 xs ys zs) st
      | _, _, _ => .stuck) Rr) I ?_) fun us s1 ⟨vs, H1, I1, rv, F, G, m, st, d1, d2, d3, v1, v2, v3, ev, r, rd1, rd2, rd3, h⟩ => ?_) (star_cons hst) (plain_all (by simp [notStars, hst2, hst3]))))
  · obtain ⟨F, G, m, s, τ, r, hs, h⟩ := h
    refine tRd.bind r hs h fun d1 s1 G1 m1 H1 v1 e1 r1 hs1 rv1 h1 => ?_
    refine tRd.bind r1 hs1 h1 fun d2 s2 G2 m2 H2 v2 e2 r2 hs2 rv2 h2 => ?_
    exact tRd.bind r2 hs2 h2 fun d3 s3 G3 m3 H3 v3 e3 r3 hs3 rv3 h3 => ⟨F, G3, m3, s3, d1, d2, d3, v1, v2, v3, rfl, r3, (rv1.mono e2).mono e3, rv2.mono e3, rv3, h3⟩
  · subst ev
    cases q1 : st.walkS d1 with
    | none => rw [q1] at h; exact h.elim
    | some xs =>
      cases q2 : st.walkS d2 with
      | none => rw [q1, q2] at h; exact h.elim
      | some ys =>
        cases q3 : st.walkS d3 with
        | none => rw [q1, q2, q3] at h; exact h.elim
        | some zs =>
          rw [q1, q2, q3] at h
          obtain ⟨a1, w1, rfl, hq1, rq1⟩ := walkS_sq r rd1 q1
          obtain ⟨a2, w2, rfl, hq2, rq2⟩ := walkS_sq r rd2 q2
          obtain ⟨a3, w3, rfl, hq3, rq3⟩ := walkS_sq r rd3 q3
          cases rv with
          | cons u1 t =>
            cases t with
            | cons u2 t =>
              cases t with
              | cons u3 t =>
                cases t
                cases u1
                cases u2
                cases u3
                obtain ⟨l1, _, p1, _, n1⟩ := seqB_of I1 ((hq1.sub r.gH).sq : SqB (!isTupD d1) X.K H1 a1 w1)
                obtain ⟨l2, _, p2, _, n2⟩ := seqB_of I1 ((hq2.sub r.gH).sq : SqB (!isTupD d2) X.K H1 a2 w2)
                obtain ⟨l3, _, p3, _, n3⟩ := seqB_of I1 ((hq3.sub r.gH).sq : SqB (!isTupD d3) X.K H1 a3 w3)
                refine zip_begins3 (beginsB (!isTupD d1) a1 l1.toArray) (beginsB (!isTupD d2) a2 l2.toArray) (beginsB (!isTupD d3) a3 l3.toArray) p1 p2 p3 fun h' hz hTI hTO g1 g2 g3 hsz hk => wpAny_pyIter_zip hz ?_
                have I2 : Inv X pins σ H1 { s1 with heap := h' } := I1.kept (t' := s1.toks) hk
                have below1 : ∀ {q : Addr}, q < s1.heap.objs.size → ∀ b ∈ [q], b < s1.heap.objs.size := fun hq b hb => by rw [List.mem_singleton.mp hb]; exact hq
                refine ⟨s1.heap.objs.size + 5, [s1.heap.objs.size + 5, s1.heap.objs.size + 3, s1.heap.objs.size + 4, s1.heap.objs.size, s1.heap.objs.size + 1, s1.heap.objs.size + 2], _, _, H1, rfl, I2,
                  turnZ3 (!isTupD d1) (!isTupD d2) (!isTupD d3) (zip_sep3 (below1 n1) (below1 n2) (below1 n3)) (Nat.ne_of_lt n1) (Nat.ne_of_lt (Nat.lt_succ_of_lt n2)) (Nat.ne_of_lt (Nat.lt_succ_of_lt (Nat.lt_succ_of_lt n3))),
                  ⟨hz, hTI, ⟨_, _, _, hTO⟩, objB_iter g1, objB_iter g2, objB_iter g3⟩, fun b hb => ?_, TRg.ok h r (jok_zip3 hq1 rq1 hq2 rq2 hq3 rq3)⟩
                have hle : s1.heap.objs.size ≤ b := by
                  rcases mem5 hb with z | z | z | z | z | z
                  · rw [z]; exact Nat.le_add_right _ _
                  · rw [z]; exact Nat.le_add_right _ _
                  · rw [z]; exact Nat.le_add_right _ _
                  · rw [z]; exact Nat.le_refl _
                  · rw [z]; exact Nat.le_add_right _ _
                  · rw [z]; exact Nat.le_add_right _ _
                exact I1.fpOk hle (I1.hok.fresh hle)
end
end Mi
set_option Elab.async false
set_option linter.all false
set_option maxRecDepth 100000
set_option maxHeartbeats 400000
/-! Mi17: calls of the program's defs; targets. -/
namespace Mi
open PySem PySem.Spec PyProof.Rows L2
/-- what a def promises, the frames around it keeping no guards -/
structure FnG (P : Program) (w : World) (K : PySem.W.Frag) (mg : Str → Option Value) (base : Heap) (k : Nat) (f : Addr) (fd : FuncData) (ps : List Str) (sp : Sp) : Prop where
  len : ∀ vs H Q E, sp vs H Q E → vs.length = ps.length
  run : ∀ (A : Around) (fs : List Env) (s : Shared) (H : Hp) (args : Args) (us : List Value) (vs : List V) (Q : VK) (E : XK), Room k A → A.guards = some [] → Env0 P w K mg base A fs s H → BindsTo s fd args (ps.zip us) → Vals vs us → sp vs H Q E →
    codeAny (model P w) A (.call (.ref f) args) (CR (L2.CX P w) fs P w H s Q E) s
/-- the program's defs: names, function data, parameters; what they compute -/
structure Ge where
  P : Program
  w : World
  K : PySem.W.Frag
  mg : Str → Option Value
  base : Heap
  tab : Nat → Option Fd
  wf : Nat
  fa : Nat → Addr
  ca : Nat → Addr
  nm : Nat → Str
  fd : Nat → FuncData
  ps : Nat → List Str
abbrev Ge.T (g : Ge) : Tb := ⟨g.P, g.w, g.K, g.fa, g.ca⟩
def spM (g : Ge) (n f : Nat) : Sp := fun vs H Q E => ∃ F G m s ds, R g.T F G m s H ∧ Rps g.T G m ds vs ∧ TRg g.T (fun c d _ H => E c d H) (Rp g.T) [] F G m (callN g.tab g.wf n f ds s) Q
/-- each def keeps its promise to the depth n -/
def Ge.All (g : Ge) (n : Nat) : Prop := ∀ f e, g.tab f = some e → (g.ps f).length = e.ps ∧ FnG g.P g.w g.K g.mg g.base n (g.fa f) (g.fd f) (g.ps f) (spM g n f)
structure Ge.Ok (g : Ge) : Prop where
  at_ : ∀ f e, g.tab f = some e → g.mg (g.nm f) = some (.ref (g.fa f)) ∧ PySem.W.keepIn g.K (.ref (g.fa f)) = true ∧ Binds g.K (g.fd f) (g.ps f) []
theorem callN_len {tab : Nat → Option Fd} {wf n f : Nat} {ds : List D} {s : S} (h : callN tab wf n f ds s ≠ .stuck) : ∃ e, tab f = some e ∧ ds.length = e.ps := by
  cases n with
  | zero => exact absurd rfl h
  | succ n =>
    simp only [callN] at h
    cases e : tab f with
    | none => rw [e] at h; exact absurd rfl h
    | some fd =>
      rw [e] at h
      simp only at h
      by_cases hl : ds.length = fd.ps
      · exact ⟨fd, rfl, hl⟩
      · rw [if_neg hl] at h
        exact absurd rfl h
theorem TRg.nstuck {T : Tb} {W : WX} {α β : Type} {Rel : Hp → Mm → α → β → Prop} {σ : L2.St} {F G : Hp} {m : Mm} {r : Res α} {Q : β → Hp → Prop} (h : TRg T W Rel σ F G m r Q) : r ≠ .stuck := by
  cases r with
  | stuck => exact h.elim
  | _ => exact fun z => by cases z
/-- the context is one of the program's -/
structure In (g : Ge) (X : Cx) (W : WX) (n : Nat) : Prop where
  P : X.prog = g.P
  w : X.w = g.w
  K : X.K = g.K
  mg : X.mg = g.mg
  base : X.base = g.base
  room : Room n X.A
  guards : X.A.guards = some []
  calm : X.calm = true
  nd : X.N.Nodup
  pass : ∀ σ, PassesAt (L2.CX X.prog X.w) X σ (WE W σ)
theorem In.T {g : Ge} {X : Cx} {W : WX} {n : Nat} (h : In g X W n) : g.T = tb X g.fa g.ca := by
  show Tb.mk g.P g.w g.K g.fa g.ca = Tb.mk X.prog X.w X.K g.fa g.ca
  rw [h.P, h.w, h.K]
theorem In.un {g : Ge} {X : Cx} {W : WX} {n : Nat} (h : In g X W n) : X.A.units + 80 < cLine := by have := h.room.un; omega
section
variable {g : Ge} {X : Cx} {W : WX} {n : Nat} {a b e : Expr} {es : List Expr} {pos p : Pos} {eva evb : Tau → S → Res D} {evs : Tau → S → Res (List D)}
/-- a def runs -/
theorem fn_runs (hi : In g X W n) (ok : g.Ok) (all : g.All n) {f : Nat} {pins : List (Addr × Obj)} {σ : L2.St} {H : Hp} {s : Shared} {Q : VK} {us : List Value} {vs : List V} {args : Args} (hb : ∀ e, g.tab f = some e → vs.length = (g.ps f).length → BindsTo s (g.fd f) args ((g.ps f).zip us))
    (I : Inv X pins σ H s) (r : Vals vs us) {F G : Hp} {m : Mm} {st : S} {ds : List D} (rr : R g.T F G m st H) (rs : Rps g.T G m ds vs) (h : TRg g.T W (Rp g.T) σ F G m (callN g.tab g.wf n f ds st) Q) :
    codeAny (model X.prog X.w) X.A (.call (.ref (g.fa f)) args) (fun r s' => match r with
      | .ok (.ret u) => EP X pins σ Q u s'
      | .ok _ => False
      | .error e => X.xe e s') s := by
  obtain ⟨e, he, hl⟩ := callN_len h.nstuck
  obtain ⟨h1, F0⟩ := all f e he
  have hlen : vs.length = (g.ps f).length := by rw [← rs.length, hl, h1]
  have rc := F0.run X.A X.stack s H args us vs Q (fun c d H => W c d σ H) hi.room hi.guards (by rw [← hi.P, ← hi.w, ← hi.K, ← hi.mg, ← hi.base]; exact I.env0) (hb e he hlen) r ⟨F, G, m, st, ds, rr, rs, by
    cases q : callN g.tab g.wf n f ds st with
    | stuck => rw [q] at h; exact h
    | ok d s1 => rw [q] at h; exact h
    | exc y s1 => rw [q] at h; exact h⟩
  rw [hi.P, hi.w]
  refine codeAny_mono rc fun r s' hq => ?_
  cases r with
  | error e => exact hi.pass σ pins H s e s' I (by rw [hi.P, hi.w]; exact hq)
  | ok fl =>
    cases fl with
    | ret u => exact I.after (by rw [hi.P, hi.w]; exact hq)
    | next => exact False.elim hq
    | brk => exact False.elim hq
    | cont => exact False.elim hq
theorem rd_call (hi : In g X W n) (ok : g.Ok) (all : g.All n) {f : Nat} {x : Str} (hf : (g.tab f).isSome = true) (hx : g.nm f = x) (hg : Gl X x) (hdb : (x == ("__debug__" : Str)) = false) (ha : PA X (a :: es) (aRd g.T W evs)) (hst : notStars (a :: es) = true) :
    PE X (.Call (.Name x p) (a :: es) [] pos) (eRd g.T W fun τ s => (evs τ s).bind fun ds s1 => callN g.tab g.wf n f ds s1) := by
  have q := Bool.and_eq_true_iff.mp (show (notStar a && es.all notStar) = true from hst)
  obtain ⟨e, he⟩ := Option.isSome_iff_exists.mp hf
  obtain ⟨k1, k2, k3⟩ := ok.at_ f e he
  refine ⟨fun pins s σ H Q I h => ?_⟩
  refine wpAny_Call_Name_kw (ld_glob I hg (by rw [hi.mg, ← hx]; exact k1) ?_ hdb)
  refine PySem.W.callWith_K (h₀ := X.base) I.ok.mod.kin (by rw [hi.K]; exact k2) (thn (ha.run pos pins s σ H (fun vs H1 => ∃ F G m st ds, R g.T F G m st H1 ∧ Rps g.T G m ds vs ∧ TRg g.T W (Rp g.T) σ F G m (callN g.tab g.wf n f ds st) Q) I (many_rd h fun F G m s ds xs H r rd h => ⟨F, G, m, s, ds, r, rd, h⟩))
    fun us s1 ⟨vs, H1, I1, r, F, G, m, st, ds, rr, rs, h⟩ => ⟨I1.kIn, ?_⟩) (star_cons q.1) (plain_all q.2)
  refine wpAny_call (codeAny_mono (fn_runs hi ok all (us := us) (fun e he hl => ?_) I1 r rr rs h) fun r s' hq => ?_)
  · have b := k3 s1 us (by rw [← hi.K]; exact I1.kIn) (by rw [List.append_nil, ← r.length]; exact hl)
    rw [List.append_nil] at b
    exact b
  · cases r with
    | error e => exact hq
    | ok fl => cases fl <;> first | exact hq | exact hq.elim
/-- f(e, ..), f a name that holds a def -/
theorem rd_lcall (hi : In g X W n) (ok : g.Ok) (all : g.All n) {i : Nat} {x : Str} (hN : X.N[i]? = some x) (hv : Vis X.env.scope x) (hdb : (x == ("__debug__" : Str)) = false) (hcd : (x == ("__classdict__" : Str)) = false) (ha : PA X (a :: es) (aRd g.T W evs)) (hst : notStars (a :: es) = true) :
    PE X (.Call (.Name x p) (a :: es) [] pos) (eRd g.T W fun τ s => match τ[i]? with
      | some (some (.fn f)) => if (g.tab f).isSome then (evs τ s).bind fun ds s1 => callN g.tab g.wf n f ds s1 else .stuck
      | _ => .stuck) := by
  have q := Bool.and_eq_true_iff.mp (show (notStar a && es.all notStar) = true from hst)
  refine ⟨fun pins s σ H Q I ⟨F, G, m, st, τ, r, hs, h⟩ => ?_⟩
  cases e : τ[i]? with
  | none => simp only [e] at h; exact h.elim
  | some o =>
    simp only [e] at h
    cases o with
    | none => exact h.elim
    | some d =>
      cases d with
      | fn f =>
        obtain ⟨v, e1, e2⟩ := hs.at_ i _ e
        cases e2
        refine wpAny_Call_Name_kw (thn ((pe_var (pos := p) hN hv hdb hcd).run pins s σ H (fun v H1 => v = .ref (g.fa f) ∧ H1 = H) I ⟨_, e1, rfl, rfl⟩) fun u s1 ⟨v, H1, I1, r1, q1⟩ => ?_)
        obtain ⟨rfl, rfl⟩ := q1
        cases r1
        -- the def is one of the table, or its arguments stop
        have h : TRg g.T W (Rp g.T) σ F G m (if (g.tab f).isSome = true then (evs τ st).bind fun ds s1 => callN g.tab g.wf n f ds s1 else .stuck) Q := h
        by_cases hf : (g.tab f).isSome = true
        · rw [if_pos hf] at h
          obtain ⟨e, he⟩ := Option.isSome_iff_exists.mp hf
          obtain ⟨k1, k2, k3⟩ := ok.at_ f e he
          refine PySem.W.callWith_K (h₀ := X.base) I.ok.mod.kin (by rw [hi.K]; exact k2) (thn (ha.run pos pins s1 σ H1 (fun vs H1 => ∃ F G m st ds, R g.T F G m st H1 ∧ Rps g.T G m ds vs ∧ TRg g.T W (Rp g.T) σ F G m (callN g.tab g.wf n f ds st) Q) I1
            (many_rd (k := fun ds s1 => callN g.tab g.wf n f ds s1) ⟨F, G, m, st, τ, r, hs, h⟩ fun F G m s ds xs H r rd h => ⟨F, G, m, s, ds, r, rd, h⟩)) fun us s1 ⟨vs, H1, I1, r, F, G, m, st, ds, rr, rs, h⟩ => ⟨I1.kIn, ?_⟩) (star_cons q.1) (plain_all q.2)
          refine wpAny_call (codeAny_mono (fn_runs hi ok all (us := us) (fun e he hl => ?_) I1 r rr rs h) fun r s' hq => ?_)
          · have b := k3 s1 us (by rw [← hi.K]; exact I1.kIn) (by rw [List.append_nil, ← r.length]; exact hl)
            rw [List.append_nil] at b
            exact b
          · cases r with
            | error e => exact hq
            | ok fl => cases fl <;> first | exact hq | exact hq.elim
        · rw [if_neg hf] at h
          exact h.elim
      | _ => exact h.elim
end
/-! ### targets -/
section
variable {X : Cx} {fa ca : Nat → Addr} {a b e : Expr} {es : List Expr} {pos p : Pos} {eva evb : Tau → S → Res D} {l l' : List Nat}
theorem PG.mono {e : Expr} {t t' : TG} (h : PG X e t) (k : ∀ v σ H Q, t' v σ H Q → t v σ H Q) : PG X e t' := ⟨fun pins s σ H v u Q I r q => h.run pins s σ H v u Q I r (k v σ H Q q)⟩
theorem PGs.mono {es : List Expr} {t t' : TGs} (h : PGs X es t) (k : ∀ v σ H Q, t' v σ H Q → t v σ H Q) : PGs X es t' := ⟨fun pins s σ H v u Q I r q => h.run pins s σ H v u Q I r (k v σ H Q q)⟩
theorem rg_nm {i : Nat} {x : Str} (hN : X.N.Nodup) (hx : X.N[i]? = some x) (hl : Loc X.env.scope x) (hf : X.fn x = true ∨ X.env.scope.names.lookup x = some .local) : PG X (.Name x pos) (gRd (tb X fa ca) [i] fun d τ s => .ok (τ.set i (some d)) s) :=
  PG.mono (pg_name hN hx hl hf) fun v σ H Q ⟨F, G, m, s, τ, d, r, hs, rd, h⟩ => h G m H _ (Ext.refl G m) r (hs.set i rd) (Only.set i σ _)
theorem rgs_nil : PGs X [] (gsRd (tb X fa ca) [] fun ds τ s => match ds with
    | [] => .ok τ s
    | _ => .stuck) := by
  refine PGs.mono pgs_nil fun vs σ H Q ⟨F, G, m, s, τ, ds, r, hs, rd, h⟩ => ?_
  cases ds with
  | nil => cases rd; exact ⟨rfl, h G m H σ (Ext.refl G m) r hs (Only.refl _ _)⟩
  | cons _ _ => exact h.elim
theorem GOk.mono {T : Tb} {σ : L2.St} {F G G1 : Hp} {m m1 : Mm} {r : Res Tau} {Q : L2.St → Hp → Prop} (x : Ext G m G1 m1) (h : GOk T l σ F G m r Q) : GOk T l σ F G1 m1 r Q := by
  cases r with
  | ok τ s => exact fun G' m' H' σ' e => h G' m' H' σ' (x.trans e)
  | exc _ _ => exact h
  | stuck => exact h
theorem assign_cons {e : Expr} {es : List Expr} {env : Env} (h : notStar e = true) : assignEach (e :: es) env = (false, assign e env) :: assignEach es env := by
  cases e <;> first | rfl | (simp [notStar] at h)
theorem assign_len {env : Env} : ∀ {es : List Expr}, notStars es = true → (assignEach es env).length = es.length ∧ (assignEach es env).findIdx? (·.1) = none
  | [], _ => ⟨rfl, rfl⟩
  | e :: es, h => by
    have q := Bool.and_eq_true_iff.mp (show (notStar e && es.all notStar) = true from h)
    obtain ⟨h1, h2⟩ := assign_len (env := env) (es := es) q.2
    rw [assign_cons q.1]
    refine ⟨by rw [List.length_cons, h1, List.length_cons], ?_⟩
    rw [List.findIdx?_cons, h2]
    rfl
theorem rgs_cons {evg : D → Tau → S → Res Tau} {evgs : List D → Tau → S → Res Tau} (hst : notStar e = true) (h1 : PG X e (gRd (tb X fa ca) l evg)) (h2 : PGs X es (gsRd (tb X fa ca) l' evgs)) : PGs X (e :: es) (gsRd (tb X fa ca) (l ++ l') fun ds τ s => match ds with
    | [] => .stuck
    | d :: ds => match evg d τ s with
      | .ok τ1 s1 => evgs ds τ1 s1
      | _ => .stuck) := by
  refine PGs.mono (pgs_cons h1 h2 (by rw [assign_cons hst] <;> rfl)) fun vs σ H Q ⟨F, G, m, s, τ, ds, r, hs, rd, h⟩ => ?_
  cases rd with
  | nil => exact h.elim
  | @cons d v ds vs rd1 rd2 =>
    refine ⟨v, vs, rfl, F, G, m, s, τ, d, r, hs, rd1, ?_⟩
    have h : GOk (tb X fa ca) (l ++ l') σ F G m (match evg d τ s with
      | .ok τ1 s1 => evgs ds τ1 s1
      | _ => .stuck) Q := h
    cases e1 : evg d τ s with
    | exc _ _ => rw [e1] at h; exact h.elim
    | stuck => rw [e1] at h; exact h.elim
    | ok τ1 s1 =>
      rw [e1] at h
      intro G' m' H' σ' x r' hs' ho
      refine ⟨F, G', m', s1, τ1, ds, r', hs', rd2.mono x, ?_⟩
      have h := GOk.mono x h
      simp only at h
      cases e2 : evgs ds τ1 s1 with
      | exc _ _ => rw [e2] at h; exact h.elim
      | stuck => rw [e2] at h; exact h.elim
      | ok τ2 s2 =>
        rw [e2] at h
        exact fun G2 m2 H2 σ2 x2 r2 hs2 ho2 => h G2 m2 H2 σ2 x2 r2 hs2 (ho.trans ho2 (fun i hi => List.mem_append_left _ hi) (fun i hi => List.mem_append_right _ hi))
theorem rg_tp {k : Nat} {evgs : List D → Tau → S → Res Tau} (hc : X.calm = true) (hst : notStars es = true) (hlen : ∀ ds τ s, evgs ds τ s ≠ .stuck → ds.length = es.length) (h : PGs X es (gsRd (tb X fa ca) l evgs)) : PG X (.Tuple es k pos) (gRd (tb X fa ca) l fun d τ s => match d with
    | .tup ds => evgs ds τ s
    | _ => .stuck) := by
  obtain ⟨h1, h2⟩ := assign_len (env := X.env) hst
  refine PG.mono (pg_tup (n := es.length) hc h h1 h2) fun v σ H Q ⟨F, G, m, s, τ, d, r, hs, rd, h⟩ => ?_
  cases rd with
  | @tup q vs ds g1 g2 =>
    have h : GOk (tb X fa ca) l σ F G m (evgs ds τ s) Q := h
    have hl := hlen ds τ s (fun z => by rw [z] at h; exact h)
    exact ⟨q, vs, rfl, SqT.sub r.gH g1, by rw [← g2.length]; exact hl, F, G, m, s, τ, ds, r, hs, g2, h⟩
  | _ => exact h.elim
theorem rg_sub (hu : X.A.units + 80 < cLine) (hp : plainIx b = true) (ho : PE X a (eRd (tb X fa ca) W0 eva)) (hi : PE X b (eRd (tb X fa ca) W0 evb)) : PG X (.Subscript a b pos) (gRd (tb X fa ca) [] fun d τ s => match eva τ s with
    | .ok x s1 => match evb τ s1 with
      | .ok y s2 => match setIx x y d s2 with
        | some s3 => .ok τ s3
        | none => .stuck
      | _ => .stuck
    | _ => .stuck) := by
  refine PG.mono (pg_sub ho hi (set_all (fa := fa) (ca := ca) hu) (fun v => by cases b <;> first | rfl | (simp [plainIx] at hp))) fun v σ H Q ⟨F, G, m, s, τ, d, r, hs, rd, h⟩ => ?_
  refine ⟨F, G, m, s, τ, r, hs, ?_⟩
  simp only at h
  cases e1 : eva τ s with
  | exc _ _ => rw [e1] at h; exact h.elim
  | stuck => rw [e1] at h; exact h.elim
  | ok x s1 =>
    rw [e1] at h
    intro G1 m1 H1 xv x1 r1 rx
    refine ⟨F, G1, m1, s1, τ, r1, hs.mono x1, ?_⟩
    simp only at h
    cases e2 : evb τ s1 with
    | exc _ _ => rw [e2] at h; exact h.elim
    | stuck => rw [e2] at h; exact h.elim
    | ok y s2 =>
      rw [e2] at h
      intro G2 m2 H2 yv x2 r2 ry
      simp only at h
      cases e3 : setIx x y d s2 with
      | none => rw [e3] at h; exact h.elim
      | some s3 =>
        rw [e3] at h
        exact ⟨F, G2, m2, s2, x, y, d, s3, r2, rx.mono x2, ry, rd.mono (x1.trans x2), e3, fun G' m' H' x3 r3 => h G' m' H' σ ((x1.trans x2).trans x3) r3 ((hs.mono (x1.trans x2)).mono x3) (Only.refl _ _)⟩
end
end Mi
set_option Elab.async false
set_option linter.all false
set_option maxRecDepth 100000
set_option maxHeartbeats 400000
/-! Mi18: comprehensions, calls by keywords. -/
namespace Mi
open PySem PySem.Spec PyProof.Rows L2
section
variable {X : Cx} {fa ca : Nat → Addr} {W : WX} {a b e tg iter elt : Expr} {es : List Expr} {pos p : Pos} {eve evk : Tau → S → Res D} {evs : Tau → S → Res (List D)} {evi : Tau → S → Res (List D)} {evg : D → Tau → S → Res Tau} {evt : Tau → S → Res Bool} {l : List Nat}
/-- any block of this comprehension -/
abbrev Blk (X : Cx) (scope : Scope) (Y : Cx) : Prop := ∃ (s : Shared) (H : Hp) (C : Addr) (cl : List (Str × Addr)) (fp : List Addr), Y = X.blk s H scope (compEnvC scope cl C X.env) fp
theorem PTs.mono {X : Cx} {es : List Expr} {t t' : TT} (h : PTs X es t) (k : ∀ σ H Q, t' σ H Q → t σ H Q) : PTs X es t' := ⟨fun pins s σ H Q I q => h.run pins s σ H Q I (k σ H Q q)⟩
theorem rts_nil {Y : Cx} : PTs Y [] (bRd (tb X fa ca) W0 fun _ s => .ok true s) :=
  PTs.mono pts_nil fun σ H Q ⟨F, G, m, s, τ, r, hs, h⟩ => TRg.ok (show TRg (tb X fa ca) W0 (fun _ _ (a b : Bool) => a = b) σ F G m (.ok true s) Q from h) r rfl
abbrev evComp (mu : Bool) (own : List Nat) (evi : Tau → S → Res (List D)) (evg : D → Tau → S → Res Tau) (evt : Tau → S → Res Bool) (eve : Tau → S → Res D) : Tau → S → Res D := fun τ s => (evi τ s).bind fun ds s1 => if fits ds then
      (match loopC (fun d s2 => (evg d (wipeT τ own) s2).bind fun τ1 s3 => (evt τ1 s3).bind fun b s4 => if b then (eve τ1 s4).bind fun y s5 => .ok (some y) s5 else .ok none s4) ds s1 with
      | .ok r s2 => if mu then .ok (.ref s2.nx) (s2.add (.lst false r)) else .ok (.lst r) s2
      | _ => .stuck)
    else .stuck
theorem lc_rd {mu : Bool} {wi : TI} {g : TG} {tt : TT} {te : TE} {own : List Nat} {σ : L2.St} {H : Hp} {Q : VK} (hwi : ∀ σ H Q, iRd (tb X fa ca) W evi σ H Q → wi σ H Q) (hg : ∀ v σ H Q, gRd (tb X fa ca) l evg v σ H Q → g v σ H Q) (ht : ∀ σ H Q, bRd (tb X fa ca) W0 evt σ H Q → tt σ H Q) (he : ∀ σ H Q, tRd (tb X fa ca) W0 (Rp (tb X fa ca)) eve σ H Q → te σ H Q) (hl : ∀ i ∈ l, i ∈ own)
    (h : eRd (tb X fa ca) W (evComp mu own evi evg evt eve) σ H Q) : tLc wi g tt te own σ H Q := by
  obtain ⟨F, G, m, s, τ, r, hs, h⟩ := h
  refine hwi _ _ _ (tRd.bind r hs h fun ds s1 G1 m1 H1 J e1 r1 hs1 jo h1 => ?_)
  obtain ⟨hf, h1⟩ := TRg.ite h1
  cases q : loopC (fun d s2 => (evg d (wipeT τ own) s2).bind fun τ1 s3 => (evt τ1 s3).bind fun b s4 => if b then (eve τ1 s4).bind fun y s5 => .ok (some y) s5 else .ok none s4) ds s1 with
  | exc _ _ => rw [q] at h1; exact h1.elim
  | stuck => rw [q] at h1; exact h1.elim
  | ok rt send =>
    rw [q] at h1
    exact comp_ok (mu := mu) hg ht he hl r1 hs1 jo hf q h1
def notSet : Expr → Bool
  | .Set _ _ _ => false
  | _ => true
theorem rd_comp {mu : Bool} {ifs : List Expr} {scope : Scope} {own : List (Str × Nat)} (hc : X.calm = true) (hN : X.N.Nodup) (hi : PI X tg iter (iRd (tb X fa ca) W evi)) (ok : blkC X.N X.env.scope scope own = true)
    (hg : ∀ Y, Blk X scope Y → PG Y tg (gRd (tb X fa ca) l evg)) (ht : ∀ Y, Blk X scope Y → PTs Y ifs (bRd (tb X fa ca) W0 evt)) (he : ∀ Y, Blk X scope Y → PE Y elt (eRd (tb X fa ca) W0 eve)) (hl : ∀ i ∈ l, i ∈ own.map (·.2)) (hfs : ∀ x, foldedSetIterable iter X.env x = pure x) :
    PE X (.ListComp elt [⟨tg, iter, ifs, 0⟩] scope pos) (eRd (tb X fa ca) W (evComp mu (own.map (·.2)) evi evg evt eve)) :=
  PE.mono (pe_lc hc hN hi (blkOk_by ok) (fun s H C cl fp => hg _ ⟨s, H, C, cl, fp, rfl⟩) (fun s H C cl fp => ht _ ⟨s, H, C, cl, fp, rfl⟩) (fun s H C cl fp => he _ ⟨s, H, C, cl, fp, rfl⟩) hfs) fun σ H Q h => lc_rd (fun _ _ _ q => q) (fun _ _ _ _ q => q) (fun _ _ _ q => q) (fun _ _ _ q => q) hl h
/-- name = [..] on one line -/
theorem rs_setLc {mu : Bool} {ifs : List Expr} {scope : Scope} {own : List (Str × Nat)} {i : Nat} {y : Str} {py spos : Pos} (hc : X.calm = true) (hN : X.N.Nodup) (hy : X.N[i]? = some y) (hyl : X.env.scope.names.lookup y = some .local) (hsw : swapsWith (.ListComp elt [⟨tg, iter, ifs, 0⟩] scope pos) (some (.Name y py)) spos.line X.env = pure true) (hi : PI X tg iter (iRd (tb X fa ca) W evi)) (ok : blkC X.N X.env.scope scope own = true)
    (hg : ∀ Y, Blk X scope Y → PG Y tg (gRd (tb X fa ca) l evg)) (ht : ∀ Y, Blk X scope Y → PTs Y ifs (bRd (tb X fa ca) W0 evt)) (he : ∀ Y, Blk X scope Y → PE Y elt (eRd (tb X fa ca) W0 eve)) (hl : ∀ i ∈ l, i ∈ own.map (·.2)) (hfs : ∀ x, foldedSetIterable iter X.env x = pure x) :
    PS X (.Assign [.Name y py] (.ListComp elt [⟨tg, iter, ifs, 0⟩] scope pos) spos) (tAsg (eRd (tb X fa ca) W (evComp mu (own.map (·.2)) evi evg evt eve)) (gName i)) := by
  have h := ps_setLc (spos := spos) hc hN hy hyl hsw hi (blkOk_by ok) (fun s H C cl fp => hg _ ⟨s, H, C, cl, fp, rfl⟩) (fun s H C cl fp => ht _ ⟨s, H, C, cl, fp, rfl⟩) (fun s H C cl fp => he _ ⟨s, H, C, cl, fp, rfl⟩) hfs
  exact ⟨fun pins s σ H D I q => h.run pins s σ H D I (lc_rd (mu := mu) (fun _ _ _ q => q) (fun _ _ _ _ q => q) (fun _ _ _ q => q) (fun _ _ _ q => q) hl q)⟩
/-! ### dicts that a comprehension makes -/
/-- the dict at p after d[k] = v -/
theorem dict_put {pins : List (Addr × Obj)} {s : Shared} {σ : L2.St} {F G H : Hp} {m : Mm} {st : S} {p ka : Addr} {ho : HO} {kvs : KVs} {ks vs : List D} {kd d : D} {k : NestedKey} {v : V} {u : Value} {h' : Heap} {t' : Nat} {xs : List (NestedKey × Addr × Value)} (I : Inv X pins σ H s) (r : R (tb X fa ca) F G m st H)
    (h1 : H p = some ho) (h2 : DicV (tb X fa ca) p kvs ho) (h3 : Rps (tb X fa ca) G m ks (kvs.map fun p => V.ref p.2.1)) (h4 : ks.map keyT = kvs.map (fun p => some p.1)) (h5 : Rps (tb X fa ca) G m vs (kvs.map fun p => p.2.2)) (rb : Rp (tb X fa ca) G m kd (.ref ka)) (q2 : Mi.keyT kd = some k) (rd : Rp (tb X fa ca) G m d v) (rv : RelV v u) (hl : ks.length < sizeLine)
    (d1 : s.heap.DictOfH (nestedKind X.prog X.w) p xs) (d2 : Paired PairR kvs xs) (d3 : (p == sysModules) = false) (hd' : h'.DictOfH (nestedKind X.prog X.w) p (storedH xs k ka u)) (sb : Heap.SameBut p s.heap h') :
    ∃ ho' kvs', Inv X pins σ (upd H p ho') { s with heap := h', toks := t' } ∧ DicV (tb X fa ca) p kvs' ho' ∧ Rps (tb X fa ca) G m (dput k kd d ks vs).1 (kvs'.map fun p => V.ref p.2.1) ∧ (dput k kd d ks vs).1.map keyT = kvs'.map (fun p => some p.1) ∧ Rps (tb X fa ca) G m (dput k kd d ks vs).2 (kvs'.map fun p => p.2.2) := by
  have hlen : kvs.length = ks.length := by have := congrArg List.length h4; simp only [List.length_map] at this; exact this.symm
  have hlx : kvs.length = xs.length := Paired.length d2
  have mut_ : Mut (H p) := by
    obtain ⟨ob, es, ep, xs', rfl, _⟩ := h2
    rw [h1]
    exact True.intro
  obtain ⟨_, _, _, _, _, _, _, _, nd⟩ := id d1
  have ndk : (kvs.map (·.1)).Nodup := by rw [paired_keys d2]; exact nd
  obtain ⟨ob, es, ep, g1, g2, g3, g4, g5, g6⟩ := hd'
  have I' := I.write (x := p) (e := p) (h' := h') (o := .ext fun h => h.get? p = some ob) (t' := t') mut_ (.inl rfl) (fun b u hb hu => (sb.2 b hb).trans hu) ⟨_, g1⟩ ⟨g1, ⟨_, g1⟩, fun h1 h2 e st => st _ e⟩
  obtain ⟨x1, x2⟩ := dget_at (T := tb X fa ca) (G := G) (m := m) k h4 h5 d2
  cases z : dget k ks vs with
  | none =>
    have z2 := storedH_new (x2 z) ka u
    have e : dput k kd d ks vs = (ks ++ [kd], vs ++ [d]) := by unfold dput; rw [z]
    refine ⟨_, kvs ++ [(k, ka, v)], I', ⟨ob, es, ep, storedH xs k ka u, rfl, g2, g3, g4, g6, d3, by rw [z2, List.length_append, List.length_singleton]; omega, by rw [z2]; exact paired_snoc ⟨rfl, rfl, rv⟩ d2⟩, ?_, ?_, ?_⟩
    · rw [e, List.map_append]
      exact h3.append (.cons rb .nil)
    · rw [e, List.map_append, List.map_append, h4]
      simp [q2]
    · rw [e, List.map_append]
      exact h5.append (.cons rd .nil)
  | some w =>
    obtain ⟨b', u', v', y1, _⟩ := x1 w z
    have z2 := storedH_old y1 ka u
    have e : dput k kd d ks vs = (ks, dputV k d ks vs) := by unfold dput; rw [z]
    refine ⟨_, kvs.map (putA k v), I', ⟨ob, es, ep, storedH xs k ka u, rfl, g2, g3, g4, g6, d3, by rw [z2, List.length_map]; omega, by rw [z2]; exact putA_paired rv d2⟩, ?_, ?_, ?_⟩
    · rw [e, putA_map _ (fun p => by rw [(putA_key k v p).2])]
      exact h3
    · rw [e, putA_map _ (fun p => by rw [(putA_key k v p).1])]
      exact h4
    · rw [e]
      exact dputV_rps rd h4 h5 ndk
/-- what d[k] = v asks within the comprehension: the dict stands at D among others' things -/
def dSet (T : Tb) (D : Addr) (y z : V) (H : Hp) (Q : Hp → Prop) : Prop := ∃ F G m s ks vs kvs ho kd d k, R T F G m s H ∧ F D = some ho ∧ DicV T D kvs ho ∧ Rps T G m ks (kvs.map fun p => V.ref p.2.1) ∧ ks.map keyT = kvs.map (fun p => some p.1) ∧ Rps T G m vs (kvs.map fun p => p.2.2) ∧
  Rp T G m kd y ∧ Mi.keyT kd = some k ∧ Rp T G m d z ∧ ks.length < sizeLine ∧ ∀ ho' kvs', DicV T D kvs' ho' → Rps T G m (dput k kd d ks vs).1 (kvs'.map fun p => V.ref p.2.1) → (dput k kd d ks vs).1.map keyT = kvs'.map (fun p => some p.1) → Rps T G m (dput k kd d ks vs).2 (kvs'.map fun p => p.2.2) → Q (upd H D ho')
theorem dset_ok {pins : List (Addr × Obj)} {s : Shared} {σ : L2.St} {H : Hp} {D : Addr} {y z : V} {u r : Value} {Qn : Hp → Prop} {E : Value → Shared → Prop} {Q : Unit → Shared → Prop} (hu : X.A.units + 80 < cLine) (I : Inv X pins σ H s) (ry : RelV y u) (rz : RelV z r) (h : dSet (tb X fa ca) D y z H Qn) (hQ : ∀ s' H', Inv X pins σ H' s' → Qn H' → Q () s') :
    wpAny (model X.prog X.w) X.A (dictSet D u r) Q E s := by
  obtain ⟨F, G, m, st, ks, vs, kvs, ho, kd, d, k, rr, hF, h2, h3, h4, h5, rb, q2, rd, hl, h⟩ := h
  obtain ⟨ka, rfl, isk⟩ := Rp.keyT I rr rb q2
  cases ry
  have h1 := rr.fH _ _ hF
  obtain ⟨xs, d1, d2, d3, d4⟩ := DicV.dictOf I rr h1 h2 h3 h4
  refine wpAny_dictSet_heap (show X.A.units + 8 < cLine from by omega) isk d1 (fun h' hd' sb => ?_) d4
  obtain ⟨ho', kvs', I', p1, p2, p3, p4⟩ := dict_put (t' := s.toks + (nestedKind X.prog X.w).draws k) I rr h1 h2 h3 h4 h5 rb q2 rd rz hl d1 d2 d3 hd' sb
  exact hQ _ _ I' (h ho' kvs' p1 p2 p3 p4)
end
end Mi
set_option Elab.async false
set_option linter.all false
set_option maxRecDepth 100000
set_option maxHeartbeats 400000
/-! Mi19: dict comprehensions with tuple keys. -/
namespace Mi
open PySem PySem.Spec PyProof.Rows L2
def tDcN (T : Tb) (wi : TI) (g : TG) (tt : TT) (tk tv : TE) (own : List Nat) : TE := fun σ H Q => wi σ H fun J H1 => ∀ (D : Addr) (o1 : HO), H1 D = none → DicV T D [] o1 → ∃ Wn : Nat → Nat → Hp → Prop, (∃ m, Wn 0 m (upd H1 D o1)) ∧ ∀ i m H, Wn i m H →
  (J.stop i H ∧ Q (.ref D) H) ∨ (J.go i H ∧ ∃ Nx : Hp → Prop, (∀ H', Nx H' → ∃ m', m' < m ∧ Wn (i + 1) m' H') ∧ ∀ x H', J.yld i H x H' → g x (L2.wipe σ own) H' fun σ2 H2 => L2.wipe σ2 own = L2.wipe σ own ∧ tt σ2 H2 fun b H3 =>
    if b = true then tk σ2 H3 fun y H4 => tv σ2 H4 fun z H5 => dSet T D y z H5 Nx else Nx H3)
section
variable {X : Cx} {fa ca : Nat → Addr}
theorem dcN_run {pins : List (Addr × Obj)} {s : Shared} {σ : L2.St} {H : Hp} {Q : VK} {kx vx tg src : Expr} {ifs : List Expr} {scope : Scope} {own : List (Str × Nat)} {pos pos' : Pos} {wi : TI} {g : TG} {tt : TT} {tk tv : TE} {use : Option (Value → Sem Unit)} {Qf : Value → Shared → Prop}
    (hc : X.calm = true) (hN : X.N.Nodup) (hu : X.A.units + 80 < cLine) (I : Inv X pins σ H s) (hi : PI X tg src wi) (ok : BlkOk X.N X.env.scope scope own)
    (hg : ∀ Y, Blk X scope Y → PG Y tg g) (ht : ∀ Y, Blk X scope Y → PTs Y ifs tt) (hk : ∀ Y, Blk X scope Y → PE Y kx tk) (he : ∀ Y, Blk X scope Y → PE Y vx tv) (hfs : ∀ x, foldedSetIterable src X.env x = pure x)
    (h : tDcN (tb X fa ca) wi g tt tk tv (own.map (·.2)) σ H Q)
    (back : ∀ D C s' m H', Inv X pins σ H' s' → Q (.ref D) H' → s'.heap.Ns C m → FpOk X pins H' C → compPost (model X.prog X.w) X.A X.xe use Qf (.ref D) C (.ok .next) s') :
    wpAny (model X.prog X.w) X.A (comprehension (.DictComp kx vx [⟨tg, src, ifs, 0⟩] scope pos) scope X.env pos' newDict false (eval src X.env) use) Qf X.xe s := by
  have captured : ∀ y ∈ scope.names, y.2 = .free → ∃ c, X.env.cells.lookup y.1 = some c := fun y hy e => (ok.free y hy e).elim (fun k => I.ok.has _ (.inl k)) (fun k => I.ok.has _ (.inr k))
  refine wpAny_comprehension_free (use := use) rfl hfs (closure_ok captured) ok.kind (fun y hy e => by rw [ok.uniq y hy, e]) (thn (hi.run pins s σ H _ I h) fun _ sa hsa => thn hsa fun _ sb hsb => ?_)
  obtain ⟨it, fp, tn, J, Hb, rfl, Ib, T, tb0, fb, q⟩ := hsb
  refine wpAny_newObj_type (newEnv_comp ?_)
  -- the new dict at D
  obtain ⟨ob, es, ep, n1, n2, n3, n4, n5, n6⟩ := Heap.DictOfH.new (knd := nestedKind X.prog X.w) sb.heap
  generalize hD : sb.heap.objs.size = D at n1
  have freshD : Hb D = none := Ib.hok.fresh (Nat.le_of_eq hD)
  have lowD : (D == sysModules) = false := beq_eq_false_iff_ne.mpr fun e => by
    have z := Ib.big
    rw [hD, e] at z
    exact Nat.lt_irrefl _ z
  obtain ⟨Wn, ⟨k0, w0⟩, turn⟩ := q D (.ext fun h => h.get? D = some ob) freshD ⟨ob, es, ep, [], rfl, n2, n3, n4, List.nodup_nil, lowD, Nat.zero_le _, .nil⟩
  generalize hsc : ({ sb with heap := sb.heap.push { cls := .type "dict", data := .dict #[] } } : Shared) = sc
  have hsc' : sc.heap = sb.heap.push { cls := .type "dict", data := .dict #[] } := by rw [← hsc]
  have Ic : Inv X pins σ (upd Hb D (.ext fun h => h.get? D = some ob)) sc := by
    rw [← hsc]
    exact Ib.laid (t' := sb.toks) (fun b o e => Heap.get?_push_of_some _ e) (Nat.le_of_eq hD) ⟨n1, ⟨_, n1⟩, fun h1 h2 e st => st _ e⟩
  have small : ∀ b ∈ fp, b < sb.heap.objs.size := fun b hb => by
    obtain ⟨o, e, _⟩ := T.obj _ _ tb0 b hb
    exact Heap.lt_size e
  have fc : ∀ b ∈ fp, FpOk X pins (upd Hb D (.ext fun h => h.get? D = some ob)) b ∧ b < sc.heap.objs.size := fun b hb => by
    have lt := small b hb
    refine ⟨⟨?_, (fb b hb).2⟩, by rw [hsc', Heap.size_push]; exact Nat.lt_succ_of_lt lt⟩
    rw [upd_ne (by rw [← hD]; exact Nat.ne_of_lt lt)]
    exact (fb b hb).1
  have tc : tn 0 sc.heap := T.keep _ _ _ tb0 fun b _ o e => by rw [hsc']; exact Heap.get?_push_of_some _ e
  have Id := block_start Ic ok hN fc
  have blk : Blk X scope (X.blk sc (upd Hb D (.ext fun h => h.get? D = some ob)) scope (compEnvC scope (cellsFrom (sc.heap.objs.size + 1) scope.names (cloFrom X.env.cells scope.names [])) sc.heap.objs.size X.env) fp) := ⟨_, _, _, _, _, rfl⟩
  show codeAny _ _ (.compStart (.DictComp kx vx [⟨tg, src, ifs, 0⟩] scope pos) 0 (.ref it) (.ref D) (compEnvC scope (cellsFrom (sc.heap.objs.size + 1) scope.names (cloFrom X.env.cells scope.names [])) sc.heap.objs.size X.env)) (compPost (model X.prog X.w) X.A X.xe use Qf (.ref D) sc.heap.objs.size) { sc with heap := pushCells (sc.heap.push { cls := .type "dict", data := .dict #[] }) scope.names }
  have nfp : ∀ b ∈ fp, (upd Hb D (.ext fun h => h.get? D = some ob)) b = none := fun b hb => (fc b hb).1.1
  generalize hce : compEnvC scope (cellsFrom (sc.heap.objs.size + 1) scope.names (cloFrom X.env.cells scope.names [])) sc.heap.objs.size X.env = ce at Id blk ⊢
  have cL : ce.locals = sc.heap.objs.size := by subst hce; rfl
  generalize hHc : upd Hb D (.ext fun h => h.get? D = some ob) = Hc at Ic Id blk w0 nfp fc
  generalize hsd : ({ sc with heap := pushCells (sc.heap.push { cls := .type "dict", data := .dict #[] }) scope.names } : Shared) = sd at Id ⊢
  generalize hY : X.blk sc Hc scope ce fp = Y at Id blk
  have yP : Y.prog = X.prog := by subst hY; rfl
  have yw : Y.w = X.w := by subst hY; rfl
  have yK : Y.K = X.K := by subst hY; rfl
  have yA : Y.A = X.A := by subst hY; rfl
  have yc : Y.calm = true := by subst hY; exact hc
  have yex : Y.ex = fp := by subst hY; rfl
  have yenv : Y.env = ce := by subst hY; rfl
  have yxe : Y.xe = fun _ _ => False := by subst hY; rfl
  have ypn : Y.pn = [] := by subst hY; rfl
  have td0 : tn 0 sd.heap := T.keep _ _ _ tc fun b _ o e => by rw [← hsd]; exact pushCells_keeps _ _ _ _ (Heap.get?_push_of_some _ e)
  have stay : ∀ {σ' : L2.St} {H' : Hp} {s' : Shared}, Inv Y [] σ' H' s' → (∀ b ∈ fp, H' b = none) → ∀ b ∈ fp, FpOk Y [] H' b := fun {σ' H' s'} I' hn b hb => by
    have hbx : b ∈ Y.ex := by rw [yex]; exact hb
    exact ⟨hn b hb, (I'.ok.exf b hbx).1, I'.ok.exfs b hbx, .inl hbx, fun x c e => (I'.ok.exf b hbx).2 x c e, fun p hp => by rw [ypn] at hp; exact absurd hp (by simp)⟩
  have loop : codeAny (model X.prog X.w) X.A (.compLoop (.DictComp kx vx [⟨tg, src, ifs, 0⟩] scope pos) 0 (.ref it) (.ref D) ce) (compPost (model X.prog X.w) X.A X.xe use Qf (.ref D) sc.heap.objs.size) sd := by
    refine compLoop_anyD (fun n s' => ∃ i H', Inv Y [] (L2.wipe σ (own.map (·.2))) H' s' ∧ tn i s'.heap ∧ (∀ b ∈ fp, H' b = none) ∧ Wn i n H') ?_ k0 ⟨0, Hc, Id, td0, nfp, w0⟩
    rintro n s5 ⟨i, H5, I5, t5, n5, w5⟩
    have stop_or := turn i n H5 w5
    rcases stop_or with ⟨stop, qq⟩ | ⟨go, Nx, hNx, step⟩
    · have qd := T.done Y yP yw yK yc i [] s5 _ H5 (fun _ _ => False) I5 (stay I5 n5) t5 stop
      rw [yA] at qd
      refine thnF qd fun r s6 ⟨hr, I6⟩ => ?_
      subst hr
      subst hY
      have I7 : Inv X pins σ H5 s6 := Ic.call' (ch := fp) I6.os I6.base I6.hok I6.bare fun b hb => ⟨(fc b hb).1.2.2.2.1, (fc b hb).1.2.1, (fc b hb).1.2.2.2.2.1, (fc b hb).1.2.2.2.2.2⟩
      have nC : H5 sc.heap.objs.size = none := by
        have z : H5 ce.locals = none := I6.free
        rw [cL] at z
        exact z
      obtain ⟨m, hn, _⟩ := I6.loc
      have hn : s6.heap.Ns ce.locals m := hn
      rw [cL] at hn
      exact back D sc.heap.objs.size s6 m H5 I7 qq hn (Ic.fpOk (Nat.le_refl _) nC)
    · have qi := T.item Y yP yw yK yc i [] s5 _ H5 (fun _ _ => False) I5 (stay I5 n5) t5 go
      rw [yA] at qi
      refine thnF qi fun r s6 ⟨u, hr, h6⟩ => ?_
      subst hr
      refine thnF h6 fun _ s7 ⟨x, H7, I7, r7, y7, t7, n7⟩ => ?_
      have I7' := I7.pinned (stay I7 n7) (T.obj _ _ t7)
      have pg := (hg Y blk).run _ s7 _ H7 x u _ I7' r7 (step x H7 y7)
      rw [yP, yw, yA, yxe, yenv] at pg
      refine thnF pg fun _ s8 ⟨σ8, H8, I8, hw8, q8⟩ => ?_
      have pt := (ht Y blk).run _ s8 σ8 H8 _ I8 q8
      rw [yP, yw, yA, yxe, yenv] at pt
      refine thnF pt fun b s9 ⟨H9, I9, q9⟩ => ?_
      have fin : ∀ {s' : Shared} {H' : Hp}, Inv Y ([] ++ pinsAt fp s7.heap) σ8 H' s' → Nx H' → ∃ m, m < n ∧ ∃ i H', Inv Y [] (L2.wipe σ (own.map (·.2))) H' s' ∧ tn i s'.heap ∧ (∀ b ∈ fp, H' b = none) ∧ Wn i m H' := fun {s' H'} I' nx => by
        obtain ⟨m', hm, w'⟩ := hNx H' nx
        have held : ∀ b ∈ fp, ∀ o, s7.heap.get? b = some o → s'.heap.get? b = some o ∧ H' b = none := fun b hb o e =>
          have z := I'.pin (b, o) (List.mem_append_right _ (List.mem_append_right _ (mem_pinsAt hb e)))
          ⟨z.1, z.2.1⟩
        refine ⟨m', hm, i + 1, H', (I'.unpinned (pins := [])).weak (by rw [← hw8, L2.wipe_length]) (fun j v e => ?_), T.keep _ _ _ t7 fun b hb o e => (held b hb o e).1, fun b hb => ?_, w'⟩
        · rw [← hw8] at e
          exact (wipe_some e).1
        · obtain ⟨o, e, _⟩ := T.obj _ _ t7 b hb
          exact (held b hb o e).2
      cases b with
      | false =>
        simp only [Bool.false_eq_true, if_false] at q9 ⊢
        exact fin I9 q9
      | true =>
        simp only [if_true] at q9 ⊢
        have pk := (hk Y blk).run _ s9 σ8 H9 _ I9 q9
        rw [yP, yw, yA, yxe, yenv] at pk
        refine thnF pk fun zk s10 ⟨yk, H10, I10, r10, q10⟩ => ?_
        have pv := (he Y blk).run _ s10 σ8 H10 _ I10 q10
        rw [yP, yw, yA, yxe, yenv] at pv
        refine thnF pv fun zv s11 ⟨yv, H11, I11, r11, q11⟩ => ?_
        have q11' : dSet (tb Y fa ca) D yk yv H11 Nx := by
          have e : tb Y fa ca = tb X fa ca := by
            show Tb.mk Y.prog Y.w Y.K fa ca = Tb.mk X.prog X.w X.K fa ca
            rw [yP, yw, yK]
          rw [e]
          exact q11
        have z := dset_ok (X := Y) (E := fun _ _ => False) (Q := fun _ s' => ∃ m, m < n ∧ ∃ i H', Inv Y [] (L2.wipe σ (own.map (·.2))) H' s' ∧ tn i s'.heap ∧ (∀ b ∈ fp, H' b = none) ∧ Wn i m H') (by rw [yA]; exact hu) I11 r10 r11 q11' (fun s' H' I' nx => fin I' nx)
        rw [yP, yw, yA] at z
        exact thnF z fun _ _ q => q
  exact codeAny_compStart_dict loop (T.self X.A 0 _ _ _ td0 loop)
theorem pe_dcN {kx vx tg src : Expr} {ifs : List Expr} {scope : Scope} {own : List (Str × Nat)} {pos : Pos} {wi : TI} {g : TG} {tt : TT} {tk tv : TE} (hc : X.calm = true) (hN : X.N.Nodup) (hu : X.A.units + 80 < cLine) (hi : PI X tg src wi) (ok : BlkOk X.N X.env.scope scope own)
    (hg : ∀ Y, Blk X scope Y → PG Y tg g) (ht : ∀ Y, Blk X scope Y → PTs Y ifs tt) (hk : ∀ Y, Blk X scope Y → PE Y kx tk) (he : ∀ Y, Blk X scope Y → PE Y vx tv) (hfs : ∀ x, foldedSetIterable src X.env x = pure x) :
    PE X (.DictComp kx vx [⟨tg, src, ifs, 0⟩] scope pos) (tDcN (tb X fa ca) wi g tt tk tv (own.map (·.2))) := by
  refine ⟨fun pins s σ H Q I h => ?_⟩
  rw [arm_eval_DictComp]
  refine dcN_run hc hN hu I hi ok hg ht hk he hfs h fun D C s' m H' I' q hn f => ⟨m, hn, fun h'' sb => ?_⟩
  obtain ⟨f0, f1, f2, f3, f4, f5⟩ := f
  exact ⟨.ref D, H', I'.turned (t' := s'.toks) (fun b o hb e => (sb.2 b hb).trans e) f0 f1 f3 f4 f5, rfl, q⟩
/-- name = {k: v for ..} on one line, a local name -/
theorem ps_setDc {i : Nat} {y : Str} {py spos : Pos} {kx vx tg src : Expr} {ifs : List Expr} {scope : Scope} {own : List (Str × Nat)} {pos : Pos} {wi : TI} {g : TG} {tt : TT} {tk tv : TE} (hc : X.calm = true) (hN : X.N.Nodup) (hu : X.A.units + 80 < cLine) (hy : X.N[i]? = some y) (hyl : X.env.scope.names.lookup y = some .local)
    (hsw : swapsWith (.DictComp kx vx [⟨tg, src, ifs, 0⟩] scope pos) (some (.Name y py)) spos.line X.env = pure true) (hi : PI X tg src wi) (ok : BlkOk X.N X.env.scope scope own)
    (hg : ∀ Y, Blk X scope Y → PG Y tg g) (ht : ∀ Y, Blk X scope Y → PTs Y ifs tt) (hk : ∀ Y, Blk X scope Y → PE Y kx tk) (he : ∀ Y, Blk X scope Y → PE Y vx tv) (hfs : ∀ x, foldedSetIterable src X.env x = pure x) :
    PS X (.Assign [.Name y py] (.DictComp kx vx [⟨tg, src, ifs, 0⟩] scope pos) spos) (tAsg (tDcN (tb X fa ca) wi g tt tk tv (own.map (·.2))) (gName i)) := by
  refine ⟨fun pins s σ H D I h => ?_⟩
  rw [exec_Assign_Name_used _ _ _ _ hsw]
  refine wpAny_bind (wpAny_standAt (wpAny_bind ?_))
  show wpAny _ X.A (do let _ ← comprehension (.DictComp kx vx [⟨tg, src, ifs, 0⟩] scope pos) scope X.env (firstIterPos [⟨tg, src, ifs, 0⟩] pos) newDict false (eval src X.env) (some (assign (.Name y py) X.env))) _ _ s
  have h : tDcN (tb X fa ca) wi g tt tk tv (own.map (·.2)) σ H (fun x H1 => gName i x σ H1 D.nx) := h
  refine wpAny_bind (thn (dcN_run (Qf := fun _ s' => SP X pins D .next s') hc hN hu I hi ok hg ht hk he hfs h fun L C s' m H' I' q hn f => ?_) fun _ _ hq => wpAny_pure (wpAny_pure hq))
  show wpAny _ _ (assign (.Name y py) X.env (.ref L)) _ _ _
  refine wpAny_assign_Name (store_ok2 (v := V.ref L) I' hN hy (.inl hyl) rfl (fun s2 I2 ⟨a, sb, ha⟩ => ?_) (.inr hyl))
  obtain ⟨f0, f1, f2, f3, f4, f5⟩ := f
  have apart : C ≠ a := ha.elim (fun z => by rw [z]; exact f1) (fun z e => f4 y a z e.symm)
  exact ⟨m, hn.sameBut sb apart, fun h3 sb3 => ⟨_, H', I2.turned (t' := s2.toks) (fun b o hb e => (sb3.2 b hb).trans e) f0 f1 f3 f4 f5, q⟩⟩
end
end Mi
set_option Elab.async false
set_option linter.all false
set_option maxRecDepth 100000
set_option maxHeartbeats 400000
/-! Mi20: dict comprehensions read; calls by keywords; statements. -/
namespace Mi
open PySem PySem.Spec PyProof.Rows L2
section
variable {X : Cx} {fa ca : Nat → Addr} {W : WX} {a b e tg iter : Expr} {es : List Expr} {pos p : Pos} {eva evv evk : Tau → S → Res D} {evi evs : Tau → S → Res (List D)} {evg : D → Tau → S → Res Tau} {evt : Tau → S → Res Bool} {l : List Nat}
theorem loopK_cons {f : D → S → Res (Option (D × D))} {d : D} {ds ks vs : List D} {s send : S} {r : List D × List D} (h : loopK f (d :: ds) ks vs s = .ok r send) : ∃ o s1, f d s = .ok o s1 ∧ (match o with
    | none => loopK f ds ks vs s1 = .ok r send
    | some (k, v) => ∃ q, keyT k = some q ∧ loopK f ds (dput q k v ks vs).1 (dput q k v ks vs).2 s1 = .ok r send) := by
  simp only [loopK] at h
  cases e : f d s with
  | exc _ _ => rw [e] at h; cases h
  | stuck => rw [e] at h; cases h
  | ok o s1 =>
    cases o with
    | none =>
      rw [e] at h
      exact ⟨none, s1, rfl, h⟩
    | some kv =>
      obtain ⟨k, v⟩ := kv
      rw [e] at h
      simp only at h
      cases e2 : keyT k with
      | none => rw [e2] at h; cases h
      | some q =>
        rw [e2] at h
        exact ⟨some (k, v), s1, rfl, q, e2, h⟩
theorem dput_len (q : NestedKey) (k v : D) (ks vs : List D) : (dput q k v ks vs).1.length ≤ ks.length + 1 := by
  unfold dput
  cases dget q ks vs with
  | none => simp
  | some _ => exact Nat.le_succ _
abbrev evDComp (mu : Bool) (own : List Nat) (evi : Tau → S → Res (List D)) (evg : D → Tau → S → Res Tau) (evt : Tau → S → Res Bool) (evk evv : Tau → S → Res D) : Tau → S → Res D := fun τ s => (evi τ s).bind fun ds s1 => if fits ds then
      (match loopK (fun d s2 => (evg d (wipeT τ own) s2).bind fun τ1 s3 => (evt τ1 s3).bind fun b s4 => if b then (evk τ1 s4).bind fun x s5 => (evv τ1 s5).bind fun y s6 => .ok (some (x, y)) s6 else .ok none s4) ds [] [] s1 with
      | .ok (ks, vs) s2 => if mu then .ok (.ref s2.nx) (s2.add (.dic false ks vs)) else .ok (.dic ks vs) s2
      | _ => .stuck)
    else .stuck
theorem dc_rd {mu : Bool} {ow : List Nat} {σ : L2.St} {H : Hp} {Q : VK} (hl : ∀ i ∈ l, i ∈ ow) (h : eRd (tb X fa ca) W (evDComp mu ow evi evg evt evk evv) σ H Q) : tDcN (tb X fa ca) (iRd (tb X fa ca) W evi) (gRd (tb X fa ca) l evg) (bRd (tb X fa ca) W0 evt) (eRd (tb X fa ca) W0 evk) (eRd (tb X fa ca) W0 evv) ow σ H Q := by
  obtain ⟨F, G, m, s, τ, r, hs, h⟩ := h
  refine tRd.bind r hs h fun ds s1 G1 m1 H1 J e1 r1 hs1 jo h1 => ?_
  obtain ⟨hf, h1⟩ := TRg.ite h1
  generalize hf' : (fun d s2 => (evg d (wipeT τ ow) s2).bind fun τ1 s3 => (evt τ1 s3).bind fun b s4 => if b then (evk τ1 s4).bind fun x s5 => (evv τ1 s5).bind fun y s6 => Res.ok (some (x, y)) s6 else Res.ok none s4) = f at h1
  cases q : loopK f ds [] [] s1 with
  | exc _ _ => rw [q] at h1; exact h1.elim
  | stuck => rw [q] at h1; exact h1.elim
  | ok rt send =>
    rw [q] at h1
    intro D o1 hD d0
    have hFD : F D = none := none_of_sub r1.fH hD
    let Pv : Nat → Hp → Prop := fun i H => ∃ G m s ks vs kvs ho, i ≤ ds.length ∧ Ext G1 m1 G m ∧ R (tb X fa ca) (upd F D ho) G m s H ∧ DicV (tb X fa ca) D kvs ho ∧ Rps (tb X fa ca) G m ks (kvs.map fun p => V.ref p.2.1) ∧ ks.map keyT = kvs.map (fun p => some p.1) ∧ Rps (tb X fa ca) G m vs (kvs.map fun p => p.2.2) ∧ ks.length ≤ i ∧ loopK f (ds.drop i) ks vs s = .ok rt send
    refine ⟨fun i m H => m = ds.length - i ∧ Pv i H, ⟨ds.length, by simp, G1, m1, s1, [], [], [], o1, Nat.zero_le _, Ext.refl _ _, r1.fnew hD, d0, .nil, rfl, .nil, Nat.zero_le _, by simpa using q⟩, ?_⟩
    rintro i m H ⟨rfl, G, m, s, ks, vs, kvs, ho, hi, x, r, hdv, hks, hke, hvs, hle, hlo⟩
    obtain ⟨stop, go⟩ := jo i _ G m s H x r
    by_cases hlt : i < ds.length
    · right
      obtain ⟨g1, g2⟩ := go _ (List.getElem?_eq_getElem hlt)
      rw [List.drop_eq_getElem_cons hlt] at hlo
      refine ⟨g1, Pv (i + 1), fun H' pp => ⟨ds.length - (i + 1), by omega, rfl, pp⟩, fun v H' hy => ?_⟩
      obtain ⟨G', x', r0, rv⟩ := g2 v H' hy
      obtain ⟨o, sd, e0, e4⟩ := loopK_cons hlo
      rw [← hf'] at e0
      obtain ⟨τ1, sa, e1', e0⟩ := Res.bind_ok e0
      obtain ⟨b, sb0, et, e0⟩ := Res.bind_ok e0
      refine ⟨_, G', m, s, wipeT τ ow, ds[i], r0, ((hs1.mono x).mono x').wipe ow, rv, ?_⟩
      rw [e1']
      intro G2 m2 H2 σ2 x2 r2' hs2 ho2
      refine ⟨(ho2.wipe hl).trans (wipe_wipe σ ow), ?_⟩
      refine ⟨_, G2, m2, sa, τ1, r2', hs2, ?_⟩
      rw [et]
      rintro G3' m3' H3' b' x3' r3' rfl
      cases b with
      | false =>
        simp only [Bool.false_eq_true, if_false, Res.ok.injEq] at e0 ⊢
        obtain ⟨rfl, rfl⟩ := e0
        have xx := ((x'.trans x2).trans x3')
        exact ⟨G3', m3', sb0, ks, vs, kvs, ho, hlt, x.trans xx, r3', hdv, hks.mono xx, hke, hvs.mono xx, by omega, e4⟩
      | true =>
        simp only [if_true] at e0 ⊢
        obtain ⟨kd', sb, e2, e0⟩ := Res.bind_ok e0
        obtain ⟨d', sc, e3, e0⟩ := Res.bind_ok e0
        simp only [Res.ok.injEq] at e0
        obtain ⟨rfl, rfl⟩ := e0
        obtain ⟨qk, ek, e4⟩ := e4
        refine ⟨_, G3', m3', sb0, τ1, r3', hs2.mono x3', ?_⟩
        rw [e2]
        intro G3 m3 H3 kv x3 r3 rk
        refine ⟨_, G3, m3, sb, τ1, r3, (hs2.mono x3').mono x3, ?_⟩
        rw [e3]
        intro G4 m4 H4 dv x4 r4 rd
        have xx := (((x'.trans x2).trans x3').trans x3).trans x4
        have hlen := fits_len hf
        refine ⟨_, G4, m4, sc, ks, vs, kvs, ho, kd', d', qk, r4, upd_same, hdv, hks.mono xx, hke, hvs.mono xx, rk.mono x4, ek, rd, by omega, fun ho' kvs' p1 p2 p3 p4 => ?_⟩
        exact ⟨G4, m4, sc, _, _, kvs', ho', hlt, x.trans xx, r4.fset, p1, p2, p3, p4, by have := dput_len qk kd' d' ks vs; omega, e4⟩
    · left
      have hi' : i = ds.length := by omega
      refine ⟨stop hi', ?_⟩
      rw [hi', List.drop_length] at hlo
      simp only [loopK, Res.ok.injEq] at hlo
      obtain ⟨rfl, rfl⟩ := hlo
      cases mu with
      | false =>
        have hfin : TRg (tb X fa ca) W (Rp (tb X fa ca)) σ F G m (.ok (.dic ks vs) s) Q := TRg.mono x h1
        have gp : G D = none := r.fG D _ upd_same
        have x2 : Ext G m (upd G D ho) m := Ext.upd gp
        exact hfin _ m H _ x2 (r.own hFD) (.dic upd_same hdv (hks.mono x2) hke (hvs.mono x2))
      | true =>
        have hfin : TRg (tb X fa ca) W (Rp (tb X fa ca)) σ F G m (.ok (.ref s.nx) (s.add (.dic false ks vs))) Q := TRg.mono x h1
        have gp : G D = none := r.fG D _ upd_same
        have x2 : Ext G m G (mAdd m s.nx D) := Ext.add (r.fresh _ (Nat.le_refl _))
        refine hfin G _ H _ x2 (r.ownX hFD ⟨ho, kvs, r.fat, hdv, hks.mono x2, hke, hvs.mono x2, fun z => Bool.noConfusion z, fun _ => gp⟩) (.ref ?_)
        show (if s.nx = s.nx then some D else m s.nx) = some D
        rw [if_pos rfl]
theorem rd_dcomp {mu : Bool} {kx vx : Expr} {ifs : List Expr} {scope : Scope} {own : List (Str × Nat)} (hc : X.calm = true) (hN : X.N.Nodup) (hu : X.A.units + 80 < cLine) (hi : PI X tg iter (iRd (tb X fa ca) W evi)) (ok : blkC X.N X.env.scope scope own = true)
    (hg : ∀ Y, Blk X scope Y → PG Y tg (gRd (tb X fa ca) l evg)) (ht : ∀ Y, Blk X scope Y → PTs Y ifs (bRd (tb X fa ca) W0 evt)) (hk : ∀ Y, Blk X scope Y → PE Y kx (eRd (tb X fa ca) W0 evk)) (he : ∀ Y, Blk X scope Y → PE Y vx (eRd (tb X fa ca) W0 evv)) (hl : ∀ i ∈ l, i ∈ own.map (·.2)) (hfs : ∀ x, foldedSetIterable iter X.env x = pure x) :
    PE X (.DictComp kx vx [⟨tg, iter, ifs, 0⟩] scope pos) (eRd (tb X fa ca) W (evDComp mu (own.map (·.2)) evi evg evt evk evv)) :=
  PE.mono (pe_dcN (fa := fa) (ca := ca) hc hN hu hi (blkOk_by ok) hg ht hk he hfs) fun σ H Q h => dc_rd hl h
theorem rs_setDc {mu : Bool} {kx vx : Expr} {ifs : List Expr} {scope : Scope} {own : List (Str × Nat)} {i : Nat} {y : Str} {py spos : Pos} (hc : X.calm = true) (hN : X.N.Nodup) (hu : X.A.units + 80 < cLine) (hy : X.N[i]? = some y) (hyl : X.env.scope.names.lookup y = some .local) (hsw : swapsWith (.DictComp kx vx [⟨tg, iter, ifs, 0⟩] scope pos) (some (.Name y py)) spos.line X.env = pure true)
    (hi : PI X tg iter (iRd (tb X fa ca) W evi)) (ok : blkC X.N X.env.scope scope own = true)
    (hg : ∀ Y, Blk X scope Y → PG Y tg (gRd (tb X fa ca) l evg)) (ht : ∀ Y, Blk X scope Y → PTs Y ifs (bRd (tb X fa ca) W0 evt)) (hk : ∀ Y, Blk X scope Y → PE Y kx (eRd (tb X fa ca) W0 evk)) (he : ∀ Y, Blk X scope Y → PE Y vx (eRd (tb X fa ca) W0 evv)) (hl : ∀ i ∈ l, i ∈ own.map (·.2)) (hfs : ∀ x, foldedSetIterable iter X.env x = pure x) :
    PS X (.Assign [.Name y py] (.DictComp kx vx [⟨tg, iter, ifs, 0⟩] scope pos) spos) (tAsg (eRd (tb X fa ca) W (evDComp mu (own.map (·.2)) evi evg evt evk evv)) (gName i)) := by
  have h := ps_setDc (fa := fa) (ca := ca) (spos := spos) hc hN hu hy hyl hsw hi (blkOk_by ok) hg ht hk he hfs
  exact ⟨fun pins s σ H D I q => h.run pins s σ H D I (dc_rd hl q)⟩
/-! ### keywords -/
theorem PK.mono {kws : List Keyword} {t t' : TA} (h : PK X kws t) (k : ∀ σ H Q, t' σ H Q → t σ H Q) : PK X kws t' := ⟨fun p pins s σ H Q I q => h.run p pins s σ H Q I (k σ H Q q)⟩
theorem rk_nil : PK X [] (aRd (tb X fa ca) W fun _ s => .ok [] s) :=
  PK.mono pk_nil fun σ H Q ⟨F, G, m, s, τ, r, hs, h⟩ => TRg.ok (show TRg (tb X fa ca) W (Rps (tb X fa ca)) σ F G m (.ok [] s) Q from h) r .nil
theorem rk_cons {nm : Option Str} {kpos : Pos} {kws : List Keyword} (ha : PE X a (eRd (tb X fa ca) W eva)) (hr : PK X kws (aRd (tb X fa ca) W evs)) : PK X (⟨nm, a, kpos⟩ :: kws) (aRd (tb X fa ca) W fun τ s => (eva τ s).bind fun d s1 => (evs τ s1).bind fun ds s2 => .ok (d :: ds) s2) := by
  refine PK.mono (pk_cons ha hr) fun σ H Q ⟨F, G, m, s, τ, r, hs, h⟩ => ?_
  exact tRd.bind r hs h fun d1 s1 G1 m1 H1 v1 e1 r1 hs1 rv1 h1 => tRd.bind r1 hs1 h1 fun d2 s2 G2 m2 H2 v2 e2 r2 hs2 rv2 h2 => TRg.ok h2 r2 (.cons (rv1.mono e2) rv2)
end
def permV {α : Type} (as : List α) (perm : List Nat) : Option (List α) := perm.mapM fun i => as[i]?
theorem permV_cons {α : Type} {as : List α} {i : Nat} {perm : List Nat} {bs : List α} (h : permV as (i :: perm) = some bs) : ∃ b r, as[i]? = some b ∧ permV as perm = some r ∧ bs = b :: r := by
  unfold permV at h ⊢
  rw [List.mapM_cons] at h
  cases e : as[i]? with
  | none => rw [e] at h; cases h
  | some b =>
    rw [e] at h
    cases e2 : List.mapM (fun i => as[i]?) perm with
    | none => rw [e2] at h; cases h
    | some r =>
      rw [e2] at h
      cases h
      exact ⟨b, r, rfl, rfl, rfl⟩
theorem perm_rps {T : Tb} {G : Hp} {m : Mm} {ds : List D} {vs : List V} {us : List Value} (rs : Rps T G m ds vs) (rv : Vals vs us) : ∀ {perm : List Nat} {as : List D}, permV ds perm = some as → ∃ xs ws, permV vs perm = some xs ∧ permV us perm = some ws ∧ Rps T G m as xs ∧ Vals xs ws
  | [], as, h => by
    cases h
    exact ⟨[], [], rfl, rfl, .nil, .nil⟩
  | i :: perm, as, h => by
    obtain ⟨d, r, e1, e2, rfl⟩ := permV_cons h
    obtain ⟨xs, ws, p1, p2, p3, p4⟩ := perm_rps rs rv e2
    obtain ⟨v, e3, rd⟩ := rs.get e1
    obtain ⟨u, e4, ru⟩ := rv.get e3
    refine ⟨v :: xs, u :: ws, ?_, ?_, .cons rd p3, .cons ru p4⟩
    · unfold permV at p1 ⊢
      rw [List.mapM_cons, e3, p1]
      rfl
    · unfold permV at p2 ⊢
      rw [List.mapM_cons, e4, p2]
      rfl
/-- how a call by keywords binds -/
def KwB (fd : FuncData) (ps ks : List Str) (perm : List Nat) : Prop := ∀ (s : Shared) (us ws : List Value), us.length = ks.length → permV us perm = some ws → BindsTo s fd ⟨[], ks.zip us⟩ (ps.zip ws)
section
variable {g : Ge} {X : Cx} {W : WX} {n : Nat} {a b e : Expr} {es : List Expr} {pos p : Pos} {evs : Tau → S → Res (List D)}
def kwNames : List Keyword → Option (List Str)
  | [] => some []
  | ⟨some nm, _, _⟩ :: r => (kwNames r).map (nm :: ·)
  | ⟨none, _, _⟩ :: _ => none
theorem kwNames_ok {env : Env} : ∀ {kws : List Keyword} {ks : List Str}, kwNames kws = some ks → (backToKw pos (keywordEach kws env)).all (·.1.isSome) = true ∧ (backToKw pos (keywordEach kws env)).filterMap (·.1) = ks ∧ (backToKw pos (keywordEach kws env)).any (·.1.isNone) = false ∧ ks.length = kws.length
  | [], ks, h => by
    cases h
    exact ⟨rfl, rfl, rfl, rfl⟩
  | ⟨none, _, _⟩ :: _, _, h => by cases h
  | ⟨some nm, v, kp⟩ :: r, ks, h => by
    simp only [kwNames, Option.map_eq_some_iff] at h
    obtain ⟨ks', h1, rfl⟩ := h
    obtain ⟨q1, q2, q3, q4⟩ := kwNames_ok (env := env) h1
    have e : backToKw pos (keywordEach (⟨some nm, v, kp⟩ :: r) env) = (some nm, do let v ← eval v env; standAt pos; pure v) :: backToKw pos (keywordEach r env) := rfl
    rw [e]
    refine ⟨by rw [List.all_cons, q1] <;> rfl, by rw [List.filterMap_cons, q2], by rw [List.any_cons, q3] <;> rfl, by rw [List.length_cons, List.length_cons, q4]⟩
theorem rd_callK (hi : In g X W n) (ok : g.Ok) (all : g.All n) {f : Nat} {x : Str} {kws : List Keyword} {ks : List Str} {perm : List Nat} (hf : (g.tab f).isSome = true) (hx : g.nm f = x) (hg : Gl X x) (hdb : (x == ("__debug__" : Str)) = false) (hks : kwNames kws = some ks) (hb : KwB (g.fd f) (g.ps f) ks perm) (ha : PK X kws (aRd g.T W evs)) :
    PE X (.Call (.Name x p) [] kws pos) (eRd g.T W fun τ s => (evs τ s).bind fun ds s1 => if ds.length = kws.length then (match permD ds perm with
      | some as => callN g.tab g.wf n f as s1
      | none => .stuck) else .stuck) := by
  obtain ⟨e, he⟩ := Option.isSome_iff_exists.mp hf
  obtain ⟨k1, k2, k3⟩ := ok.at_ f e he
  obtain ⟨q1, q2, q3, q4⟩ := kwNames_ok (pos := pos) (env := X.env) hks
  refine ⟨fun pins s σ H Q I h => ?_⟩
  refine wpAny_Call_Name_kw (ld_glob I hg (by rw [hi.mg, ← hx]; exact k1) ?_ hdb)
  refine PySem.W.callWith_KW0 (h₀ := X.base) I.ok.mod.kin (by rw [hi.K]; exact k2) q1 (thn (ha.run pos pins s σ H (fun vs H1 => ∃ F G m st ds, R g.T F G m st H1 ∧ Rps g.T G m ds vs ∧ ds.length = kws.length ∧ TRg g.T W (Rp g.T) σ F G m (match permD ds perm with
      | some as => callN g.tab g.wf n f as st
      | none => .stuck) Q) I (many_rd h fun F G m s ds xs H r rd h => by
        obtain ⟨hl, h⟩ := TRg.ite h
        exact ⟨F, G, m, s, ds, r, rd, hl, h⟩)) fun us s1 ⟨vs, H1, I1, r, F, G, m, st, ds, rr, rs, hl, h⟩ => ⟨I1.kIn, ?_⟩) (by
      show ((backTo pos (starEach [] X.env)).any (·.1) || (backToKw pos (keywordEach kws X.env)).any (·.1.isNone)) = false
      rw [q3]
      rfl)
  rw [q2]
  cases z : permD ds perm with
  | none => rw [z] at h; exact h.elim
  | some as =>
    rw [z] at h
    obtain ⟨xs, ws, p1, p2, p3, p4⟩ := perm_rps rs r z
    refine wpAny_call (codeAny_mono (fn_runs hi ok all (args := ⟨[], ks.zip us⟩) (fun e he hl' => hb s1 us ws (by rw [← r.length, ← rs.length, hl, q4]) p2) I1 p4 rr p3 h) fun r s' hq => ?_)
    cases r with
    | error e => exact hq
    | ok fl => cases fl <;> first | exact hq | exact hq.elim
end
end Mi
set_option Elab.async false
set_option linter.all false
set_option maxRecDepth 100000
set_option maxHeartbeats 400000
/-! Mi21: statements. -/
namespace Mi
open PySem PySem.Spec PyProof.Rows L2
section
variable (T : Tb) (W : WX)
def FlOk (F G : Hp) (m : Mm) (fl : Fl) (D : Ends) : Prop := match fl with
  | .nx τ s => ∀ G' m' H' σ', Ext G m G' m' → R T F G' m' s H' → RpS T G' m' τ σ' → D.nx σ' H'
  | .bk τ s => ∀ G' m' H' σ', Ext G m G' m' → R T F G' m' s H' → RpS T G' m' τ σ' → D.bk σ' H'
  | .ct τ s => ∀ G' m' H' σ', Ext G m G' m' → R T F G' m' s H' → RpS T G' m' τ σ' → D.ct σ' H'
  | .rt d s => ∀ G' m' H' v, Ext G m G' m' → R T F G' m' s H' → Rp T G' m' d v → D.rt v H'
  | .exc x τ s => ∀ G' m' H' dd σ', Ext G m G' m' → R T F G' m' s H' → RpS T G' m' τ σ' → XD T G' m' x dd → W (.ref (T.ca x.c)) dd σ' H'
  | .stuck => False
def sRd (ev : Tau → S → Fl) : TS := fun D σ H => ∃ F G m s τ, R T F G m s H ∧ RpS T G m τ σ ∧ FlOk T W F G m (ev τ s) D
end
theorem PS.mono {X : Cx} {st : Stmt} {t t' : TS} (h : PS X st t) (k : ∀ D σ H, t' D σ H → t D σ H) : PS X st t' := ⟨fun pins s σ H D I q => h.run pins s σ H D I (k D σ H q)⟩
theorem PSs.mono {X : Cx} {st : List Stmt} {t t' : TS} (h : PSs X st t) (k : ∀ D σ H, t' D σ H → t D σ H) : PSs X st t' := ⟨fun pins s σ H D I q => h.run pins s σ H D I (k D σ H q)⟩
section
variable {T : Tb} {W : WX} {F G G1 H : Hp} {m m1 : Mm} {fl : Fl} {D D' : Ends} {σ : L2.St} {s : S} {τ : Tau}
theorem FlOk.mono (x : Ext G m G1 m1) (h : FlOk T W F G m fl D) : FlOk T W F G1 m1 fl D := by
  cases fl with
  | nx τ s => exact fun G' m' H' σ' e => h G' m' H' σ' (x.trans e)
  | bk τ s => exact fun G' m' H' σ' e => h G' m' H' σ' (x.trans e)
  | ct τ s => exact fun G' m' H' σ' e => h G' m' H' σ' (x.trans e)
  | rt d s => exact fun G' m' H' v e => h G' m' H' v (x.trans e)
  | exc y τ s => exact fun G' m' H' dd σ' e => h G' m' H' dd σ' (x.trans e)
  | stuck => exact h
/-- the evaluation ahead of a statement's end -/
theorem FlOk.of {α β : Type} {Rel : Hp → Mm → α → β → Prop} {ev : Tau → S → Res α} {f : α → S → Fl} (r : R T F G m s H) (hs : RpS T G m τ σ) (h : FlOk T W F G m (Fl.of (ev τ s) τ f) D) {Q : β → Hp → Prop}
    (k : ∀ a s1 G1 m1 H1 b, Ext G m G1 m1 → R T F G1 m1 s1 H1 → RpS T G1 m1 τ σ → Rel G1 m1 a b → FlOk T W F G1 m1 (f a s1) D → Q b H1) : tRd T W Rel ev σ H Q := by
  refine ⟨F, G, m, s, τ, r, hs, ?_⟩
  cases e : ev τ s with
  | ok a s1 =>
    rw [e] at h
    exact fun G1 m1 H1 b x r1 rb => k a s1 G1 m1 H1 b x r1 (hs.mono x) rb (FlOk.mono x h)
  | exc y s1 =>
    rw [e] at h
    exact fun G1 m1 H1 dd x r1 xd => h G1 m1 H1 dd σ x r1 (hs.mono x) xd
  | stuck => rw [e] at h; exact h
theorem FlOk.next {g : Tau → S → Fl} (h : FlOk T W F G m (Fl.next fl g) D) : FlOk T W F G m fl { D with nx := fun σ H => ∃ F G m s τ, R T F G m s H ∧ RpS T G m τ σ ∧ FlOk T W F G m (g τ s) D } := by
  cases fl with
  | nx τ s => exact fun G' m' H' σ' x r hs => ⟨F, G', m', s, τ, r, hs, FlOk.mono x h⟩
  | bk τ s => exact h
  | ct τ s => exact h
  | rt d s => exact h
  | exc y τ s => exact h
  | stuck => exact h
end
section
variable {X : Cx} {fa ca : Nat → Addr} {W : WX} {a b e tg iter : Expr} {pos : Pos} {eva evb : Tau → S → Res D} {evi : Tau → S → Res (List D)} {evg : D → Tau → S → Res Tau} {l : List Nat} {st : Stmt} {sts sa sb : List Stmt} {ev evs : Tau → S → Fl}
theorem rss_nil : PSs X [] (sRd (tb X fa ca) W fun τ s => .nx τ s) :=
  PSs.mono pss_nil fun D σ H ⟨F, G, m, s, τ, r, hs, h⟩ => h G m H σ (Ext.refl G m) r hs
theorem rss_cons (h1 : PS X st (sRd (tb X fa ca) W ev)) (h2 : PSs X sts (sRd (tb X fa ca) W evs)) : PSs X (st :: sts) (sRd (tb X fa ca) W fun τ s => Fl.next (ev τ s) evs) :=
  PSs.mono (pss_cons h1 h2) fun D σ H ⟨F, G, m, s, τ, r, hs, h⟩ => ⟨F, G, m, s, τ, r, hs, FlOk.next h⟩
theorem rss_doc {x : Str} {j : Nat} {p p' : Pos} (h2 : PSs X sts (sRd (tb X fa ca) W evs)) : PSs X (.Expr (.Constant (.str x) j p) p' :: sts) (sRd (tb X fa ca) W evs) :=
  PSs.mono (pss_cons ps_doc h2) fun D σ H h => h
/-- a ghost: what the name holds is frozen -/
theorem rss_frz {i : Nat} (h2 : PSs X sts (sRd (tb X fa ca) W evs)) : PSs X sts (sRd (tb X fa ca) W fun τ s => Fl.next (match τ[i]? with
    | some (some d) => match evFrz d s with
      | .ok d1 s1 => .nx (τ.set i (some d1)) s1
      | _ => .stuck
    | _ => .stuck) evs) := by
  refine PSs.mono h2 fun D σ H ⟨F, G, m, s, τ, r, hs, h⟩ => ?_
  cases e : τ[i]? with
  | none => simp only [e] at h; exact h.elim
  | some o =>
    simp only [e] at h
    cases o with
    | none => exact h.elim
    | some d =>
      simp only at h
      obtain ⟨v, e1, rd⟩ := hs.at_ i d e
      have q := frz_ok r rd
      cases e2 : evFrz d s with
      | stuck => simp only [e2] at h; exact h.elim
      | exc y s1 => rw [e2] at q; exact q.elim
      | ok d1 s1 =>
        simp only [e2] at h
        rw [e2] at q
        obtain ⟨G1, x1, r1, rd1⟩ := q
        have hs' : RpS (tb X fa ca) G1 m (τ.set i (some d1)) (σ.set i (some v)) := (hs.mono x1).set i rd1
        have e3 : σ.set i (some v) = σ := by
          apply List.ext_getElem?
          intro j
          by_cases hj : i = j
          · subst hj
            rw [List.getElem?_set_self (List.getElem?_eq_some_iff.mp e1).1, e1]
          · rw [List.getElem?_set_ne hj]
        rw [e3] at hs'
        exact ⟨F, G1, m, s1, _, r1, hs', FlOk.mono x1 h⟩
/-- a store's reading, by a value's reading -/
theorem set_rd {i : Nat} {D : Ends} {σ : L2.St} {H : Hp} (h : sRd (tb X fa ca) W (fun τ s => Fl.of (eva τ s) τ fun d s1 => .nx (τ.set i (some d)) s1) D σ H) : tAsg (eRd (tb X fa ca) W eva) (gName i) D σ H := by
  obtain ⟨F, G, m, s, τ, r, hs, h⟩ := h
  exact FlOk.of r hs h fun d s1 G1 m1 H1 v x r1 hs1 rd h1 => h1 G1 m1 H1 _ (Ext.refl _ _) r1 (hs1.set i rd)
theorem rs_set {i : Nat} {x : Str} {p' : Pos} (hN : X.N.Nodup) (hx : X.N[i]? = some x) (hl : Loc X.env.scope x) (hf : X.fn x = true ∨ X.env.scope.names.lookup x = some .local) (he : PE X e (eRd (tb X fa ca) W eva)) (hsw : swapsWith e (some (.Name x p')) pos.line X.env = pure false) :
    PS X (.Assign [.Name x p'] e pos) (sRd (tb X fa ca) W fun τ s => Fl.of (eva τ s) τ fun d s1 => .nx (τ.set i (some d)) s1) :=
  PS.mono (ps_set hN hx hl he hsw hf) fun D σ H h => set_rd h
theorem rs_asg (he : PE X e (eRd (tb X fa ca) W eva)) (hg : PG X tg (gRd (tb X fa ca) l evg)) (hsw : swapsWithSole [tg] e pos.line X.env = pure false) (hss : swappedStores [tg] e X.env = pure none) (h1 : (assignEach [tg] X.env).map (·.2) = [assign tg X.env])
    (hne : ∀ d τ s, ∀ x s', evg d τ s ≠ .exc x s') : PS X (.Assign [tg] e pos) (sRd (tb X fa ca) W fun τ s => Fl.of (eva τ s) τ fun d s1 => Fl.of (evg d τ s1) τ fun τ1 s2 => .nx τ1 s2) := by
  refine PS.mono (ps_asg he hg hsw hss h1) fun D σ H ⟨F, G, m, s, τ, r, hs, h⟩ => ?_
  refine FlOk.of r hs h fun d s1 G1 m1 H1 v x r1 hs1 rd h2 => ⟨F, G1, m1, s1, τ, d, r1, hs1, rd, ?_⟩
  cases e2 : evg d τ s1 with
  | exc y s2 => exact absurd e2 (hne _ _ _ _ _)
  | stuck => rw [e2] at h2; exact h2.elim
  | ok τ1 s2 =>
    rw [e2] at h2
    exact fun G' m' H' σ' x' r' hs' _ => h2 G' m' H' σ' x' r' hs'
theorem rs_ex (he : PE X e (eRd (tb X fa ca) W eva)) (hsw : swapsWith e none pos.line X.env = pure false) : PS X (.Expr e pos) (sRd (tb X fa ca) W fun τ s => Fl.of (eva τ s) τ fun _ s1 => .nx τ s1) :=
  PS.mono (ps_expr he hsw) fun D σ H ⟨F, G, m, s, τ, r, hs, h⟩ => FlOk.of r hs h fun d s1 G1 m1 H1 v x r1 hs1 rd h1 => h1 G1 m1 H1 σ (Ext.refl _ _) r1 hs1
theorem rs_ret (he : PE X e (eRd (tb X fa ca) W eva)) : PS X (.Return (some e) pos) (sRd (tb X fa ca) W fun τ s => Fl.of (eva τ s) τ fun d s1 => .rt d s1) :=
  PS.mono (ps_ret he) fun D σ H ⟨F, G, m, s, τ, r, hs, h⟩ => FlOk.of r hs h fun d s1 G1 m1 H1 v x r1 hs1 rd h1 => h1 G1 m1 H1 v (Ext.refl _ _) r1 rd
theorem rs_if (hc : PT X a (tbRd (tb X fa ca) W eva)) (h1 : PSs X sa (sRd (tb X fa ca) W ev)) (h2 : PSs X sb (sRd (tb X fa ca) W evs)) : PS X (.If a sa sb pos) (sRd (tb X fa ca) W fun τ s => Fl.of (eva τ s) τ fun d s1 => match d with
    | .bl true => ev τ s1
    | .bl false => evs τ s1
    | _ => .stuck) := by
  refine PS.mono (ps_if hc h1 h2) fun D σ H ⟨F, G, m, s, τ, r, hs, h⟩ => ?_
  refine ⟨F, G, m, s, τ, r, hs, ?_⟩
  have h : FlOk (tb X fa ca) W F G m (Fl.of (eva τ s) τ fun d s1 => match d with
    | .bl true => ev τ s1
    | .bl false => evs τ s1
    | _ => .stuck) D := h
  show TRg (tb X fa ca) W (fun _ _ (a b : Bool) => a = b) σ F G m ((eva τ s).bind asB) _
  cases e : eva τ s with
  | stuck => rw [e] at h; exact h.elim
  | exc y s1 => rw [e] at h; exact fun G1 m1 H1 dd x r1 xd => h G1 m1 H1 dd σ x r1 (hs.mono x) xd
  | ok d s1 =>
    rw [e] at h
    cases d with
    | bl q =>
      show TRg (tb X fa ca) W (fun _ _ (a b : Bool) => a = b) σ F G m (.ok q s1) _
      rintro G' m' H' b' x r' rfl
      cases q with
      | true => rw [if_pos rfl]; exact ⟨F, G', m', s1, τ, r', hs.mono x, FlOk.mono x h⟩
      | false => rw [if_neg Bool.false_ne_true]; exact ⟨F, G', m', s1, τ, r', hs.mono x, FlOk.mono x h⟩
    | _ => exact (show False from h).elim
theorem rs_brk : PS X (.Break pos) (sRd (tb X fa ca) W fun τ s => .bk τ s) :=
  PS.mono ps_break fun D σ H ⟨F, G, m, s, τ, r, hs, h⟩ => h G m H σ (Ext.refl _ _) r hs
theorem rs_cnt : PS X (.Continue pos) (sRd (tb X fa ca) W fun τ s => .ct τ s) :=
  PS.mono ps_continue fun D σ H ⟨F, G, m, s, τ, r, hs, h⟩ => h G m H σ (Ext.refl _ _) r hs
theorem rs_pas : PS X (.Pass pos) (sRd (tb X fa ca) W fun τ s => .nx τ s) :=
  PS.mono ps_pass fun D σ H ⟨F, G, m, s, τ, r, hs, h⟩ => h G m H σ (Ext.refl _ _) r hs
theorem rs_never : PS X st (sRd (tb X fa ca) W fun _ _ => .stuck) :=
  PS.mono ps_never fun D σ H ⟨F, G, m, s, τ, r, hs, h⟩ => h.elim
theorem rs_aug {i : Nat} {x : Str} {p' : Pos} (o : Bo) (ho : o = .add ∨ o = .sub) (hN : X.N.Nodup) (hx : X.N[i]? = some x) (hl : Loc X.env.scope x) (hf : X.fn x = true ∨ X.env.scope.names.lookup x = some .local) (he : PE X e (eRd (tb X fa ca) W eva)) :
    PS X (.AugAssign (.Name x p') (opBo o) e pos) (sRd (tb X fa ca) W fun τ s => match τ[i]? with
    | some (some (.int n)) => Fl.of (eva τ s) τ (augF o n i τ)
    | _ => .stuck) := by
  have hip : ∃ ti : TIp, PIp X (opBo o) ti ∧ ∀ (n : Int) (d : Mi.D) (τ : Tau) (s1 : S) (F G1 H1 : Hp) (m1 : Mm) (σ : L2.St) (Dd : Ends) (v : V), R (tb X fa ca) F G1 m1 s1 H1 → RpS (tb X fa ca) G1 m1 τ σ → Rp (tb X fa ca) G1 m1 d v → FlOk (tb X fa ca) W F G1 m1 (augF o n i τ d s1) Dd → ti (.int n) v H1 fun z H2 => Dd.nx (σ.set i (some z)) H2 := by
    rcases ho with rfl | rfl
    · refine ⟨_, ip_add, fun n d τ s1 F G1 H1 m1 σ Dd v r hs rd h => ?_⟩
      cases rd with
      | int k => exact ⟨n, k, rfl, rfl, h G1 m1 H1 _ (Ext.refl _ _) r (hs.set i (.int _))⟩
      | _ => exact (show False from h).elim
    · refine ⟨_, ip_sub, fun n d τ s1 F G1 H1 m1 σ Dd v r hs rd h => ?_⟩
      cases rd with
      | int k => exact ⟨n, k, rfl, rfl, h G1 m1 H1 _ (Ext.refl _ _) r (hs.set i (.int _))⟩
      | _ => exact (show False from h).elim
  obtain ⟨ti, hti, core⟩ := hip
  refine PS.mono (ps_aug hN hx hl he hti hf) fun Dd σ H ⟨F, G, m, s, τ, r, hs, h⟩ => ?_
  cases e1 : τ[i]? with
  | none => simp only [e1] at h; exact h.elim
  | some q =>
    simp only [e1] at h
    cases q with
    | none => exact h.elim
    | some d =>
      cases d with
      | int n =>
        obtain ⟨v, e2, rv⟩ := hs.at_ i _ e1
        cases rv
        exact ⟨_, e2, FlOk.of r hs h fun d s1 G1 m1 H1 v x r1 hs1 rd h1 => core n d τ s1 F G1 H1 m1 σ Dd v r1 hs1 rd h1⟩
      | _ => exact h.elim
/-! ### loops -/
theorem rs_for (hp : PassesOwn (model X.prog X.w) X.A X.env X.xe) (hc : X.calm = true) (hi : PI X tg iter (iRd (tb X fa ca) W evi)) (hg : PG X tg (gRd (tb X fa ca) l evg)) (hb : PSs X sts (sRd (tb X fa ca) W ev)) (hfs : ∀ x, foldedSetIterable iter X.env x = pure x)
    (hne : ∀ d τ s, ∀ x s', evg d τ s ≠ .exc x s') : PS X (.For tg iter sts [] pos) (sRd (tb X fa ca) W fun τ s => Fl.of (evi τ s) τ fun ds s1 => loopF evg ev ds τ s1) := by
  refine PS.mono (ps_for hp hc hi hg hb hfs) fun D σ H ⟨F, G, m, s, τ, r, hs, h⟩ => ?_
  refine FlOk.of r hs h fun ds s1 G1 m1 H1 J x r1 hs1 jo h1 => ?_
  refine ⟨fun i k σ H => k = ds.length - i ∧ i ≤ ds.length ∧ ∃ G m s τ, Ext G1 m1 G m ∧ R (tb X fa ca) F G m s H ∧ RpS (tb X fa ca) G m τ σ ∧ FlOk (tb X fa ca) W F G m (loopF evg ev (ds.drop i) τ s) D, ⟨ds.length, by simp, Nat.zero_le _, G1, m1, s1, τ, Ext.refl _ _, r1, hs1, h1⟩, ?_⟩
  rintro i k σ H ⟨rfl, hi', G, m, s, τ, x, r, hs, h⟩
  obtain ⟨stop, go⟩ := jo i F G m s H x r
  by_cases hlt : i < ds.length
  · right
    obtain ⟨g1, g2⟩ := go _ (List.getElem?_eq_getElem hlt)
    rw [List.drop_eq_getElem_cons hlt] at h
    refine ⟨g1, fun σ H => ∃ G m s τ, Ext G1 m1 G m ∧ R (tb X fa ca) F G m s H ∧ RpS (tb X fa ca) G m τ σ ∧ FlOk (tb X fa ca) W F G m (loopF evg ev (ds.drop (i + 1)) τ s) D, fun σ' H' q => ⟨ds.length - (i + 1), by omega, rfl, hlt, q⟩, fun v H' hy => ?_⟩
    obtain ⟨G', x', r', rv⟩ := g2 v H' hy
    refine ⟨F, G', m, s, τ, ds[i], r', hs.mono x', rv, ?_⟩
    simp only [loopF] at h
    cases e1 : evg ds[i] τ s with
    | exc y s2 => exact absurd e1 (hne _ _ _ _ _)
    | stuck => rw [e1] at h; exact h.elim
    | ok τ1 s2 =>
      rw [e1] at h
      simp only at h
      intro G2 m2 H2 σ2 x2 r2 hs2 _
      refine ⟨F, G2, m2, s2, τ1, r2, hs2, ?_⟩
      have h := FlOk.mono (x'.trans x2) h
      have xx := x.trans (x'.trans x2)
      cases e2 : ev τ1 s2 with
      | nx τ2 s3 => rw [e2] at h; exact fun G3 m3 H3 σ3 x3 r3 hs3 => ⟨G3, m3, s3, τ2, xx.trans x3, r3, hs3, FlOk.mono x3 h⟩
      | ct τ2 s3 => rw [e2] at h; exact fun G3 m3 H3 σ3 x3 r3 hs3 => ⟨G3, m3, s3, τ2, xx.trans x3, r3, hs3, FlOk.mono x3 h⟩
      | bk τ2 s3 => rw [e2] at h; exact h
      | rt d s3 => rw [e2] at h; exact h
      | exc y τ2 s3 => rw [e2] at h; exact h
      | stuck => rw [e2] at h; exact h
  · left
    have hi2 : i = ds.length := by omega
    refine ⟨stop hi2, ?_⟩
    rw [hi2, List.drop_length] at h
    exact h G m H σ (Ext.refl _ _) r hs
theorem rs_whl {wf : Nat} (hp : PassesOwn (model X.prog X.w) X.A X.env X.xe) (hc : PT X a (tbRd (tb X fa ca) W eva)) (hb : PSs X sts (sRd (tb X fa ca) W ev)) : PS X (.While a sts [] pos) (sRd (tb X fa ca) W fun τ s => loopW eva ev wf τ s) := by
  refine PS.mono (ps_while hp hc hb) fun D σ H ⟨F, G, m, s, τ, r, hs, h⟩ => ?_
  refine ⟨fun k σ H => ∃ G m s τ, R (tb X fa ca) F G m s H ∧ RpS (tb X fa ca) G m τ σ ∧ FlOk (tb X fa ca) W F G m (loopW eva ev k τ s) D, ⟨wf, G, m, s, τ, r, hs, h⟩, ?_⟩
  rintro k σ H ⟨G, m, s, τ, r, hs, h⟩
  cases k with
  | zero => exact h.elim
  | succ k =>
    simp only [loopW] at h
    refine ⟨F, G, m, s, τ, r, hs, ?_⟩
    show TRg (tb X fa ca) W (fun _ _ (a b : Bool) => a = b) σ F G m ((eva τ s).bind asB) _
    cases e : eva τ s with
    | stuck => rw [e] at h; exact h.elim
    | exc y s1 => rw [e] at h; exact fun G1 m1 H1 dd x r1 xd => h G1 m1 H1 dd σ x r1 (hs.mono x) xd
    | ok d s1 =>
      rw [e] at h
      cases d with
      | bl q =>
        show TRg (tb X fa ca) W (fun _ _ (a b : Bool) => a = b) σ F G m (.ok q s1) _
        rintro G' m' H' b' x r' rfl
        cases q with
        | false =>
          rw [if_neg Bool.false_ne_true]
          exact h G' m' H' σ x r' (hs.mono x)
        | true =>
          rw [if_pos rfl]
          refine ⟨fun σ H => ∃ G m s τ, R (tb X fa ca) F G m s H ∧ RpS (tb X fa ca) G m τ σ ∧ FlOk (tb X fa ca) W F G m (loopW eva ev k τ s) D, fun σ' H' q => ⟨k, Nat.lt_succ_self k, q⟩, F, G', m', s1, τ, r', hs.mono x, ?_⟩
          simp only at h
          have h := FlOk.mono x h
          cases e2 : ev τ s1 with
          | nx τ2 s3 => rw [e2] at h; exact fun G3 m3 H3 σ3 x3 r3 hs3 => ⟨G3, m3, s3, τ2, r3, hs3, FlOk.mono x3 h⟩
          | ct τ2 s3 => rw [e2] at h; exact fun G3 m3 H3 σ3 x3 r3 hs3 => ⟨G3, m3, s3, τ2, r3, hs3, FlOk.mono x3 h⟩
          | bk τ2 s3 => rw [e2] at h; exact h
          | rt d s3 => rw [e2] at h; exact h
          | exc y τ2 s3 => rw [e2] at h; exact h
          | stuck => rw [e2] at h; exact h
      | _ => exact (show False from h).elim
theorem rs_par {i j : Nat} {x y : Str} {px py pt : Pos} {kt k2 : Nat} {pt2 : Pos} (hc : X.calm = true) (hN : X.N.Nodup) (hx : X.N[i]? = some x) (hy : X.N[j]? = some y) (hij : i ≠ j) (hlx : X.env.scope.names.lookup x = some .local) (hly : X.env.scope.names.lookup y = some .local)
    (ha : PE X a (eRd (tb X fa ca) W eva)) (hb : PE X b (eRd (tb X fa ca) W evb)) (hst : notStar a = true) (hst2 : notStar b = true) (hw : swappedStores [.Tuple [.Name x px, .Name y py] kt pt] (.Tuple [a, b] k2 pt2) X.env = pure (some [x, y])) :
    PS X (.Assign [.Tuple [.Name x px, .Name y py] kt pt] (.Tuple [a, b] k2 pt2) pos) (sRd (tb X fa ca) W fun τ s => Fl.of (eva τ s) τ fun x s1 => Fl.of (evb τ s1) τ fun y s2 => .nx ((τ.set i (some x)).set j (some y)) s2) := by
  refine PS.mono (ps_par hc hN hx hy hij hlx hly (pa_cons ha (pa_cons hb pa_nil (star_cons hst2)) (star_cons hst)) hw rfl) fun D σ H ⟨F, G, m, s, τ, r, hs, h⟩ => ?_
  refine FlOk.of r hs h fun d s1 G1 m1 H1 v x r1 hs1 rd h1 => ?_
  exact FlOk.of r1 hs1 h1 fun d2 s2 G2 m2 H2 v2 x2 r2 hs2 rd2 h2 => ⟨v, v2, rfl, h2 G2 m2 H2 _ (Ext.refl _ _) r2 ((hs2.set i (rd.mono x2)).set j rd2)⟩
end
end Mi
set_option Elab.async false
set_option linter.all false
set_option maxRecDepth 100000
set_option maxHeartbeats 400000
/-! Mi22: the check that a def's text is what the small language says. -/
namespace Mi
open PySem PySem.Spec PyProof.Rows L2
/-- names of the program -/
structure Gk where
  nm : Nat → Str
  has : Nat → Bool
  free : Str → Bool
  con : Str → Option D
  kw : List (Nat × List Str × List Nat)
/-- names of a block -/
structure Kc where
  N : List Str
  sc : Scope
  fn : Str → Bool
def Kc.blk (k : Kc) (scope : Scope) : Kc := ⟨k.N, relS scope k.sc, fun x => scope.names.lookup x == some .cell⟩
def plainN (x : Str) : Bool := !(x == ("__debug__" : Str)) && !(x == ("__classdict__" : Str))
def Kc.vis (k : Kc) (x : Str) : Bool := match k.sc.names.lookup x with
  | some .local => true
  | some .cell => true
  | some .free => true
  | _ => false
def Kc.glb (k : Kc) (x : Str) : Bool := match k.sc.names.lookup x with
  | some .globalImplicit => true
  | _ => false
def Kc.slot (k : Kc) (i : Nat) (x : Str) : Bool := decide (k.N[i]? = some x) && k.vis x && plainN x
def Kc.loc (k : Kc) (x : Str) : Bool := match k.sc.names.lookup x with
  | some .local => true
  | _ => false
def Kc.st (k : Kc) (i : Nat) (x : Str) : Bool := decide (k.N[i]? = some x) && (k.loc x || (match k.sc.names.lookup x with | some .cell => k.fn x | _ => false))
def nameB : Bi → Str
  | .len => "len"
  | .all => "all"
  | .any => "any"
  | .min2 => "min"
  | .max2 => "max"
  | .sum => "sum"
  | .abs => "abs"
  | .int => "int"
  | .tuple => "tuple"
  | .list => "list"
  | .sorted => "sorted"
  | .repr => "repr"
  | .str => "str"
  | .divmod => "divmod"
def okC (G : Gk) (k : Kc) : D → Expr → Bool
  | .non, .Constant .none _ _ => true
  | .bl b, .Constant (.bool c) _ _ => b == c
  | .int i, .Constant (.int j) _ _ => decide (i = j)
  | .str x, .Constant (.str y) _ _ => decide (x = y)
  | .fn f, .Name x _ => G.has f && decide (G.nm f = x) && k.glb x && plainN x
  | .int i, .Name x _ => (match G.con x with | some (.int j) => decide (i = j) | _ => false) && k.glb x && plainN x
  | .str i, .Name x _ => (match G.con x with | some (.str j) => decide (i = j) | _ => false) && k.glb x && plainN x
  | _, _ => false
def isOp (o : Bo) : Operator → Bool
  | .Add => (match o with | .add => true | _ => false)
  | .Sub => (match o with | .sub => true | _ => false)
  | .Mult => (match o with | .mul => true | _ => false)
  | .FloorDiv => (match o with | .fdiv => true | _ => false)
  | .Mod => (match o with | .mod => true | _ => false)
  | .Pow => (match o with | .pow => true | _ => false)
  | _ => false
def isCo (o : Co) : CmpOp → Bool
  | .Eq => (match o with | .eq => true | _ => false)
  | .NotEq => (match o with | .ne => true | _ => false)
  | .Lt => (match o with | .lt => true | _ => false)
  | .LtE => (match o with | .le => true | _ => false)
  | .Gt => (match o with | .gt => true | _ => false)
  | .GtE => (match o with | .ge => true | _ => false)
  | .In => (match o with | .isin => true | _ => false)
  | .NotIn => (match o with | .notin => true | _ => false)
  | .Is => (match o with | .is => true | _ => false)
  | .IsNot => (match o with | .isnt => true | _ => false)
theorem isOp_ok {o : Bo} {op : Operator} (h : isOp o op = true) : op = opBo o := by
  cases op <;> cases o <;> first | rfl | cases h
theorem isCo_ok {o : Co} {op : CmpOp} (h : isCo o op = true) : op = opCo o := by
  cases op <;> cases o <;> first | rfl | cases h
/-- a test of a form that its value tells -/
def plainT : Expr → Bool
  | .UnaryOp .Not _ _ => false
  | .BoolOp _ _ _ => false
  | .IfExp _ _ _ _ => false
  | .Compare _ _ _ _ => false
  | _ => true
theorem plainT_ok {e : Expr} {env : Env} (h : plainT e = true) : ∀ whole, isTrue e env whole = (do let v ← whole; standAt e.pos; holding [v] (truthy v)) := by
  intro whole
  cases e with
  | UnaryOp op x p => cases op <;> first | rfl | cases h
  | BoolOp _ _ _ => cases h
  | IfExp _ _ _ _ => cases h
  | Compare _ _ _ _ => cases h
  | _ => rfl
def okTst : ME → Expr → Bool
  | .no _, .UnaryOp .Not _ _ => true
  | .and _ _, .BoolOp _ _ _ => true
  | .or _ _, .BoolOp _ _ _ => true
  | .cmp _ _ _, .Compare _ _ _ _ => true
  | .chain _ _ _ _ _, .Compare _ _ _ _ => true
  | _, x => plainT x
def isAnd : ME → Bool
  | .and _ _ => true
  | _ => false
def isOr : ME → Bool
  | .or _ _ => true
  | _ => false
def one1 : Expr → Bool
  | .Constant (.int i) _ _ => decide (i = 1)
  | _ => false
def ownP (N : List Str) (own : List Nat) : List (Str × Nat) := own.map fun i => ((N[i]?).getD "", i)
theorem ownP_ix (N : List Str) (own : List Nat) : (ownP N own).map (·.2) = own := by
  unfold ownP
  rw [List.map_map]
  exact List.map_id _
mutual
def gIx : MG → List Nat
  | .nm i => [i]
  | .tp gs => gsIx gs
  | .sub _ _ => []
def gsIx : MGs → List Nat
  | .nil => []
  | .cons g r => gIx g ++ gsIx r
end
def isTupE : Expr → Bool
  | .Tuple _ _ _ => true
  | _ => false
mutual
def okE (G : Gk) (k : Kc) : ME → Expr → Bool
  | .slot i, x => match x with
    | .Name n _ => k.slot i n
    | _ => false
  | .cst d, x => okC G k d x
  | .frz e, x => okE G k e x
  | .bin o a b, x => match x with
    | .BinOp l op r _ => isOp o op && okE G k a l && okE G k b r
    | _ => false
  | .neg a, x => match x with
    | .UnaryOp .USub y _ => okE G k a y
    | _ => false
  | .cmp o a b, x => match x with
    | .Compare l [op] [r] _ => isCo o op && okE G k a l && okE G k b r && !behindInMarks op r
    | _ => false
  | .chain o p a b d, x => match x with
    | .Compare l [op, op'] [r, t] _ => isCo o op && isCo p op' && okE G k a l && okE G k b r && okE G k d t && !lastMarks [op, op'] [r, t]
    | _ => false
  | .no a, x => match x with
    | .UnaryOp .Not y _ => okE G k a y && okTst a y
    | _ => false
  | .and a b, x => match x with
    | .BoolOp .And (l :: r :: rest) q => okE G k a l && okTst a l && (match rest with
      | [] => okE G k b r && okTst b r
      | _ => isAnd b && okE G k b (.BoolOp .And (r :: rest) q))
    | _ => false
  | .or a b, x => match x with
    | .BoolOp .Or (l :: r :: rest) q => okE G k a l && okTst a l && (match rest with
      | [] => okE G k b r && okTst b r
      | _ => isOr b && okE G k b (.BoolOp .Or (r :: rest) q))
    | _ => false
  | .ife t a b, x => match x with
    | .IfExp c l r _ => okE G k t c && okTst t c && okE G k a l && okE G k b r
    | _ => false
  | .tup es, x => match x with
    | .Tuple xs _ _ => okEs G k es xs
    | _ => false
  | .lst es, x => match x with
    | .List xs _ => okEs G k es xs
    | _ => false
  | .cell es, x => match x with
    | .List xs _ => okEs G k es xs
    | _ => false
  | .dic0, x => match x with
    | .Dict [] [] _ => true
    | _ => false
  | .ix a b, x => match x with
    | .Subscript l r _ => okE G k a l && okE G k b r && plainIx r
    | _ => false
  | .sl a lo hi, x => match x with
    | .Subscript l (.Slice p q none _) _ => okE G k a l && okO G k lo p && okO G k hi q
    | _ => false
  | .rev a, x => match x with
    | .Subscript l (.Slice none none (some (.UnaryOp .USub o _)) _) _ => okE G k a l && one1 o
    | _ => false
  | .isi a ts, x => match x with
    | .Call (.Name f _) [l, t] [] _ => decide (f = "isinstance") && k.glb f && G.free f && notStar l && okE G k a l && (match t with
      | .Name n _ => (match ts with
        | [u] => decide (n = tyName u) && decide (u ≠ .non) && G.free n && k.glb n
        | _ => false)
      | .Tuple xs _ _ => tyNames G.free k.sc ts xs && decide (ts.length < 10)
      | _ => false)
    | _ => false
  | .call f es, x => match x with
    | .Call (.Name n _) (y :: ys) [] _ => G.has f && decide (G.nm f = n) && k.glb n && plainN n && notStars (y :: ys) && okEs G k es (y :: ys)
    | _ => false
  | .callK f es perm, x => match x with
    | .Call (.Name n _) [] kws _ => G.has f && decide (G.nm f = n) && k.glb n && plainN n && okKs G k es kws && decide (lenMEs es = kws.length) && (match kwNames kws with
      | some ks => decide ((f, ks, perm) ∈ G.kw)
      | none => false)
    | _ => false
  | .lcall i es, x => match x with
    | .Call (.Name n _) (y :: ys) [] _ => k.slot i n && notStars (y :: ys) && okEs G k es (y :: ys)
    | _ => false
  | .bi b es, x => match x with
    | .Call (.Name n _) (y :: ys) [] _ => decide (n = nameB b) && k.glb n && G.free n && notStars (y :: ys) && okEs G k es (y :: ys)
    | _ => false
  | .mt m a es, x => match x with
    | .Call (.Attribute o n ap) [y] [] cp => decide (n = nameM m) && decide (m ≠ .get) && okE G k a o && okEs G k es [y] && notStar y && (ap.endLine == cp.line) && notCall o
    | _ => false
  | .comp mu g src t e own, x => match x with
    | .ListComp elt [⟨tg, iter, ifs, 0⟩] scope _ => okI G k src tg iter && blkC k.N k.sc scope (ownP k.N own) && okG G (k.blk scope) g tg && okT G (k.blk scope) t ifs && okE G (k.blk scope) e elt && (gIx g).all (fun i => decide (i ∈ own)) && notSet iter
    | _ => false
  | .dcomp mu g src t kd vd own, x => match x with
    | .DictComp kx vx [⟨tg, iter, ifs, 0⟩] scope _ => okI G k src tg iter && blkC k.N k.sc scope (ownP k.N own) && okG G (k.blk scope) g tg && okT G (k.blk scope) t ifs && okE G (k.blk scope) kd kx && okE G (k.blk scope) vd vx && (gIx g).all (fun i => decide (i ∈ own)) && notSet iter
    | _ => false
def okEs (G : Gk) (k : Kc) : MEs → List Expr → Bool
  | .nil, xs => match xs with
    | [] => true
    | _ => false
  | .cons e r, xs => match xs with
    | x :: ys => okE G k e x && notStar x && okEs G k r ys
    | _ => false
def okKs (G : Gk) (k : Kc) : MEs → List Keyword → Bool
  | .nil, xs => match xs with
    | [] => true
    | _ => false
  | .cons e r, xs => match xs with
    | ⟨_, x, _⟩ :: ys => okE G k e x && okKs G k r ys
    | _ => false
def okO (G : Gk) (k : Kc) : MO → Option Expr → Bool
  | .no, x => match x with
    | none => true
    | _ => false
  | .so e, x => match x with
    | some y => okE G k e y
    | _ => false
def okT (G : Gk) (k : Kc) : MO → List Expr → Bool
  | .no, x => match x with
    | [] => true
    | _ => false
  | .so e, x => match x with
    | [y] => okE G k e y && okTst e y
    | _ => false
def okG (G : Gk) (k : Kc) : MG → Expr → Bool
  | .nm i, x => match x with
    | .Name n _ => k.st i n
    | _ => false
  | .tp gs, x => match x with
    | .Tuple xs _ _ => notStars xs && okGs G k gs xs
    | _ => false
  | .sub a b, x => match x with
    | .Subscript l r _ => okE G k a l && okE G k b r && plainIx r
    | _ => false
def okGs (G : Gk) (k : Kc) : MGs → List Expr → Bool
  | .nil, xs => match xs with
    | [] => true
    | _ => false
  | .cons g r, xs => match xs with
    | x :: ys => okG G k g x && notStar x && okGs G k r ys
    | _ => false
def okI (G : Gk) (k : Kc) : MI → Expr → Expr → Bool
  | .it e, _, x => okE G k e x
  | .rng e, _, x => match x with
    | .Call (.Name f _) [l] [] _ => decide (f = "range") && k.glb f && G.free f && notStar l && okE G k e l
    | _ => false
  | .rng2 a b, _, x => match x with
    | .Call (.Name f _) [l, r] [] _ => decide (f = "range") && k.glb f && G.free f && notStar l && notStar r && okE G k a l && okE G k b r
    | _ => false
  | .zip2 a b, tg, x => match x with
    | .Call (.Name f _) [l, r] [] _ => isTupE tg && decide (f = "zip") && k.glb f && G.free f && notStar l && notStar r && okE G k a l && okE G k b r
    | _ => false
  | .zip3 a b d, tg, x => match x with
    | .Call (.Name f _) [l, r, t] [] _ => isTupE tg && decide (f = "zip") && k.glb f && G.free f && notStar l && notStar r && notStar t && okE G k a l && okE G k b r && okE G k d t
    | _ => false
  | .enu e, tg, x => match x with
    | .Call (.Name f _) [l] [] _ => isTupE tg && decide (f = "enumerate") && k.glb f && G.free f && notStar l && okE G k e l
    | _ => false
end
/-! ### statements -/
def notComp : Expr → Bool
  | .ListComp _ _ _ _ => false
  | .SetComp _ _ _ _ => false
  | .DictComp _ _ _ _ _ => false
  | _ => true
/-- the comprehension stores into the name by itself -/
def Kc.sw (k : Kc) (x : Str) (px : Pos) (s : Scope) (p : Pos) : Bool := k.loc x && (px.line == p.line) && !(s.names.any fun (n, kk) => n == x && (kk == .local || kk == .cell))
def isCompM : ME → Bool
  | .comp _ _ _ _ _ _ => true
  | _ => false
def isDCompM : ME → Bool
  | .dcomp _ _ _ _ _ _ _ => true
  | _ => false
def okSet (k : Kc) (e : ME) (x : Str) (px : Pos) : Expr → Bool
  | .ListComp _ _ s p => !k.sw x px s p || isCompM e
  | .DictComp _ _ _ s p => !k.sw x px s p || isDCompM e
  | .SetComp _ _ _ _ => false
  | _ => true
/-- no swap of the stores -/
def okSs (k : Kc) : Expr → Expr → Bool
  | .Tuple ts _ _, .Tuple vs _ _ => (!(ts.length == 2 || ts.length == 3) || vs.length != ts.length) || (ts.filterMap fun | .Name n p => (if (k.sc.names.lookup n == some .local && p.line == (ts.head?.map (·.pos.line)).getD 0) = true then some n else none) | _ => none).length != ts.length || vs.all (foldedForSure 8)
  | .Name _ _, _ => false
  | .List _ _, _ => false
  | _, _ => true
mutual
def okS (G : Gk) (k : Kc) : MS → Stmt → Bool
  | .set i e, x => match x with
    | .Assign [.Name n p] v _ => k.st i n && okE G k e v && okSet k e n p v
    | _ => false
  | .asg g e, x => match x with
    | .Assign [t] v _ => okE G k e v && okG G k g t && okSs k t v && notStar t
    | _ => false
  | .par2 i j a b, x => match x with
    | .Assign [.Tuple [.Name n p, .Name n' p'] _ _] (.Tuple [l, r] _ _) _ => decide (k.N[i]? = some n) && decide (k.N[j]? = some n') && decide (i ≠ j) && decide (n ≠ n') && k.loc n && k.loc n' && (p'.line == p.line) && notStar l && notStar r && okE G k a l && okE G k b r && !(foldedForSure 8 l && foldedForSure 8 r) && !(constantsAlone 8 l && constantsAlone 8 r)
    | _ => false
  | .par3 _ _ _ _ _ _, _ => false
  | .aug i o e, x => match x with
    | .AugAssign (.Name n _) op v _ => isOp o op && (match o with | .add => true | .sub => true | _ => false) && k.st i n && okE G k e v
    | _ => false
  | .ex e, x => match x with
    | .Expr v _ => okE G k e v && notComp v
    | _ => false
  | .ret e, x => match x with
    | .Return (some v) _ => okE G k e v
    | _ => false
  | .ifs t a b, x => match x with
    | .If c l r _ => okE G k t c && okTst t c && okB G k a l && okB G k b r
    | _ => false
  | .fors g src b, x => match x with
    | .For tg iter body [] _ => okI G k src tg iter && okG G k g tg && okB G k b body && notSet iter
    | _ => false
  | .whl t b, x => match x with
    | .While c body [] _ => okE G k t c && okTst t c && okB G k b body
    | _ => false
  | .brk, x => match x with
    | .Break _ => true
    | _ => false
  | .cnt, x => match x with
    | .Continue _ => true
    | _ => false
  | .pas, x => match x with
    | .Pass _ => true
    | _ => false
  | .never, _ => true
  | .gfrz _, _ => false
def okB (G : Gk) (k : Kc) : MSs → List Stmt → Bool
  | .nil, xs => match xs with
    | [] => true
    | _ => false
  | .cons (.gfrz _) r, xs => okB G k r xs
  | .cons s r, xs => match xs with
    | x :: ys => okS G k s x && okB G k r ys
    | _ => false
end
/-- a def's body, its words ahead left out -/
def okBody (G : Gk) (k : Kc) (b : MSs) : List Stmt → Bool
  | .Expr (.Constant (.str _) _ _) _ :: xs => okB G k b xs
  | xs => okB G k b xs
end Mi
set_option Elab.async false
set_option linter.all false
set_option maxRecDepth 100000
set_option maxHeartbeats 1000000
/-! Mi23: what passes the check is computed by the text. -/
namespace Mi
open PySem PySem.Spec PyProof.Rows L2
structure GkOk (G : Gk) (g : Ge) : Prop where
  nm : ∀ f, G.has f = true → G.nm f = g.nm f ∧ (g.tab f).isSome = true
  free : ∀ x, G.free x = true → g.mg x = none
  con : ∀ x d, G.con x = some d → ∃ v u, g.mg x = some u ∧ RelV v u ∧ (∀ i, d = .int i → v = .int i) ∧ (∀ s, d = .str s → v = .str s)
  kw : ∀ f ks perm, (f, ks, perm) ∈ G.kw → KwB (g.fd f) (g.ps f) ks perm
structure KOk (k : Kc) (X : Cx) : Prop where
  N : X.N = k.N
  sc : X.env.scope = k.sc
  fn : X.fn = k.fn
def ccOf (g : Ge) (n : Nat) : Cc := ⟨callN g.tab g.wf n, g.wf, fun f => (g.tab f).isSome⟩
section
variable {g : Ge} {G : Gk} {n : Nat} {k : Kc} {X : Cx} {W : WX}
theorem plainN_ok {x : Str} (h : plainN x = true) : (x == ("__debug__" : Str)) = false ∧ (x == ("__classdict__" : Str)) = false := by
  have q := Bool.and_eq_true_iff.mp h
  exact ⟨by simpa using q.1, by simpa using q.2⟩
theorem glb_ok (hk : KOk k X) {x : Str} (h : k.glb x = true) : Gl X x := by
  unfold Kc.glb at h
  show X.env.scope.names.lookup x = some .globalImplicit
  rw [hk.sc]
  split at h
  · assumption
  · cases h
theorem vis_ok (hk : KOk k X) {x : Str} (h : k.vis x = true) : Vis X.env.scope x := by
  unfold Kc.vis at h
  unfold Vis
  rw [hk.sc]
  split at h
  · exact .inl ‹_›
  · exact .inr (.inl ‹_›)
  · exact .inr (.inr ‹_›)
  · cases h
theorem slot_ok (hk : KOk k X) {i : Nat} {x : Str} (h : k.slot i x = true) : X.N[i]? = some x ∧ Vis X.env.scope x ∧ (x == ("__debug__" : Str)) = false ∧ (x == ("__classdict__" : Str)) = false := by
  unfold Kc.slot at h
  simp only [Bool.and_eq_true, decide_eq_true_eq] at h
  obtain ⟨⟨h1, h2⟩, h3⟩ := h
  exact ⟨by rw [hk.N]; exact h1, vis_ok hk h2, (plainN_ok h3).1, (plainN_ok h3).2⟩
theorem loc_ok (hk : KOk k X) {x : Str} (h : k.loc x = true) : X.env.scope.names.lookup x = some .local := by
  unfold Kc.loc at h
  rw [hk.sc]
  split at h
  · assumption
  · cases h
theorem st_ok (hk : KOk k X) {i : Nat} {x : Str} (h : k.st i x = true) : X.N[i]? = some x ∧ Loc X.env.scope x ∧ (X.fn x = true ∨ X.env.scope.names.lookup x = some .local) := by
  unfold Kc.st at h
  simp only [Bool.and_eq_true, Bool.or_eq_true, decide_eq_true_eq] at h
  obtain ⟨h1, h2⟩ := h
  refine ⟨by rw [hk.N]; exact h1, ?_⟩
  rcases h2 with h2 | h2
  · exact ⟨.inl (loc_ok hk h2), .inr (loc_ok hk h2)⟩
  · split at h2
    · rename_i e
      exact ⟨.inr (by rw [hk.sc]; exact e), .inl (by rw [hk.fn]; exact h2)⟩
    · cases h2
/-- a block of a comprehension is of the program, too -/
theorem In.blk (hi : In g X W n) {scope : Scope} {Y : Cx} (hY : Blk X scope Y) : In g Y W0 n := by
  obtain ⟨s, H, C, cl, fp, rfl⟩ := hY
  refine ⟨hi.P, hi.w, hi.K, hi.mg, hi.base, hi.room, hi.guards, hi.calm, hi.nd, fun σ pins H s e s' I c => ?_⟩
  obtain ⟨_, _, _, _, _, _, _, _, _, _, _, _, z⟩ := c
  exact z.elim
theorem KOk.blk (hk : KOk k X) {scope : Scope} {Y : Cx} (hY : Blk X scope Y) : KOk (k.blk scope) Y := by
  obtain ⟨s, H, C, cl, fp, rfl⟩ := hY
  refine ⟨hk.N, ?_, rfl⟩
  show relS scope X.env.scope = relS scope k.sc
  rw [hk.sc]
theorem Blk.tb {scope : Scope} {Y : Cx} (hY : Blk X scope Y) (fa ca : Nat → Addr) : Mi.tb Y fa ca = Mi.tb X fa ca := by
  obtain ⟨s, H, C, cl, fp, rfl⟩ := hY
  rfl
/-- what is shown of an expression -/
abbrev SoE (g : Ge) (G : Gk) (n : Nat) (e : ME) : Prop := ∀ (k : Kc) (X : Cx) (W : WX) (x : Expr), In g X W n → KOk k X → okE G k e x = true →
  PE X x (eRd (tb X g.fa g.ca) W (evE (ccOf g n) e)) ∧ (okTst e x = true → PT X x (tbRd (tb X g.fa g.ca) W (evE (ccOf g n) e))) ∧
  ((isAnd e || isOr e) = true → ∀ op xs q, x = .BoolOp op xs q → PW X x (tbRd (tb X g.fa g.ca) W (evE (ccOf g n) e)))
abbrev SoEs (g : Ge) (G : Gk) (n : Nat) (es : MEs) : Prop := ∀ (k : Kc) (X : Cx) (W : WX), In g X W n → KOk k X → (∀ xs, okEs G k es xs = true → PA X xs (aRd (tb X g.fa g.ca) W (evEs (ccOf g n) es))) ∧ ∀ xs, okKs G k es xs = true → PK X xs (aRd (tb X g.fa g.ca) W (evEs (ccOf g n) es))
abbrev SoO (g : Ge) (G : Gk) (n : Nat) (o : MO) : Prop := ∀ (k : Kc) (X : Cx) (W : WX), In g X W n → KOk k X → (∀ x, okO G k o x = true → PO X x (oRd (tb X g.fa g.ca) W (evO (ccOf g n) o))) ∧ (W = W0 → ∀ xs, okT G k o xs = true → PTs X xs (bRd (tb X g.fa g.ca) W0 (evT (ccOf g n) o)))
abbrev SoG (g : Ge) (G : Gk) (n : Nat) (t : MG) : Prop := ∀ (k : Kc) (X : Cx) (W : WX) (x : Expr), In g X W n → KOk k X → okG G k t x = true → PG X x (gRd (tb X g.fa g.ca) (gIx t) (evG (ccOf g n) t))
abbrev SoGs (g : Ge) (G : Gk) (n : Nat) (t : MGs) : Prop := ∀ (k : Kc) (X : Cx) (W : WX) (xs : List Expr), In g X W n → KOk k X → okGs G k t xs = true → PGs X xs (gsRd (tb X g.fa g.ca) (gsIx t) (evGs (ccOf g n) t)) ∧ ∀ ds τ s, evGs (ccOf g n) t ds τ s ≠ .stuck → ds.length = xs.length
abbrev SoI (g : Ge) (G : Gk) (n : Nat) (o : MI) : Prop := ∀ (k : Kc) (X : Cx) (W : WX) (tg x : Expr), In g X W n → KOk k X → okI G k o tg x = true → PI X tg x (iRd (tb X g.fa g.ca) W (evI (ccOf g n) o))
theorem In.w0 (hi : In g X W n) : In g X W0 n :=
  ⟨hi.P, hi.w, hi.K, hi.mg, hi.base, hi.room, hi.guards, hi.calm, hi.nd, fun σ pins H s e s' I c => by
    obtain ⟨_, _, _, _, _, _, _, _, _, _, _, _, z⟩ := c
    exact z.elim⟩
theorem notSet_ok {e : Expr} {env : Env} (h : notSet e = true) : ∀ x, foldedSetIterable e env x = pure x := by
  intro x
  cases e <;> first | rfl | (simp [notSet] at h)
/-- of a plain form -/
theorem soe_of {e : ME} {x : Expr} {hi : In g X W n} (p : PE X x (eRd (tb X g.fa g.ca) W (evE (ccOf g n) e))) (h1 : ∀ x, okTst e x = true → plainT x = true) (h2 : (isAnd e || isOr e) = false) :
    PE X x (eRd (tb X g.fa g.ca) W (evE (ccOf g n) e)) ∧ (okTst e x = true → PT X x (tbRd (tb X g.fa g.ca) W (evE (ccOf g n) e))) ∧
  ((isAnd e || isOr e) = true → ∀ op xs q, x = .BoolOp op xs q → PW X x (tbRd (tb X g.fa g.ca) W (evE (ccOf g n) e))) :=
  ⟨p, fun ht => rt_val p (plainT_ok (h1 x ht)), fun hb => by rw [h2] at hb; cases hb⟩
theorem const_ok (ok : g.Ok) (gk : GkOk G g) (hi : In g X W n) (hk : KOk k X) {d : D} {x : Expr} (h : okC G k d x = true) : PE X x (eRd (tb X g.fa g.ca) W fun _ s => .ok d s) := by
  cases d with
  | non =>
    cases x with
    | Constant c _ _ => cases c <;> first | exact rd_const pe_non (fun _ _ => .non) | cases h
    | _ => cases h
  | bl b =>
    cases x with
    | Constant c _ _ =>
      cases c with
      | bool c =>
        have e : b = c := by simpa [okC] using h
        subst e
        exact rd_const pe_bl (fun _ _ => .bl _)
      | _ => cases h
    | _ => cases h
  | int i =>
    cases x with
    | Constant c _ _ =>
      cases c with
      | int c =>
        have e : i = c := by simpa [okC] using h
        subst e
        exact rd_const pe_int (fun _ _ => .int _)
      | _ => cases h
    | Name y _ =>
      simp only [okC, Bool.and_eq_true] at h
      obtain ⟨⟨h1, h2⟩, h3⟩ := h
      split at h1
      · rename_i j e
        obtain ⟨v, u, e1, e2, e3, _⟩ := gk.con _ _ e
        have ei : i = j := by simpa using h1
        subst ei
        have ev := e3 i rfl
        subst ev
        exact rd_const (pe_glob (glb_ok hk h2) (by rw [hi.mg]; exact e1) e2 (plainN_ok h3).1) (fun _ _ => .int _)
      · cases h1
    | _ => cases h
  | str z =>
    cases x with
    | Constant c _ _ =>
      cases c with
      | str c =>
        have e : z = c := by simpa [okC] using h
        subst e
        exact rd_const pe_str (fun _ _ => .str _)
      | _ => cases h
    | Name y _ =>
      simp only [okC, Bool.and_eq_true] at h
      obtain ⟨⟨h1, h2⟩, h3⟩ := h
      split at h1
      · rename_i j e
        obtain ⟨v, u, e1, e2, _, e3⟩ := gk.con _ _ e
        have ei : z = j := by simpa using h1
        subst ei
        have ev := e3 z rfl
        subst ev
        exact rd_const (pe_glob (glb_ok hk h2) (by rw [hi.mg]; exact e1) e2 (plainN_ok h3).1) (fun _ _ => .str _)
      · cases h1
    | _ => cases h
  | fn f =>
    cases x with
    | Name y _ =>
      simp only [okC, Bool.and_eq_true, decide_eq_true_eq] at h
      obtain ⟨⟨⟨h1, h2⟩, h3⟩, h4⟩ := h
      obtain ⟨e1, e2⟩ := gk.nm f h1
      obtain ⟨e, he⟩ := Option.isSome_iff_exists.mp e2
      refine rd_const (v := .ref (g.fa f)) (pe_glob (u := .ref (g.fa f)) (glb_ok hk h3) ?_ rfl (plainN_ok h4).1) (fun _ _ => .fn f)
      rw [hi.mg, ← h2, e1]
      exact (ok.at_ f e he).1
    | _ => cases h
  | _ => cases x <;> cases h
theorem bi_ok (gk : GkOk G g) (hi : In g X W n) (hk : KOk k X) {b : Bi} {y : Expr} {ys : List Expr} {evs : Tau → S → Res (List D)} {p pos : Pos} (h1 : k.glb (nameB b) = true) (h2 : G.free (nameB b) = true) (h3 : notStars (y :: ys) = true) (ha : PA X (y :: ys) (aRd (tb X g.fa g.ca) W evs)) :
    PE X (.Call (.Name (nameB b) p) (y :: ys) [] pos) (eRd (tb X g.fa g.ca) W fun τ s => (evs τ s).bind fun ds s1 => evBi b ds s1) := by
  have hm : X.mg (nameB b) = none := by rw [hi.mg]; exact gk.free _ h2
  have hg := glb_ok hk h1
  have hu := hi.un
  cases b with
  | len => exact rd_bi (fun _ => bi_len) hg hm rfl (by decide) (by decide) ha h3
  | all => exact rd_bi (fun _ => bi_all hi.calm) hg hm rfl (by decide) (by decide) ha h3
  | any => exact rd_bi (fun _ => bi_any hi.calm) hg hm rfl (by decide) (by decide) ha h3
  | sum => exact rd_bi (fun _ => bi_sum hi.calm) hg hm rfl (by decide) (by decide) ha h3
  | min2 => exact rd_bi (fun _ => bi_min2 hi.calm hu) hg hm rfl (by decide) (by decide) ha h3
  | max2 => exact rd_bi (fun _ => bi_max2 hi.calm) hg hm rfl (by decide) (by decide) ha h3
  | abs => exact rd_bi (fun _ => bi_abs) hg hm rfl (by decide) (by decide) ha h3
  | sorted => exact rd_bi (fun _ => bi_sorted hi.calm hu) hg hm rfl (by decide) (by decide) ha h3
  | repr => exact rd_bi (fun _ => bi_repr hu hi.guards) hg hm rfl (by decide) (by decide) ha h3
  | divmod => exact rd_bi (fun _ => bi_divmod) hg hm rfl (by decide) (by decide) ha h3
  | int => exact rd_biT (fun _ => bi_int) hg hm rfl (by decide) (by decide) ha h3
  | str => exact rd_biT (fun _ => bi_str) hg hm rfl (by decide) (by decide) ha h3
  | tuple => exact rd_biT (fun _ => bi_tuple) hg hm rfl (by decide) (by decide) ha h3
  | list => exact rd_biT (fun _ => bi_list) hg hm rfl (by decide) (by decide) ha h3
theorem tst_ok {a : ME} {y : Expr} (h : PE X y (eRd (tb X g.fa g.ca) W (evE (ccOf g n) a)) ∧ (okTst a y = true → PT X y (tbRd (tb X g.fa g.ca) W (evE (ccOf g n) a))) ∧
  ((isAnd a || isOr a) = true → ∀ op xs q, y = .BoolOp op xs q → PW X y (tbRd (tb X g.fa g.ca) W (evE (ccOf g n) a)))) (ht : okTst a y = true) : PT X y (tbRd (tb X g.fa g.ca) W (evE (ccOf g n) a)) := h.2.1 ht
mutual
theorem soE (ok : g.Ok) (all : g.All n) (gk : GkOk G g) : ∀ e : ME, SoE g G n e
  | .slot i => by
    intro k X W x hi hk h
    refine soe_of (hi := hi) ?_ (fun _ z => z) rfl
    cases x with
    | Name y p =>
      obtain ⟨h1, h2, h3, h4⟩ := slot_ok hk (show k.slot i y = true from h)
      exact rd_slot h1 h2 h3 h4
    | _ => cases h
  | .cst d => by
    intro k X W x hi hk h
    exact soe_of (hi := hi) (const_ok ok gk hi hk h) (fun _ z => z) rfl
  | .frz e => by
    intro k X W x hi hk h
    exact soe_of (hi := hi) (rd_frz (soE ok all gk e k X W x hi hk h).1) (fun _ z => z) rfl
  | .bin o a b => by
    intro k X W x hi hk h
    refine soe_of (hi := hi) ?_ (fun _ z => z) rfl
    cases x with
    | BinOp l op r p =>
      have h : (isOp o op && okE G k a l && okE G k b r) = true := h
      simp only [Bool.and_eq_true] at h
      obtain ⟨⟨h1, h2⟩, h3⟩ := h
      rw [isOp_ok h1]
      exact rd_bin o (soE ok all gk a k X W l hi hk h2).1 (soE ok all gk b k X W r hi hk h3).1
    | _ => cases h
  | .neg a => by
    intro k X W x hi hk h
    refine soe_of (hi := hi) ?_ (fun _ z => z) rfl
    cases x with
    | UnaryOp op y p =>
      cases op with
      | USub => exact rd_neg (soE ok all gk a k X W y hi hk h).1
      | _ => cases h
    | _ => cases h
  | .cmp o a b => by
    intro k X W x hi hk h
    cases x with
    | Compare l ops rs p =>
      match ops, rs, h with
      | [op], [r], h =>
        have h : (isCo o op && okE G k a l && okE G k b r && !behindInMarks op r) = true := h
        simp only [Bool.and_eq_true, Bool.not_eq_true'] at h
        obtain ⟨⟨⟨h1, h2⟩, h3⟩, h4⟩ := h
        have ho := isCo_ok h1
        subst ho
        have pa := (soE ok all gk a k X W l hi hk h2).1
        have pb := (soE ok all gk b k X W r hi hk h3).1
        exact ⟨rd_cmp hi.un o pa pb h4, fun _ => rt_cmp hi.un o pa pb h4, fun z => by cases z⟩
      | [], _, h => cases h
      | [_], [], h => cases h
      | [_], _ :: _ :: _, h => cases h
      | _ :: _ :: _, _, h => cases h
    | _ => cases h
  | .chain o p a b d => by
    intro k X W x hi hk h
    cases x with
    | Compare l ops rs q =>
      match ops, rs, h with
      | [op, op'], [r, t], h =>
        have h : (isCo o op && isCo p op' && okE G k a l && okE G k b r && okE G k d t && !lastMarks [op, op'] [r, t]) = true := h
        simp only [Bool.and_eq_true, Bool.not_eq_true'] at h
        obtain ⟨⟨⟨⟨⟨h1, h2⟩, h3⟩, h4⟩, h5⟩, h6⟩ := h
        have ho := isCo_ok h1
        subst ho
        have ho := isCo_ok h2
        subst ho
        have pa := (soE ok all gk a k X W l hi hk h3).1
        have pb := (soE ok all gk b k X W r hi hk h4).1
        have pd := (soE ok all gk d k X W t hi hk h5).1
        exact ⟨rd_chain hi.un o p pa pb pd h6, fun _ => rt_chain hi.un o p pa pb pd h6, fun z => by cases z⟩
      | [], _, h => cases h
      | [_], _, h => cases h
      | [_, _], [], h => cases h
      | [_, _], [_], h => cases h
      | [_, _], _ :: _ :: _ :: _, h => cases h
      | _ :: _ :: _ :: _, _, h => cases h
    | _ => cases h
  | .no a => by
    intro k X W x hi hk h
    cases x with
    | UnaryOp op y p =>
      cases op with
      | Not =>
        have h : (okE G k a y && okTst a y) = true := h
        simp only [Bool.and_eq_true] at h
        have pa := soE ok all gk a k X W y hi hk h.1
        exact ⟨rd_no pa.1, fun _ => rt_no (tst_ok pa h.2), fun z => by cases z⟩
      | _ => cases h
    | _ => cases h
  | .and a b => by
    intro k X W x hi hk h
    cases x with
    | BoolOp op xs q =>
      match op, xs, h with
      | .And, l :: r :: rest, h =>
        have hq : okE G k a l = true ∧ okTst a l = true ∧ PE X (.BoolOp .And (r :: rest) q) (eRd (tb X g.fa g.ca) W (evE (ccOf g n) b)) ∧ PW X (.BoolOp .And (r :: rest) q) (tbRd (tb X g.fa g.ca) W (evE (ccOf g n) b)) := by
          cases rest with
          | nil =>
            have h : (okE G k a l && okTst a l && (okE G k b r && okTst b r)) = true := h
            simp only [Bool.and_eq_true] at h
            obtain ⟨⟨h1, h2⟩, h3⟩ := h
            have pb := soE ok all gk b k X W r hi hk h3.1
            exact ⟨h1, h2, pe_one pb.1, rt_one (tst_ok pb h3.2) (.inl rfl)⟩
          | cons r2 rest =>
            have h : (okE G k a l && okTst a l && (isAnd b && okE G k b (.BoolOp .And (r :: r2 :: rest) q))) = true := h
            simp only [Bool.and_eq_true] at h
            obtain ⟨⟨h1, h2⟩, h3⟩ := h
            have pb := soE ok all gk b k X W _ hi hk h3.2
            exact ⟨h1, h2, pb.1, pb.2.2 (by rw [h3.1] <;> rfl) _ _ _ rfl⟩
        obtain ⟨h1, h2, hb⟩ := hq
        have pa := soE ok all gk a k X W l hi hk h1
        have pw := rt_and (pa.2.1 h2) hb.2
        exact ⟨rd_and pa.1 hb.1, fun _ => pw.pt, fun _ op xs q e => by cases e; exact pw⟩
      | .Or, _, h => cases h
      | .And, [], h => cases h
      | .And, [_], h => cases h
    | _ => cases h
  | .or a b => by
    intro k X W x hi hk h
    cases x with
    | BoolOp op xs q =>
      match op, xs, h with
      | .Or, l :: r :: rest, h =>
        have hq : okE G k a l = true ∧ okTst a l = true ∧ PE X (.BoolOp .Or (r :: rest) q) (eRd (tb X g.fa g.ca) W (evE (ccOf g n) b)) ∧ PW X (.BoolOp .Or (r :: rest) q) (tbRd (tb X g.fa g.ca) W (evE (ccOf g n) b)) := by
          cases rest with
          | nil =>
            have h : (okE G k a l && okTst a l && (okE G k b r && okTst b r)) = true := h
            simp only [Bool.and_eq_true] at h
            obtain ⟨⟨h1, h2⟩, h3⟩ := h
            have pb := soE ok all gk b k X W r hi hk h3.1
            exact ⟨h1, h2, pe_one pb.1, rt_one (tst_ok pb h3.2) (.inr rfl)⟩
          | cons r2 rest =>
            have h : (okE G k a l && okTst a l && (isOr b && okE G k b (.BoolOp .Or (r :: r2 :: rest) q))) = true := h
            simp only [Bool.and_eq_true] at h
            obtain ⟨⟨h1, h2⟩, h3⟩ := h
            have pb := soE ok all gk b k X W _ hi hk h3.2
            exact ⟨h1, h2, pb.1, pb.2.2 (by rw [h3.1, Bool.or_true]) _ _ _ rfl⟩
        obtain ⟨h1, h2, hb⟩ := hq
        have pa := soE ok all gk a k X W l hi hk h1
        have pw := rt_or (pa.2.1 h2) hb.2
        exact ⟨rd_or pa.1 hb.1, fun _ => pw.pt, fun _ op xs q e => by cases e; exact pw⟩
      | .And, _, h => cases h
      | .Or, [], h => cases h
      | .Or, [_], h => cases h
    | _ => cases h
  | .ife t a b => by
    intro k X W x hi hk h
    refine soe_of (hi := hi) ?_ (fun _ z => z) rfl
    cases x with
    | IfExp c l r p =>
      have h : (okE G k t c && okTst t c && okE G k a l && okE G k b r) = true := h
      simp only [Bool.and_eq_true] at h
      obtain ⟨⟨⟨h1, h2⟩, h3⟩, h4⟩ := h
      exact rd_ife ((soE ok all gk t k X W c hi hk h1).2.1 h2) (soE ok all gk a k X W l hi hk h3).1 (soE ok all gk b k X W r hi hk h4).1
    | _ => cases h
  | .tup es => by
    intro k X W x hi hk h
    refine soe_of (hi := hi) ?_ (fun _ z => z) rfl
    cases x with
    | Tuple xs _ p => exact rd_tup ((soEs ok all gk es k X W hi hk).1 xs h)
    | _ => cases h
  | .lst es => by
    intro k X W x hi hk h
    refine soe_of (hi := hi) ?_ (fun _ z => z) rfl
    cases x with
    | List xs p => exact rd_lst ((soEs ok all gk es k X W hi hk).1 xs h)
    | _ => cases h
  | .cell es => by
    intro k X W x hi hk h
    refine soe_of (hi := hi) ?_ (fun _ z => z) rfl
    cases x with
    | List xs p => exact rd_cell ((soEs ok all gk es k X W hi hk).1 xs h)
    | _ => cases h
  | .dic0 => by
    intro k X W x hi hk h
    refine soe_of (hi := hi) ?_ (fun _ z => z) rfl
    cases x with
    | Dict ks vs p =>
      match ks, vs, h with
      | [], [], h => exact pe_dic0
      | [], _ :: _, h => cases h
      | _ :: _, _, h => cases h
    | _ => cases h
  | .ix a b => by
    intro k X W x hi hk h
    refine soe_of (hi := hi) ?_ (fun _ z => z) rfl
    cases x with
    | Subscript l r p =>
      have h : (okE G k a l && okE G k b r && plainIx r) = true := h
      simp only [Bool.and_eq_true] at h
      obtain ⟨⟨h1, h2⟩, h3⟩ := h
      exact rd_ix hi.un (soE ok all gk a k X W l hi hk h1).1 (soE ok all gk b k X W r hi hk h2).1 h3
    | _ => cases h
  | .sl a lo hi' => by
    intro k X W x hi hk h
    refine soe_of (hi := hi) ?_ (fun _ z => z) rfl
    cases x with
    | Subscript l r p =>
      cases r with
      | Slice q1 q2 q3 q4 =>
        cases q3 with
        | some _ => cases h
        | none =>
          have h : (okE G k a l && okO G k lo q1 && okO G k hi' q2) = true := h
          simp only [Bool.and_eq_true] at h
          obtain ⟨⟨h1, h2⟩, h3⟩ := h
          exact rd_sl (soE ok all gk a k X W l hi hk h1).1 ((soO ok all gk lo k X W hi hk).1 _ h2) ((soO ok all gk hi' k X W hi hk).1 _ h3)
      | _ => cases h
    | _ => cases h
  | .rev a => by
    intro k X W x hi hk h
    refine soe_of (hi := hi) ?_ (fun _ z => z) rfl
    cases x with
    | Subscript l r p =>
      cases r with
      | Slice q1 q2 q3 q4 =>
        match q1, q2, q3, h with
        | none, none, some (.UnaryOp .USub o q5), h =>
          have h : (okE G k a l && one1 o) = true := h
          simp only [Bool.and_eq_true] at h
          cases o with
          | Constant cc k1 q6 =>
            cases cc with
            | int i =>
              have e : i = 1 := by simpa [one1] using h.2
              subst e
              exact rd_rev (soE ok all gk a k X W l hi hk h.1).1
            | _ => cases h.2
          | _ => cases h.2
        | some _, _, _, h => cases h
        | none, some _, _, h => cases h
        | none, none, none, h => cases h
        | none, none, some q, h =>
          cases q with
          | UnaryOp op o q5 =>
            cases op with
            | USub =>
              have h : (okE G k a l && one1 o) = true := h
              simp only [Bool.and_eq_true] at h
              cases o with
              | Constant cc k1 q6 =>
                cases cc with
                | int i =>
                  have e : i = 1 := by simpa [one1] using h.2
                  subst e
                  exact rd_rev (soE ok all gk a k X W l hi hk h.1).1
                | _ => cases h.2
              | _ => cases h.2
            | _ => cases h
          | _ => cases h
      | _ => cases h
    | _ => cases h
  | .isi a ts => by
    intro k X W x hi hk h
    refine soe_of (hi := hi) ?_ (fun _ z => z) rfl
    cases x with
    | Call f as ks p =>
      match f, as, ks, h with
      | .Name y q, [l, t], [], h =>
        have hq : y = "isinstance" ∧ k.glb y = true ∧ G.free y = true ∧ notStar l = true ∧ okE G k a l = true ∧ ((∃ m q2 u, t = .Name m q2 ∧ ts = [u] ∧ m = tyName u ∧ u ≠ .non ∧ G.free m = true ∧ k.glb m = true) ∨ (∃ xs q2 q3, t = .Tuple xs q2 q3 ∧ tyNames G.free k.sc ts xs = true ∧ ts.length < 10)) := by
          cases t with
          | Name m q2 =>
            match ts, h with
            | [], h => simp [okE] at h
            | _ :: _ :: _, h => simp [okE] at h
            | [u], h =>
              have h : (decide (y = "isinstance") && k.glb y && G.free y && notStar l && okE G k a l && (decide (m = tyName u) && decide (u ≠ .non) && G.free m && k.glb m)) = true := h
              simp only [Bool.and_eq_true, decide_eq_true_eq] at h
              obtain ⟨⟨⟨⟨⟨h1, h2⟩, h3⟩, h4⟩, h5⟩, ⟨⟨h6, h7⟩, h8⟩, h9⟩ := h
              exact ⟨h1, h2, h3, h4, h5, .inl ⟨m, q2, u, rfl, rfl, h6, h7, h8, h9⟩⟩
          | Tuple xs q2 q3 =>
            have h : (decide (y = "isinstance") && k.glb y && G.free y && notStar l && okE G k a l && (tyNames G.free k.sc ts xs && decide (ts.length < 10))) = true := h
            simp only [Bool.and_eq_true, decide_eq_true_eq] at h
            obtain ⟨⟨⟨⟨⟨h1, h2⟩, h3⟩, h4⟩, h5⟩, h6, h7⟩ := h
            exact ⟨h1, h2, h3, h4, h5, .inr ⟨xs, q2, q3, rfl, h6, h7⟩⟩
          | _ => simp [okE] at h
        obtain ⟨rfl, h2, h3, h4, h5, h6⟩ := hq
        have hm : X.mg "isinstance" = none := by rw [hi.mg]; exact gk.free _ h3
        have pa := (soE ok all gk a k X W l hi hk h5).1
        rcases h6 with ⟨m, q2, u, rfl, rfl, rfl, h7, h8, h9⟩ | ⟨xs, q2, q3, rfl, h7, h8⟩
        · obtain ⟨z1, z2, z3⟩ := tyName_ok h7
          exact rd_isi1 pa h4 (glb_ok hk h2) hm (glb_ok hk h9) (by rw [hi.mg]; exact gk.free _ h8) z1 z2 z3
        · exact rd_isiT pa h4 (glb_ok hk h2) hm (fun x hx => by rw [hi.mg]; exact gk.free _ hx) (by rw [hk.sc]; exact h7) h8
      | .Name _ _, [_, _], _ :: _, h => cases h
      | .Name _ _, [], _, h => cases h
      | .Name _ _, [_], _, h => cases h
      | .Name _ _, _ :: _ :: _ :: _, _, h => cases h
      | .BoolOp _ _ _, _, _, h => cases h
      | .NamedExpr _ _ _, _, _, h => cases h
      | .BinOp _ _ _ _, _, _, h => cases h
      | .UnaryOp _ _ _, _, _, h => cases h
      | .Lambda _ _ _ _, _, _, h => cases h
      | .IfExp _ _ _ _, _, _, h => cases h
      | .Dict _ _ _, _, _, h => cases h
      | .Set _ _ _, _, _, h => cases h
      | .ListComp _ _ _ _, _, _, h => cases h
      | .SetComp _ _ _ _, _, _, h => cases h
      | .DictComp _ _ _ _ _, _, _, h => cases h
      | .GeneratorExp _ _ _ _, _, _, h => cases h
      | .Await _ _, _, _, h => cases h
      | .Yield _ _, _, _, h => cases h
      | .YieldFrom _ _, _, _, h => cases h
      | .Compare _ _ _ _, _, _, h => cases h
      | .Call _ _ _ _, _, _, h => cases h
      | .FormattedValue _ _ _ _, _, _, h => cases h
      | .JoinedStr _ _, _, _, h => cases h
      | .Constant _ _ _, _, _, h => cases h
      | .Attribute _ _ _, _, _, h => cases h
      | .Subscript _ _ _, _, _, h => cases h
      | .Starred _ _, _, _, h => cases h
      | .List _ _, _, _, h => cases h
      | .Tuple _ _ _, _, _, h => cases h
      | .Slice _ _ _ _, _, _, h => cases h
    | _ => cases h
  | .call f es => by
    intro k X W x hi hk h
    refine soe_of (hi := hi) ?_ (fun _ z => z) rfl
    cases x with
    | Call f' as ks p =>
      cases f' with
      | Name y q =>
        match as, ks, h with
        | [], _, h => cases h
        | _ :: _, _ :: _, h => cases h
        | l :: ls, [], h =>
          have h : (G.has f && decide (G.nm f = y) && k.glb y && plainN y && notStars (l :: ls) && okEs G k es (l :: ls)) = true := h
          simp only [Bool.and_eq_true, decide_eq_true_eq] at h
          obtain ⟨⟨⟨⟨⟨h1, h2⟩, h3⟩, h4⟩, h5⟩, h6⟩ := h
          obtain ⟨e1, e2⟩ := gk.nm f h1
          have pa := (soEs ok all gk es k X W hi hk).1 _ h6
          rw [← hi.T] at pa ⊢
          exact rd_call hi ok all e2 (by rw [← e1]; exact h2) (glb_ok hk h3) (plainN_ok h4).1 pa h5
      | _ => cases h
    | _ => cases h
  | .callK f es perm => by
    intro k X W x hi hk h
    refine soe_of (hi := hi) ?_ (fun _ z => z) rfl
    cases x with
    | Call f' as ks p =>
      cases f' with
      | Name y q =>
        match as, h with
        | _ :: _, h => cases h
        | [], h =>
          cases hks : kwNames ks with
          | none => simp [okE, hks] at h
          | some nms =>
            have h : (G.has f && decide (G.nm f = y) && k.glb y && plainN y && okKs G k es ks && decide (lenMEs es = ks.length) && (match kwNames ks with
              | some ks => decide ((f, ks, perm) ∈ G.kw)
              | none => false)) = true := h
            rw [hks] at h
            simp only [Bool.and_eq_true, decide_eq_true_eq] at h
            obtain ⟨⟨⟨⟨⟨⟨h1, h2⟩, h3⟩, h4⟩, h5⟩, h6⟩, h7⟩ := h
            obtain ⟨e1, e2⟩ := gk.nm f h1
            have pa := (soEs ok all gk es k X W hi hk).2 _ h5
            rw [← hi.T] at pa ⊢
            have q := rd_callK (pos := p) (p := q) hi ok all e2 (by rw [← e1]; exact h2) (glb_ok hk h3) (plainN_ok h4).1 hks (gk.kw f nms perm h7) pa
            rw [← h6] at q
            exact q
      | _ => cases h
    | _ => cases h
  | .lcall i es => by
    intro k X W x hi hk h
    refine soe_of (hi := hi) ?_ (fun _ z => z) rfl
    cases x with
    | Call f' as ks p =>
      cases f' with
      | Name y q =>
        match as, ks, h with
        | [], _, h => cases h
        | _ :: _, _ :: _, h => cases h
        | l :: ls, [], h =>
          have h : (k.slot i y && notStars (l :: ls) && okEs G k es (l :: ls)) = true := h
          simp only [Bool.and_eq_true] at h
          obtain ⟨⟨h1, h2⟩, h3⟩ := h
          obtain ⟨z1, z2, z3, z4⟩ := slot_ok hk h1
          have pa := (soEs ok all gk es k X W hi hk).1 _ h3
          rw [← hi.T] at pa ⊢
          exact rd_lcall hi ok all z1 z2 z3 z4 pa h2
      | _ => cases h
    | _ => cases h
  | .bi b es => by
    intro k X W x hi hk h
    refine soe_of (hi := hi) ?_ (fun _ z => z) rfl
    cases x with
    | Call f' as ks p =>
      cases f' with
      | Name y q =>
        match as, ks, h with
        | [], _, h => cases h
        | _ :: _, _ :: _, h => cases h
        | l :: ls, [], h =>
          have h : (decide (y = nameB b) && k.glb y && G.free y && notStars (l :: ls) && okEs G k es (l :: ls)) = true := h
          simp only [Bool.and_eq_true, decide_eq_true_eq] at h
          obtain ⟨⟨⟨⟨rfl, h2⟩, h3⟩, h4⟩, h5⟩ := h
          exact bi_ok gk hi hk h2 h3 h4 ((soEs ok all gk es k X W hi hk).1 _ h5)
      | _ => cases h
    | _ => cases h
  | .mt m a es => by
    intro k X W x hi hk h
    refine soe_of (hi := hi) ?_ (fun _ z => z) rfl
    cases x with
    | Call f' as ks p =>
      cases f' with
      | Attribute o nmm ap =>
        match as, ks, h with
        | [], _, h => cases h
        | [_], _ :: _, h => cases h
        | _ :: _ :: _, _, h => cases h
        | [l], [], h =>
          have h : (decide (nmm = nameM m) && decide (m ≠ .get) && okE G k a o && okEs G k es [l] && notStar l && (ap.endLine == p.line) && notCall o) = true := h
          simp only [Bool.and_eq_true, decide_eq_true_eq] at h
          obtain ⟨⟨⟨⟨⟨⟨rfl, h2⟩, h3⟩, h4⟩, h5⟩, h6⟩, h7⟩ := h
          exact rd_mt h7 hi.un m h2 (soE ok all gk a k X W _ hi hk h3).1 h6 ((soEs ok all gk es k X W hi hk).1 _ h4) h5
      | _ => cases h
    | _ => cases h
  | .comp mu t src ts e own => by
    intro k X W x hi hk h
    refine soe_of (hi := hi) ?_ (fun _ z => z) rfl
    cases x with
    | ListComp elt gens scope p =>
      match gens, h with
      | [], h => cases h
      | _ :: _ :: _, h => simp [okE] at h
      | [⟨tg, iter, ifs, as⟩], h =>
        by_cases ha : as = 0
        · subst ha
          have h : (okI G k src tg iter && blkC k.N k.sc scope (ownP k.N own) && okG G (k.blk scope) t tg && okT G (k.blk scope) ts ifs && okE G (k.blk scope) e elt && (gIx t).all (fun i => decide (i ∈ own)) && notSet iter) = true := h
          simp only [Bool.and_eq_true] at h
          obtain ⟨⟨⟨⟨⟨⟨h1, h2⟩, h3⟩, h4⟩, h5⟩, h6⟩, h7⟩ := h
          have q := rd_comp (pos := p) (fa := g.fa) (ca := g.ca) (W := W) (mu := mu) (l := gIx t) (own := ownP k.N own) hi.calm hi.nd (soI ok all gk src k X W tg iter hi hk h1) (by rw [hk.N, hk.sc]; exact h2)
            (fun Y hY => by rw [← hY.tb]; exact soG ok all gk t (k.blk scope) Y W0 tg (hi.blk hY) (hk.blk hY) h3)
            (fun Y hY => by rw [← hY.tb]; exact (soO ok all gk ts (k.blk scope) Y W0 (hi.blk hY) (hk.blk hY)).2 rfl ifs h4)
            (fun Y hY => by rw [← hY.tb]; exact (soE ok all gk e (k.blk scope) Y W0 elt (hi.blk hY) (hk.blk hY) h5).1)
            (fun i hix => by rw [ownP_ix]; exact of_decide_eq_true (List.all_eq_true.mp h6 i hix)) (notSet_ok h7)
          rw [ownP_ix] at q
          exact q
        · exact absurd h (by simp [okE, ha])
    | _ => cases h
  | .dcomp mu t src ts kd vd own => by
    intro k X W x hi hk h
    refine soe_of (hi := hi) ?_ (fun _ z => z) rfl
    cases x with
    | DictComp kx vx gens scope p =>
      match gens, h with
      | [], h => cases h
      | _ :: _ :: _, h => simp [okE] at h
      | [⟨tg, iter, ifs, as⟩], h =>
        by_cases ha : as = 0
        · subst ha
          have h : (okI G k src tg iter && blkC k.N k.sc scope (ownP k.N own) && okG G (k.blk scope) t tg && okT G (k.blk scope) ts ifs && okE G (k.blk scope) kd kx && okE G (k.blk scope) vd vx && (gIx t).all (fun i => decide (i ∈ own)) && notSet iter) = true := h
          simp only [Bool.and_eq_true] at h
          obtain ⟨⟨⟨⟨⟨⟨⟨h1, h2⟩, h3⟩, ht⟩, h4⟩, h5⟩, h6⟩, h7⟩ := h
          have q := rd_dcomp (mu := mu) (pos := p) (fa := g.fa) (ca := g.ca) (W := W) (l := gIx t) (own := ownP k.N own) hi.calm hi.nd hi.un (soI ok all gk src k X W tg iter hi hk h1) (by rw [hk.N, hk.sc]; exact h2)
            (fun Y hY => by rw [← hY.tb]; exact soG ok all gk t (k.blk scope) Y W0 tg (hi.blk hY) (hk.blk hY) h3)
            (fun Y hY => by rw [← hY.tb]; exact (soO ok all gk ts (k.blk scope) Y W0 (hi.blk hY) (hk.blk hY)).2 rfl ifs ht)
            (fun Y hY => by rw [← hY.tb]; exact (soE ok all gk kd (k.blk scope) Y W0 kx (hi.blk hY) (hk.blk hY) h4).1)
            (fun Y hY => by rw [← hY.tb]; exact (soE ok all gk vd (k.blk scope) Y W0 vx (hi.blk hY) (hk.blk hY) h5).1)
            (fun i hix => by rw [ownP_ix]; exact of_decide_eq_true (List.all_eq_true.mp h6 i hix)) (notSet_ok h7)
          rw [ownP_ix] at q
          exact q
        · exact absurd h (by simp [okE, ha])
    | _ => cases h
theorem soEs (ok : g.Ok) (all : g.All n) (gk : GkOk G g) : ∀ es : MEs, SoEs g G n es
  | .nil => by
    intro k X W hi hk
    refine ⟨fun xs h => ?_, fun xs h => ?_⟩
    · cases xs with
      | nil => exact ra_nil
      | cons _ _ => cases h
    · cases xs with
      | nil => exact rk_nil
      | cons _ _ => cases h
  | .cons e r => by
    intro k X W hi hk
    refine ⟨fun xs h => ?_, fun xs h => ?_⟩
    · cases xs with
      | nil => cases h
      | cons x ys =>
        have h : (okE G k e x && notStar x && okEs G k r ys) = true := h
        simp only [Bool.and_eq_true] at h
        obtain ⟨⟨h1, h2⟩, h3⟩ := h
        exact ra_cons (soE ok all gk e k X W x hi hk h1).1 ((soEs ok all gk r k X W hi hk).1 ys h3) h2
    · cases xs with
      | nil => cases h
      | cons x ys =>
        obtain ⟨nm, v, kp⟩ := x
        have h : (okE G k e v && okKs G k r ys) = true := h
        simp only [Bool.and_eq_true] at h
        exact rk_cons (soE ok all gk e k X W v hi hk h.1).1 ((soEs ok all gk r k X W hi hk).2 ys h.2)
theorem soO (ok : g.Ok) (all : g.All n) (gk : GkOk G g) : ∀ o : MO, SoO g G n o
  | .no => by
    intro k X W hi hk
    refine ⟨fun x h => ?_, fun _ xs h => ?_⟩
    · cases x with
      | none => exact ro_no
      | some _ => cases h
    · cases xs with
      | nil => exact rts_nil
      | cons _ _ => cases h
  | .so e => by
    intro k X W hi hk
    refine ⟨fun x h => ?_, fun hw xs h => ?_⟩
    · cases x with
      | none => cases h
      | some y => exact ro_so (soE ok all gk e k X W y hi hk h).1
    · match xs, h with
      | [], h => cases h
      | _ :: _ :: _, h => cases h
      | [y], h =>
        have h : (okE G k e y && okTst e y) = true := h
        simp only [Bool.and_eq_true] at h
        subst hw
        exact pts_one ((soE ok all gk e k X W0 y hi hk h.1).2.1 h.2)
theorem soG (ok : g.Ok) (all : g.All n) (gk : GkOk G g) : ∀ t : MG, SoG g G n t
  | .nm i => by
    intro k X W x hi hk h
    cases x with
    | Name y p =>
      obtain ⟨h1, h2, h3⟩ := st_ok hk (show k.st i y = true from h)
      exact rg_nm hi.nd h1 h2 h3
    | _ => cases h
  | .tp gs => by
    intro k X W x hi hk h
    cases x with
    | Tuple xs _ p =>
      have h : (notStars xs && okGs G k gs xs) = true := h
      simp only [Bool.and_eq_true] at h
      obtain ⟨p1, p2⟩ := soGs ok all gk gs k X W xs hi hk h.2
      exact rg_tp hi.calm h.1 p2 p1
    | _ => cases h
  | .sub a b => by
    intro k X W x hi hk h
    cases x with
    | Subscript l r p =>
      have h : (okE G k a l && okE G k b r && plainIx r) = true := h
      simp only [Bool.and_eq_true] at h
      obtain ⟨⟨h1, h2⟩, h3⟩ := h
      exact rg_sub hi.un h3 (soE ok all gk a k X W0 l hi.w0 hk h1).1 (soE ok all gk b k X W0 r hi.w0 hk h2).1
    | _ => cases h
theorem soGs (ok : g.Ok) (all : g.All n) (gk : GkOk G g) : ∀ t : MGs, SoGs g G n t
  | .nil => by
    intro k X W xs hi hk h
    cases xs with
    | cons _ _ => cases h
    | nil =>
      refine ⟨PGs.mono rgs_nil fun v σ H Q ⟨F, G, m, s, τ, ds, r, hs, rd, h⟩ => ⟨F, G, m, s, τ, ds, r, hs, rd, ?_⟩, fun ds τ s hne => ?_⟩
      · cases ds <;> exact h
      · cases ds with
        | nil => rfl
        | cons _ _ => exact absurd rfl hne
  | .cons t r => by
    intro k X W xs hi hk h
    cases xs with
    | nil => cases h
    | cons x ys =>
      have h : (okG G k t x && notStar x && okGs G k r ys) = true := h
      simp only [Bool.and_eq_true] at h
      obtain ⟨⟨h1, h2⟩, h3⟩ := h
      obtain ⟨p1, p2⟩ := soGs ok all gk r k X W ys hi hk h3
      refine ⟨PGs.mono (rgs_cons h2 (soG ok all gk t k X W x hi hk h1) p1) fun v σ H Q ⟨F, G, m, s, τ, ds, r, hs, rd, h⟩ => ⟨F, G, m, s, τ, ds, r, hs, rd, ?_⟩, fun ds τ s hne => ?_⟩
      · cases ds <;> exact h
      · cases ds with
        | nil => exact absurd rfl hne
        | cons d ds =>
          simp only [evGs] at hne
          cases e : evG (ccOf g n) t d τ s with
          | ok τ1 s1 =>
            rw [e] at hne
            rw [List.length_cons, List.length_cons, p2 ds τ1 s1 hne]
          | _ => rw [e] at hne; exact absurd rfl hne
theorem soI (ok : g.Ok) (all : g.All n) (gk : GkOk G g) : ∀ o : MI, SoI g G n o
  | .it e => by
    intro k X W tg x hi hk h
    exact ri_it (soE ok all gk e k X W x hi hk h).1
  | .rng e => by
    intro k X W tg x hi hk h
    cases x with
    | Call f' as ks p =>
      cases f' with
      | Name y q =>
        match as, ks, h with
        | [], _, h => cases h
        | [_], _ :: _, h => cases h
        | _ :: _ :: _, _, h => cases h
        | [l], [], h =>
          have h : (decide (y = "range") && k.glb y && G.free y && notStar l && okE G k e l) = true := h
          simp only [Bool.and_eq_true, decide_eq_true_eq] at h
          obtain ⟨⟨⟨⟨rfl, h2⟩, h3⟩, h4⟩, h5⟩ := h
          exact ri_rng (glb_ok hk h2) (by rw [hi.mg]; exact gk.free _ h3) (soE ok all gk e k X W l hi hk h5).1 h4
      | _ => cases h
    | _ => cases h
  | .rng2 a b => by
    intro k X W tg x hi hk h
    cases x with
    | Call f' as ks p =>
      cases f' with
      | Name y q =>
        match as, ks, h with
        | [], _, h => cases h
        | [_], _, h => cases h
        | [_, _], _ :: _, h => cases h
        | _ :: _ :: _ :: _, _, h => cases h
        | [l, r], [], h =>
          have h : (decide (y = "range") && k.glb y && G.free y && notStar l && notStar r && okE G k a l && okE G k b r) = true := h
          simp only [Bool.and_eq_true, decide_eq_true_eq] at h
          obtain ⟨⟨⟨⟨⟨⟨rfl, h2⟩, h3⟩, h4⟩, h5⟩, h6⟩, h7⟩ := h
          exact ri_rng2 (glb_ok hk h2) (by rw [hi.mg]; exact gk.free _ h3) (soE ok all gk a k X W l hi hk h6).1 (soE ok all gk b k X W r hi hk h7).1 h4 h5
      | _ => cases h
    | _ => cases h
  | .zip2 a b => by
    intro k X W tg x hi hk h
    cases x with
    | Call f' as ks p =>
      cases f' with
      | Name y q =>
        match as, ks, h with
        | [], _, h => cases h
        | [_], _, h => cases h
        | [_, _], _ :: _, h => cases h
        | _ :: _ :: _ :: _, _, h => cases h
        | [l, r], [], h =>
          have h : (isTupE tg && decide (y = "zip") && k.glb y && G.free y && notStar l && notStar r && okE G k a l && okE G k b r) = true := h
          simp only [Bool.and_eq_true, decide_eq_true_eq] at h
          obtain ⟨⟨⟨⟨⟨⟨⟨h1, rfl⟩, h2⟩, h3⟩, h4⟩, h5⟩, h6⟩, h7⟩ := h
          cases tg with
          | Tuple _ _ _ => exact ri_zip2 (glb_ok hk h2) (by rw [hi.mg]; exact gk.free _ h3) (soE ok all gk a k X W l hi hk h6).1 (soE ok all gk b k X W r hi hk h7).1 h4 h5
          | _ => cases h1
      | _ => cases h
    | _ => cases h
  | .zip3 a b d => by
    intro k X W tg x hi hk h
    cases x with
    | Call f' as ks p =>
      cases f' with
      | Name y q =>
        match as, ks, h with
        | [], _, h => cases h
        | [_], _, h => cases h
        | [_, _], _, h => cases h
        | [_, _, _], _ :: _, h => cases h
        | _ :: _ :: _ :: _ :: _, _, h => cases h
        | [l, r, t], [], h =>
          have h : (isTupE tg && decide (y = "zip") && k.glb y && G.free y && notStar l && notStar r && notStar t && okE G k a l && okE G k b r && okE G k d t) = true := h
          simp only [Bool.and_eq_true, decide_eq_true_eq] at h
          obtain ⟨⟨⟨⟨⟨⟨⟨⟨⟨h1, rfl⟩, h2⟩, h3⟩, h4⟩, h5⟩, h8⟩, h6⟩, h7⟩, h9⟩ := h
          cases tg with
          | Tuple _ _ _ => exact ri_zip3 (glb_ok hk h2) (by rw [hi.mg]; exact gk.free _ h3) (soE ok all gk a k X W l hi hk h6).1 (soE ok all gk b k X W r hi hk h7).1 (soE ok all gk d k X W t hi hk h9).1 h4 h5 h8
          | _ => cases h1
      | _ => cases h
    | _ => cases h
  | .enu e => by
    intro k X W tg x hi hk h
    cases x with
    | Call f' as ks p =>
      cases f' with
      | Name y q =>
        match as, ks, h with
        | [], _, h => cases h
        | [_], _ :: _, h => cases h
        | _ :: _ :: _, _, h => cases h
        | [l], [], h =>
          have h : (isTupE tg && decide (y = "enumerate") && k.glb y && G.free y && notStar l && okE G k e l) = true := h
          simp only [Bool.and_eq_true, decide_eq_true_eq] at h
          obtain ⟨⟨⟨⟨⟨h1, rfl⟩, h2⟩, h3⟩, h4⟩, h5⟩ := h
          cases tg with
          | Tuple _ _ _ => exact ri_enu (glb_ok hk h2) (by rw [hi.mg]; exact gk.free _ h3) (soE ok all gk e k X W l hi hk h5).1 h4
          | _ => cases h1
      | _ => cases h
    | _ => cases h
end
end
end Mi
set_option Elab.async false
set_option linter.all false
set_option maxRecDepth 100000
set_option maxHeartbeats 1000000
/-! Mi24: statements and defs that pass the check. -/
namespace Mi
open PySem PySem.Spec PyProof.Rows L2
section
variable {g : Ge} {G : Gk} {n : Nat} {k : Kc} {X : Cx} {W : WX}
theorem blockKind_fn {env : Env} (h : env.scope.kind = .function) : env.blockKind = .function := by
  unfold Env.blockKind
  rw [h]
  rfl
theorem loc_eq (hk : KOk k X) (x : Str) : (X.env.kindOf x == some NameKind.local) = k.loc x := by
  unfold Kc.loc
  show (X.env.scope.names.lookup x == some NameKind.local) = _
  rw [hk.sc]
  cases k.sc.names.lookup x with
  | none => rfl
  | some kk => cases kk <;> rfl
theorem sw_lc (hk : KOk k X) (hf : X.env.scope.kind = .function) {elt : Expr} {gs : List Comprehension} {s : Scope} {q p : Pos} {x : Str} {l : Nat} : swapsWith (.ListComp elt gs s q) (some (.Name x p)) l X.env = pure (k.sw x p s q) := by
  have e : swapsWith (.ListComp elt gs s q) (some (.Name x p)) l X.env = pure ((X.env.blockKind == .function) && (X.env.kindOf x == some .local) && (p.line == q.line) && !(s.names.any fun (n, kk) => n == x && (kk == .local || kk == .cell))) := rfl
  rw [e, blockKind_fn hf, loc_eq hk]
  rfl
theorem sw_dc (hk : KOk k X) (hf : X.env.scope.kind = .function) {kx vx : Expr} {gs : List Comprehension} {s : Scope} {q p : Pos} {x : Str} {l : Nat} : swapsWith (.DictComp kx vx gs s q) (some (.Name x p)) l X.env = pure (k.sw x p s q) := by
  have e : swapsWith (.DictComp kx vx gs s q) (some (.Name x p)) l X.env = pure ((X.env.blockKind == .function) && (X.env.kindOf x == some .local) && (p.line == q.line) && !(s.names.any fun (n, kk) => n == x && (kk == .local || kk == .cell))) := rfl
  rw [e, blockKind_fn hf, loc_eq hk]
  rfl
theorem sw_no {e : Expr} {t : Option Expr} {l : Nat} {env : Env} (h : notComp e = true) : swapsWith e t l env = pure false := by
  cases e <;> first | rfl | (simp [notComp] at h)
theorem set_ok (ok : g.Ok) (all : g.All n) (gk : GkOk G g) (hi : In g X W n) (hk : KOk k X) (hf : X.env.scope.kind = .function) {i : Nat} {e : ME} {x : Str} {p pos : Pos} {v : Expr} (h1 : k.st i x = true) (h2 : okE G k e v = true) (h3 : okSet k e x p v = true) :
    PS X (.Assign [.Name x p] v pos) (sRd (tb X g.fa g.ca) W (evS (ccOf g n) (.set i e))) := by
  obtain ⟨q1, q2, q3⟩ := st_ok hk h1
  have pe := (soE ok all gk e k X W v hi hk h2).1
  have plain : swapsWith v (some (.Name x p)) pos.line X.env = pure false → PS X (.Assign [.Name x p] v pos) (sRd (tb X g.fa g.ca) W (evS (ccOf g n) (.set i e))) := fun hs => rs_set hi.nd q1 q2 q3 pe hs
  cases v with
  | ListComp elt gens scope q =>
    cases hsw : k.sw x p scope q with
    | false => exact plain (by rw [sw_lc hk hf, hsw])
    | true =>
      have h3 : (!k.sw x p scope q || isCompM e) = true := h3
      rw [hsw] at h3
      cases e with
      | comp mu t src ts ee own =>
        match gens, h2 with
        | [], h2 => cases h2
        | _ :: _ :: _, h2 => simp [okE] at h2
        | [⟨tg, iter, ifs, as⟩], h2 =>
          by_cases ha : as = 0
          · subst ha
            have h2 : (okI G k src tg iter && blkC k.N k.sc scope (ownP k.N own) && okG G (k.blk scope) t tg && okT G (k.blk scope) ts ifs && okE G (k.blk scope) ee elt && (gIx t).all (fun i => decide (i ∈ own)) && notSet iter) = true := h2
            simp only [Bool.and_eq_true] at h2
            obtain ⟨⟨⟨⟨⟨⟨g1, g2⟩, g3⟩, g4⟩, g5⟩, g6⟩, g7⟩ := h2
            have hl : X.env.scope.names.lookup x = some .local := by
              have z : (k.loc x && (p.line == q.line) && !(scope.names.any fun (n, kk) => n == x && (kk == .local || kk == .cell))) = true := hsw
              simp only [Bool.and_eq_true] at z
              exact loc_ok hk z.1.1
            have z := rs_setLc (spos := pos) (pos := q) (fa := g.fa) (ca := g.ca) (W := W) (mu := mu) (l := gIx t) (own := ownP k.N own) hi.calm hi.nd q1 hl ((sw_lc hk hf).trans (congrArg pure hsw)) (soI ok all gk src k X W tg iter hi hk g1) (by rw [hk.N, hk.sc]; exact g2)
              (fun Y hY => by rw [← hY.tb]; exact soG ok all gk t (k.blk scope) Y W0 tg (hi.blk hY) (hk.blk hY) g3)
              (fun Y hY => by rw [← hY.tb]; exact (soO ok all gk ts (k.blk scope) Y W0 (hi.blk hY) (hk.blk hY)).2 rfl ifs g4)
              (fun Y hY => by rw [← hY.tb]; exact (soE ok all gk ee (k.blk scope) Y W0 elt (hi.blk hY) (hk.blk hY) g5).1)
              (fun i hix => by rw [ownP_ix]; exact of_decide_eq_true (List.all_eq_true.mp g6 i hix)) (notSet_ok g7)
            rw [ownP_ix] at z
            exact PS.mono z fun D σ H h => set_rd h
          · exact absurd h2 (by simp [okE, ha])
      | _ => cases h3
  | DictComp kx vx gens scope q =>
    cases hsw : k.sw x p scope q with
    | false => exact plain (by rw [sw_dc hk hf, hsw])
    | true =>
      have h3 : (!k.sw x p scope q || isDCompM e) = true := h3
      rw [hsw] at h3
      cases e with
      | dcomp mu t src ts kd vd own =>
        match gens, h2 with
        | [], h2 => cases h2
        | _ :: _ :: _, h2 => simp [okE] at h2
        | [⟨tg, iter, ifs, as⟩], h2 =>
          by_cases ha : as = 0
          · subst ha
            have h2 : (okI G k src tg iter && blkC k.N k.sc scope (ownP k.N own) && okG G (k.blk scope) t tg && okT G (k.blk scope) ts ifs && okE G (k.blk scope) kd kx && okE G (k.blk scope) vd vx && (gIx t).all (fun i => decide (i ∈ own)) && notSet iter) = true := h2
            simp only [Bool.and_eq_true] at h2
            obtain ⟨⟨⟨⟨⟨⟨⟨g1, g2⟩, g3⟩, gt⟩, g4⟩, g5⟩, g6⟩, g7⟩ := h2
            have hl : X.env.scope.names.lookup x = some .local := by
              have z : (k.loc x && (p.line == q.line) && !(scope.names.any fun (n, kk) => n == x && (kk == .local || kk == .cell))) = true := hsw
              simp only [Bool.and_eq_true] at z
              exact loc_ok hk z.1.1
            have z := rs_setDc (mu := mu) (spos := pos) (pos := q) (fa := g.fa) (ca := g.ca) (W := W) (l := gIx t) (own := ownP k.N own) hi.calm hi.nd hi.un q1 hl ((sw_dc hk hf).trans (congrArg pure hsw)) (soI ok all gk src k X W tg iter hi hk g1) (by rw [hk.N, hk.sc]; exact g2)
              (fun Y hY => by rw [← hY.tb]; exact soG ok all gk t (k.blk scope) Y W0 tg (hi.blk hY) (hk.blk hY) g3)
              (fun Y hY => by rw [← hY.tb]; exact (soO ok all gk ts (k.blk scope) Y W0 (hi.blk hY) (hk.blk hY)).2 rfl ifs gt)
              (fun Y hY => by rw [← hY.tb]; exact (soE ok all gk kd (k.blk scope) Y W0 kx (hi.blk hY) (hk.blk hY) g4).1)
              (fun Y hY => by rw [← hY.tb]; exact (soE ok all gk vd (k.blk scope) Y W0 vx (hi.blk hY) (hk.blk hY) g5).1)
              (fun i hix => by rw [ownP_ix]; exact of_decide_eq_true (List.all_eq_true.mp g6 i hix)) (notSet_ok g7)
            rw [ownP_ix] at z
            exact PS.mono z fun D σ H h => set_rd h
          · exact absurd h2 (by simp [okE, ha])
      | _ => cases h3
  | SetComp _ _ _ _ => cases h3
  | _ => exact plain (sw_no rfl)
mutual
theorem evG_ne (c : Cc) : ∀ (t : MG) (d : D) (τ : Tau) (s : S) (x : Exc) (s' : S), evG c t d τ s ≠ .exc x s'
  | .nm i, d, τ, s, x, s' => by simp [evG]
  | .tp gs, d, τ, s, x, s' => by
    cases d with
    | tup ds => simp only [evG]; exact evGs_ne c gs ds τ s x s'
    | _ => simp [evG]
  | .sub a b, d, τ, s, x, s' => by
    simp only [evG]
    cases evE c a τ s with
    | ok u s1 =>
      simp only
      cases evE c b τ s1 with
      | ok v s2 =>
        simp only
        cases setIx u v d s2 <;> simp
      | _ => simp
    | _ => simp
theorem evGs_ne (c : Cc) : ∀ (t : MGs) (ds : List D) (τ : Tau) (s : S) (x : Exc) (s' : S), evGs c t ds τ s ≠ .exc x s'
  | .nil, ds, τ, s, x, s' => by cases ds <;> simp [evGs]
  | .cons t r, [], τ, s, x, s' => by simp [evGs]
  | .cons t r, d :: ds, τ, s, x, s' => by
    simp only [evGs]
    cases e : evG c t d τ s with
    | ok τ1 s1 => simp only; exact evGs_ne c r ds τ1 s1 x s'
    | exc y s1 => simp
    | stuck => simp
end
theorem ss_tup (hk : KOk k X) {ts vs : List Expr} {kt kv : Nat} {pt pv : Pos} (h : okSs k (.Tuple ts kt pt) (.Tuple vs kv pv) = true) : swappedStores [.Tuple ts kt pt] (.Tuple vs kv pv) X.env = pure none := by
  have hkd : ∀ x, (X.env.kindOf x == some NameKind.local) = (k.sc.names.lookup x == some .local) := fun x => by
    show (X.env.scope.names.lookup x == _) = _
    rw [hk.sc]
  unfold swappedStores
  simp only [okSs, Bool.or_eq_true] at h
  simp only [hkd]
  split
  · rfl
  · rename_i c1
    split
    · rfl
    · split
      · rfl
      · rename_i c2
        split
        · rfl
        · rename_i c3
          exfalso
          simp only [Bool.or_eq_true, not_or] at c1 c2
          rcases h with (h | h) | h
          · exact h.elim c1.1.1 c1.1.2
          · exact c2.1 h
          · exact c3 h
theorem ss_par (hk : KOk k X) (hf : X.env.scope.kind = .function) {x y : Str} {px py pt pv : Pos} {kt kv : Nat} {a b : Expr} (hne : x ≠ y) (hx : k.loc x = true) (hy : k.loc y = true) (hp : (py.line == px.line) = true) (ha : notStar a = true) (hb : notStar b = true) (h1 : (foldedForSure 8 a && foldedForSure 8 b) = false) (h2 : (constantsAlone 8 a && constantsAlone 8 b) = false) :
    swappedStores [.Tuple [.Name x px, .Name y py] kt pt] (.Tuple [a, b] kv pv) X.env = pure (some [x, y]) := by
  have kx : (X.env.kindOf x == some NameKind.local) = true := by rw [loc_eq hk]; exact hx
  have ky : (X.env.kindOf y == some NameKind.local) = true := by rw [loc_eq hk]; exact hy
  have e1 : ([x, y] : List Str).eraseDups = [x, y] := by
    have q : (y == x) = false := beq_eq_false_iff_ne.mpr (Ne.symm hne)
    simp [List.eraseDups, List.eraseDupsBy, List.eraseDupsBy.loop, q]
  unfold swappedStores
  simp only [blockKind_fn hf]
  split
  · rename_i c1
    simp at c1
  · split
    · rename_i _ c2
      exfalso
      simp only [List.any_cons, List.any_nil, Bool.or_false, Bool.or_eq_true] at c2
      rcases c2 with c2 | c2
      · cases a <;> first | exact Bool.false_ne_true c2 | exact Bool.false_ne_true ha
      · cases b <;> first | exact Bool.false_ne_true c2 | exact Bool.false_ne_true hb
    · simp only [List.filterMap_cons, List.filterMap_nil, List.head?_cons, Option.map_some, Option.getD_some, kx, ky, Bool.true_and, Expr.pos, beq_self_eq_true, hp, if_true, e1, List.all_cons, List.all_nil, Bool.and_true, h1, h2, List.length_cons, List.length_nil, bne_self_eq_false, Bool.or_self, Bool.false_eq_true, if_false]
theorem ss_none (hk : KOk k X) (hf : X.env.scope.kind = .function) {t v : Expr} (h : okSs k t v = true) : swappedStores [t] v X.env = pure none ∧ ∀ l, swapsWithSole [t] v l X.env = pure false := by
  have sole : (∀ x p, t ≠ .Name x p) → ∀ l, swapsWithSole [t] v l X.env = pure false := by
    intro hn l
    show swapsWith v (some t) l X.env = pure false
    cases t with
    | Name x p => exact absurd rfl (hn x p)
    | _ => cases v <;> rfl
  cases t with
  | Name _ _ => cases h
  | List _ _ => cases h
  | Tuple ts kt pt =>
    refine ⟨?_, sole (fun _ _ z => by cases z)⟩
    cases v with
    | Tuple vs kv pv => exact ss_tup hk h
    | _ => rfl
  | _ => exact ⟨by cases v <;> rfl, sole (fun _ _ z => by cases z)⟩
abbrev SoS (g : Ge) (G : Gk) (n : Nat) (s : MS) : Prop := ∀ (k : Kc) (X : Cx) (W : WX) (x : Stmt), In g X W n → KOk k X → PassesOwn (model X.prog X.w) X.A X.env X.xe → X.env.scope.kind = .function → okS G k s x = true → PS X x (sRd (tb X g.fa g.ca) W (evS (ccOf g n) s))
abbrev SoB (g : Ge) (G : Gk) (n : Nat) (b : MSs) : Prop := ∀ (k : Kc) (X : Cx) (W : WX) (xs : List Stmt), In g X W n → KOk k X → PassesOwn (model X.prog X.w) X.A X.env X.xe → X.env.scope.kind = .function → okB G k b xs = true → PSs X xs (sRd (tb X g.fa g.ca) W (evSs (ccOf g n) b))
def isFrz : MS → Bool
  | .gfrz _ => true
  | _ => false
theorem okB_cons {s : MS} {r : MSs} {xs : List Stmt} (h : okB G k (.cons s r) xs = true) : (∃ i, s = .gfrz i ∧ okB G k r xs = true) ∨ ∃ x ys, xs = x :: ys ∧ okS G k s x = true ∧ okB G k r ys = true := by
  cases s with
  | gfrz i => exact .inl ⟨i, rfl, h⟩
  | never =>
    right
    cases xs with
    | nil => cases h
    | cons x ys => exact ⟨x, ys, rfl, rfl, h⟩
  | par3 _ _ _ _ _ _ => cases xs <;> cases h
  | _ =>
    right
    cases xs with
    | nil => cases h
    | cons x ys =>
      have h := Bool.and_eq_true_iff.mp h
      exact ⟨x, ys, rfl, h.1, h.2⟩
mutual
theorem soS (ok : g.Ok) (all : g.All n) (gk : GkOk G g) : ∀ s : MS, SoS g G n s
  | .set i e => by
    intro k X W x hi hk hp hf h
    cases x with
    | Assign ts v p =>
      match ts, h with
      | [], h => cases h
      | _ :: _ :: _, h => simp [okS] at h
      | [t], h =>
        cases t with
        | Name y q =>
          have h : (k.st i y && okE G k e v && okSet k e y q v) = true := h
          simp only [Bool.and_eq_true] at h
          exact set_ok ok all gk hi hk hf h.1.1 h.1.2 h.2
        | _ => cases h
    | _ => cases h
  | .asg t e => by
    intro k X W x hi hk hp hf h
    cases x with
    | Assign ts v p =>
      match ts, h with
      | [], h => cases h
      | _ :: _ :: _, h => cases h
      | [y], h =>
        have h : (okE G k e v && okG G k t y && okSs k y v && notStar y) = true := h
        simp only [Bool.and_eq_true] at h
        obtain ⟨⟨⟨h1, h2⟩, h3⟩, h4⟩ := h
        obtain ⟨z1, z2⟩ := ss_none hk hf h3
        exact rs_asg (soE ok all gk e k X W v hi hk h1).1 (soG ok all gk t k X W y hi hk h2) (z2 _) z1 (by rw [assign_cons h4] <;> rfl) (evG_ne _ t)
    | _ => cases h
  | .par2 i j a b => by
    intro k X W x hi hk hp hf h
    cases x with
    | Assign ts v p =>
      match ts, v, h with
      | [.Tuple [.Name y q, .Name y' q'] kt pt], .Tuple [l, r] kv pv, h =>
        have h : (decide (k.N[i]? = some y) && decide (k.N[j]? = some y') && decide (i ≠ j) && decide (y ≠ y') && k.loc y && k.loc y' && (q'.line == q.line) && notStar l && notStar r && okE G k a l && okE G k b r && !(foldedForSure 8 l && foldedForSure 8 r) && !(constantsAlone 8 l && constantsAlone 8 r)) = true := h
        simp only [Bool.and_eq_true, decide_eq_true_eq, Bool.not_eq_true'] at h
        obtain ⟨⟨⟨⟨⟨⟨⟨⟨⟨⟨⟨⟨h1, h2⟩, h3⟩, h4⟩, h5⟩, h6⟩, h7⟩, h8⟩, h9⟩, h10⟩, h11⟩, h12⟩, h13⟩ := h
        exact rs_par hi.calm hi.nd (by rw [hk.N]; exact h1) (by rw [hk.N]; exact h2) h3 (loc_ok hk h5) (loc_ok hk h6) (soE ok all gk a k X W l hi hk h10).1 (soE ok all gk b k X W r hi hk h11).1 h8 h9 (ss_par hk hf h4 h5 h6 h7 h8 h9 h12 h13)
    | _ => cases h
  | .par3 _ _ _ _ _ _ => by
    intro k X W x hi hk hp hf h
    cases h
  | .aug i o e => by
    intro k X W x hi hk hp hf h
    cases x with
    | AugAssign t op v p =>
      cases t with
      | Name y q =>
        have hq : isOp o op = true ∧ (o = .add ∨ o = .sub) ∧ k.st i y = true ∧ okE G k e v = true := by
          cases o with
          | add =>
            have h : (isOp .add op && true && k.st i y && okE G k e v) = true := h
            simp only [Bool.and_eq_true] at h
            exact ⟨h.1.1.1, .inl rfl, h.1.2, h.2⟩
          | sub =>
            have h : (isOp .sub op && true && k.st i y && okE G k e v) = true := h
            simp only [Bool.and_eq_true] at h
            exact ⟨h.1.1.1, .inr rfl, h.1.2, h.2⟩
          | _ => simp [okS] at h
        obtain ⟨h1, h2, h3, h4⟩ := hq
        obtain ⟨q1, q2, q3⟩ := st_ok hk h3
        rw [isOp_ok h1]
        exact rs_aug o h2 hi.nd q1 q2 q3 (soE ok all gk e k X W v hi hk h4).1
      | _ => cases h
    | _ => cases h
  | .ex e => by
    intro k X W x hi hk hp hf h
    cases x with
    | Expr v p =>
      have h : (okE G k e v && notComp v) = true := h
      simp only [Bool.and_eq_true] at h
      exact rs_ex (soE ok all gk e k X W v hi hk h.1).1 (sw_no h.2)
    | _ => cases h
  | .ret e => by
    intro k X W x hi hk hp hf h
    cases x with
    | Return v p =>
      cases v with
      | none => cases h
      | some v => exact rs_ret (soE ok all gk e k X W v hi hk h).1
    | _ => cases h
  | .ifs t a b => by
    intro k X W x hi hk hp hf h
    cases x with
    | If c l r p =>
      have h : (okE G k t c && okTst t c && okB G k a l && okB G k b r) = true := h
      simp only [Bool.and_eq_true] at h
      obtain ⟨⟨⟨h1, h2⟩, h3⟩, h4⟩ := h
      exact rs_if ((soE ok all gk t k X W c hi hk h1).2.1 h2) (soB ok all gk a k X W l hi hk hp hf h3) (soB ok all gk b k X W r hi hk hp hf h4)
    | _ => cases h
  | .fors t src b => by
    intro k X W x hi hk hp hf h
    cases x with
    | For tg iter body els p =>
      cases els with
      | cons _ _ => cases h
      | nil =>
        have h : (okI G k src tg iter && okG G k t tg && okB G k b body && notSet iter) = true := h
        simp only [Bool.and_eq_true] at h
        obtain ⟨⟨⟨h1, h2⟩, h3⟩, h4⟩ := h
        exact rs_for hp hi.calm (soI ok all gk src k X W tg iter hi hk h1) (soG ok all gk t k X W tg hi hk h2) (soB ok all gk b k X W body hi hk hp hf h3) (notSet_ok h4) (evG_ne _ t)
    | _ => cases h
  | .whl t b => by
    intro k X W x hi hk hp hf h
    cases x with
    | While c body els p =>
      cases els with
      | cons _ _ => cases h
      | nil =>
        have h : (okE G k t c && okTst t c && okB G k b body) = true := h
        simp only [Bool.and_eq_true] at h
        exact rs_whl hp ((soE ok all gk t k X W c hi hk h.1.1).2.1 h.1.2) (soB ok all gk b k X W body hi hk hp hf h.2)
    | _ => cases h
  | .brk => by
    intro k X W x hi hk hp hf h
    cases x with
    | Break p => exact rs_brk
    | _ => cases h
  | .cnt => by
    intro k X W x hi hk hp hf h
    cases x with
    | Continue p => exact rs_cnt
    | _ => cases h
  | .pas => by
    intro k X W x hi hk hp hf h
    cases x with
    | Pass p => exact rs_pas
    | _ => cases h
  | .never => by
    intro k X W x hi hk hp hf h
    exact rs_never
  | .gfrz _ => by
    intro k X W x hi hk hp hf h
    cases h
theorem soB (ok : g.Ok) (all : g.All n) (gk : GkOk G g) : ∀ b : MSs, SoB g G n b
  | .nil => by
    intro k X W xs hi hk hp hf h
    cases xs with
    | nil => exact rss_nil
    | cons _ _ => cases h
  | .cons s r => by
    intro k X W xs hi hk hp hf h
    rcases okB_cons h with ⟨i, e, h1⟩ | ⟨x, ys, e, h1, h2⟩
    · subst e
      exact rss_frz (soB ok all gk r k X W xs hi hk hp hf h1)
    · subst e
      exact rss_cons (soS ok all gk s k X W x hi hk hp hf h1) (soB ok all gk r k X W ys hi hk hp hf h2)
end
theorem soBody (ok : g.Ok) (all : g.All n) (gk : GkOk G g) (b : MSs) (xs : List Stmt) (hi : In g X W n) (hk : KOk k X) (hp : PassesOwn (model X.prog X.w) X.A X.env X.xe) (hf : X.env.scope.kind = .function) (h : okBody G k b xs = true) : PSs X xs (sRd (tb X g.fa g.ca) W (evSs (ccOf g n) b)) := by
  have plain : okB G k b xs = true → PSs X xs (sRd (tb X g.fa g.ca) W (evSs (ccOf g n) b)) := fun h => soB ok all gk b k X W xs hi hk hp hf h
  unfold okBody at h
  split at h
  · exact rss_doc (soB ok all gk b k X W _ hi hk hp hf h)
  · exact plain h
end
end Mi
set_option Elab.async false
set_option linter.all false
set_option maxRecDepth 100000
set_option maxHeartbeats 1000000
/-! Mi25: the defs keep their promises; the law's end. -/
namespace Mi
open PySem PySem.Spec PyProof.Rows L2
theorem rps_start {T : Tb} {G : Hp} {m : Mm} {ds : List D} {vs : List V} (r : Rps T G m ds vs) {ns : Nat} {N : List Str} (hn : N.length = ns) : RpS T G m (startT ns ds) (L2.start N vs) where
  len := by unfold startT L2.start; rw [hn]; simp [r.length]
  at_ := fun i d e => by
    unfold startT at e
    unfold L2.start
    have hl := r.length
    by_cases hi : i < ds.length
    · rw [List.getElem?_append_left (by simpa using hi), List.getElem?_map] at e
      obtain ⟨d', e1, e2⟩ := Option.map_eq_some_iff.mp e
      cases e2
      obtain ⟨v, e3, rv⟩ := r.get e1
      exact ⟨v, by rw [List.getElem?_append_left (by simp; omega), List.getElem?_map, e3] <;> rfl, rv⟩
    · rw [List.getElem?_append_right (by simpa using hi), List.getElem?_replicate] at e
      split at e <;> cases e
section
variable {g : Ge} {G : Gk} {n : Nat}
structure DefOk (g : Ge) (G : Gk) (f : Nat) (e : Fd) : Prop where
  ex : ∃ (params : Arguments) (body : List Stmt) (scope : Scope) (N : List Str), FunD g.K (g.nm f) (g.nm f) params body scope [] [] (g.fa f) (g.fd f) ∧ FnScope N (g.ps f) scope ∧ N.length = e.ns ∧ (g.ps f).length = e.ps ∧ okBody G ⟨N, scope, fun _ => true⟩ e.body body = true
theorem flok_end {T : Tb} {W : WX} {F Gh H : Hp} {m : Mm} {st : S} {fl : Fl} {E : XK} {Q : VK} (r : R T F Gh m st H) (h : TRg T (fun c d _ H => E c d H) (Rp T) [] F Gh m (endOf st.nx fl) Q) : FlOk T (fun c d _ H => E c d H) F Gh m fl { nx := fun _ H' => Q .non H', rt := Q } := by
  have ext : ∀ {G' : Hp} {m' m2 : Mm}, Ext Gh m G' m' → (∀ k a, k < st.nx → m' k = some a → m2 k = some a) → Ext Gh m G' m2 := fun {G' m' m2} x hk => ⟨x.g, fun k a e => by
    have hlt : k < st.nx := by
      by_cases z : k < st.nx
      · exact z
      · rw [r.fresh k (by omega)] at e
        cases e
    exact hk k a hlt (x.m k a e)⟩
  cases fl with
  | rt d s =>
    intro G' m' H' v x r' rv
    obtain ⟨m2, h1, h2, h3⟩ := R.clean st.nx r' rv
    exact h G' m2 H' v (ext x h1) h2 h3
  | nx τ s =>
    intro G' m' H' σ' x r' hs
    obtain ⟨m2, h1, h2, h3⟩ := R.clean st.nx r' (.non : Rp T G' m' .non .non)
    exact h G' m2 H' _ (ext x h1) h2 h3
  | exc y τ s =>
    intro G' m' H' dd σ' x r' hs xd
    exact h G' m' H' dd x r' xd
  | bk _ _ => exact (show False from h).elim
  | ct _ _ => exact (show False from h).elim
  | stuck => exact (show False from h).elim
theorem def_ok (ok : g.Ok) (gk : GkOk G g) (all : g.All n) {f : Nat} {e : Fd} (he : g.tab f = some e) (d : DefOk g G f e) : (g.ps f).length = e.ps ∧ FnG g.P g.w g.K g.mg g.base (n + 1) (g.fa f) (g.fd f) (g.ps f) (spM g (n + 1) f) := by
  obtain ⟨params, body, scope, N, Fd, S, hN, hps, hb⟩ := d.ex
  have hlen : ∀ vs H Q E, spM g (n + 1) f vs H Q E → vs.length = (g.ps f).length := by
    intro vs H Q E ⟨F, Gh, m, st, ds, r, rs, h⟩
    obtain ⟨e', he', hl⟩ := callN_len h.nstuck
    rw [he] at he'
    cases he'
    rw [← rs.length, hl, hps]
  refine ⟨hps, hlen, fun A fs s H args us vs Q E hr hgd e0 hbi r hsp => ?_⟩
  obtain ⟨oc, od, dV, kV, doc, pm, an, cdv, ct, osl, hfd, lk, hcd, _, _⟩ := Fd.ex
  rw [hfd] at hbi lk
  refine LamX.run_ofS lk hcd S hr e0 hbi r (hlen _ _ _ _ hsp) fun hr' => ?_
  have hi : In g (cxOf (L2.CX g.P g.w) g.P g.w g.K g.mg g.base N (g.nm f) scope (g.fa f) cdv A fs s H E) (fun c d _ H => E c d H) n :=
    ⟨rfl, rfl, rfl, rfl, rfl, hr', hgd, rfl, S.nd, fun σ => passAt (takes_of rfl rfl rfl rfl) σ⟩
  refine ⟨_, soBody ok all gk e.body body hi ⟨rfl, rfl, rfl⟩ (passes_of rfl) S.kind hb, ?_⟩
  obtain ⟨F, Gh, m, st, ds, rr, rs, h⟩ := hsp
  have hl : ds.length = e.ps := by rw [rs.length, hlen vs H Q E ⟨F, Gh, m, st, ds, rr, rs, h⟩, hps]
  simp only [callN, he, hl, if_true] at h
  exact ⟨F, Gh, m, st, startT e.ns ds, rr, rps_start rs hN, flok_end (W := fun _ _ _ _ => True) rr h⟩
theorem all_ok (ok : g.Ok) (gk : GkOk G g) (d : ∀ f e, g.tab f = some e → DefOk g G f e) : ∀ n, g.All n
  | 0 => fun f e he => by
    obtain ⟨_, _, _, _, _, _, _, hps, _⟩ := (d f e he).ex
    refine ⟨hps, fun vs H Q E h => ?_, fun A fs s H args us vs Q E _ _ _ _ _ h => ?_⟩
    · obtain ⟨F, Gh, m, st, ds, r, rs, h⟩ := h
      exact h.elim
    · obtain ⟨F, Gh, m, st, ds, r, rs, h⟩ := h
      exact h.elim
  | n + 1 => fun f e he => def_ok ok gk (all_ok ok gk d n) he (d f e he)
end
end Mi
set_option Elab.async false
set_option linter.all false
set_option maxRecDepth 100000
set_option maxHeartbeats 1000000
/-! Mi26: a law by its evaluation. -/
namespace Mi
open PySem PySem.Spec PyProof.Rows L2
section
variable {P : Program} {w : World} {K : PySem.W.Frag} {mg mb : Str → Option Value} {k : Nat} {fl sc : Addr} {fd : FuncData} {x : Str} {sp : Sp} {t : Shared} {its : List Value} {ns : List Int}
/-- what is known of the heap at the law's entry -/
structure Entry (P : Program) (w : World) (K : PySem.W.Frag) (sc : Addr) (its : List Value) (ns : List Int) (t : Shared) (H : Hp) : Prop where
  only : ∀ b, H b = none ∨ (b = sc ∧ H b = some (.frz { cls := .type "list", data := .seq its.toArray } (.lst (ns.map V.int))))
  seq : SqL K H sc (ns.map V.int)
  ok : HOk P w H t.heap
  apart : H sc ≠ none → K.lookup sc = none
theorem entry_ex (kin : K.In t.heap) (hsc : t.heap.get? sc = some { cls := .type "list", data := .seq its.toArray }) (ari : IntsAre its ns) (few : ns.length ≤ sizeLine) : ∃ H, Entry P w K sc its ns t H := by
  have rel := vals_ints ari
  have many := ari.length
  cases z : K.lookup sc with
  | some o =>
    have e := kin sc o z
    rw [hsc] at e
    cases e
    exact ⟨fun _ => none, ⟨fun _ => .inl rfl, .inr ⟨_, its.toArray, _, z, rfl, rfl, rfl, by rw [List.size_toArray, many]; exact few, by simpa using rel⟩, fun b u q => (by cases (show (none : Option HO) = some u from q)), fun q => absurd rfl q⟩⟩
  | none =>
    have at_ : (fun b => if b = sc then some (HO.frz { cls := .type "list", data := .seq its.toArray } (.lst (ns.map V.int))) else none) sc = some (.frz { cls := .type "list", data := .seq its.toArray } (.lst (ns.map V.int))) := if_pos rfl
    refine ⟨fun b => if b = sc then some (.frz { cls := .type "list", data := .seq its.toArray } (.lst (ns.map V.int))) else none, ⟨fun b => ?_, .inl (.inr ⟨_, at_⟩), fun b u q => ?_, fun _ => z⟩⟩
    · by_cases h : b = sc
      · subst h
        exact .inr ⟨rfl, at_⟩
      · exact .inl (if_neg h)
    · by_cases h : b = sc
      · subst h
        have q := at_.symm.trans q
        cases q
        exact ⟨hsc, by rw [List.length_map]; exact few, its, _, rel, hsc⟩
      · rw [if_neg h] at q
        cases q
theorem law_runs (kin : K.In t.heap) (glob : t.heap.Ns mainGlobals mg) (blt : t.heap.Ns builtinsNs mb) (boots : ∀ y : Str, y ≠ "__name__" → mb y = bootBuiltins y) (free : t.heap.NoLimit) (bare : t.gens = #[])
    (hsc : t.heap.get? sc = some { cls := .type "list", data := .seq its.toArray }) (ari : IntsAre its ns) (few : ns.length ≤ sizeLine) (room : Room k callerA)
    (F : ∀ base : Heap, K.In base → base.Ns mainGlobals mg → FnG P w K mg base k fl fd [x] sp) (bind : ∀ (s : Shared) (u : Value), BindsTo s fd ⟨[u], []⟩ [(x, u)])
    (says : ∀ H : Hp, SqL K H sc (ns.map V.int) → sp [.ref sc] H (fun v _ => v = .bl true) fun _ _ _ => False) :
    codeAny (model P w) callerA (.call (.ref fl) ⟨[.ref sc], []⟩) (fun r s' => r = .ok (.ret (.bool true)) ∧ OldK t.heap s'.heap ∧ s'.os = t.os ∧ AllBare s'.gens) t := by
  obtain ⟨H, E⟩ := entry_ex (P := P) (w := w) kin hsc ari few
  -- only the script is tracked
  have notDict : ∀ {b : Addr} {o : Obj} {es : Array DictEntry} {ep : Nat}, t.heap.get? b = some o → o.data = .dict es ep → H b = none := fun {b o es ep} e d => by
    rcases E.only b with q | ⟨q, _⟩
    · exact q
    · rw [q, hsc] at e
      cases e
      cases (show Data.seq its.toArray _ = Data.dict es ep from d)
  have dicts : ∀ {b : Addr} {m : Str → Option Value}, t.heap.Ns b m → (hidT t.heap H).Ns b m := fun {b m} ⟨o, es, ep, e, d, r⟩ => ⟨o, es, ep, hidT_get e (notDict e d), d, r⟩
  have kinB : K.In (hidT t.heap H) := fun b o e => hidT_get (kin b o e) (by
    rcases E.only b with q | ⟨q, z⟩
    · exact q
    · have := E.apart (by rw [← q, z]; simp)
      rw [q, this] at e
      cases e)
  have entry : Env0 P w K mg (hidT t.heap H) callerA [] t H := by
    refine ⟨rfl, ⟨kinB, dicts glob, ⟨mb, dicts blt, boots⟩, ?_⟩, fun b o e => of_hidT e, Nat.le_of_eq (hidT_size _ _), True.intro, fun b hb => ?_, E.ok, .of_eq bare⟩
    · obtain ⟨mc, z1, z2⟩ := free
      exact ⟨mc, dicts z1, z2⟩
    · exact absurd (show b ∈ ([] : List Addr) from hb) (by simp)
  have run := (F _ kinB (dicts glob)).run callerA [] t H ⟨[.ref sc], []⟩ [.ref sc] [.ref sc] _ _ room rfl entry (bind t (.ref sc)) (.cons rfl .nil) (says H E.seq)
  refine codeAny_mono run fun r s' h => ?_
  cases r with
  | error e =>
    obtain ⟨_, _, _, _, _, _, _, _, _, _, _, _, z⟩ := (show L2.CX P w [] H t (fun _ _ _ => False) e s' from h)
    exact z.elim
  | ok f =>
    cases f with
    | ret u =>
      obtain ⟨v, H', os, bare', un, ok', rv, q⟩ := h
      have q : v = .bl true := q
      subst q
      cases (show u = Value.bool true from rv)
      refine ⟨rfl, OldK.of_keep fun b o e => ?_, os, bare'⟩
      rcases E.only b with z | ⟨_, z⟩
      · exact un.keep b o e z (by simp [frs]) (by simp)
      · obtain ⟨e1, _⟩ := E.ok b _ z
        obtain ⟨e2, _⟩ := ok' b _ (un.frzs b _ _ z)
        rw [e] at e1
        cases e1
        exact e2
    | _ => exact False.elim h
end
/-- the state at the law's entry -/
theorem R.start {T : Tb} {H : Hp} : R T (fun _ => none) H (fun _ => none) ⟨0, []⟩ H where
  gH := Sub.refl H
  fH := fun a o e => by cases e
  fG := fun a o e => by cases e
  cell := fun n c e => by cases (show (none : Option Cl) = some c from e)
  inj := fun n k a _ h => by cases (show (none : Option Cl).isSome = true from h)
  lt := fun n h => by cases (show (none : Option Cl).isSome = true from h)
  fresh := fun _ _ => rfl
/-- a law that evaluates to true at each script -/
theorem walk_law {l : PySem.W.OpenLaw} {q : Program} {loose : List Str} {XP : (Str → Option Value) → Heap → Prop} {YP : World → Heap → Prop} {d : DefRec} {n k wf fl : Nat} {tab : Nat → Option Fd} {x : Str}
    (hn : l.most = some n) (few : n ≤ sizeLine) (hdf : d.params.defaults = []) (room : Room k callerA)
    (F : ∀ (w : World) (mg : Str → Option Value) (a : Addr) (h : Heap), YP w h → h.Ns mainGlobals mg → mg d.name = some (.ref a) →
      ∃ g : Ge, g.tab = tab ∧ g.wf = wf ∧ g.K.In h ∧ (∀ (s : Shared) (u : Value), BindsTo s (g.fd fl) ⟨[u], []⟩ [(x, u)]) ∧ ∀ base : Heap, g.K.In base → base.Ns mainGlobals mg → FnG l.prog w g.K mg base k a (g.fd fl) [x] (spM g k fl))
    (law : ∀ ns : List Int, ns.length ≤ n → ∃ s, callN tab wf k fl [.inp ns] ⟨0, []⟩ = .ok (.bl true) s) : PySem.W.WalkO q loose XP YP l.row.toRowW d [] (fun f vs => PySem.call f vs) := by
  refine Att.attach_call hn hdf fun w s₀ s₁ mg mb fa o pm cd doc a vs ns G Y ho hd hcd hmg hobj hints hlen hg => ?_
  obtain ⟨g, rfl, rfl, KX, hb, hF⟩ := F w mg fa _ Y G.T.g hmg
  refine law_runs (sp := spM g k fl) KX G.T.g G.T.b G.T.builtins G.T.nolimit hg hobj hints (Nat.le_trans hlen few) room hF hb fun H hS => ?_
  obtain ⟨s, e⟩ := law ns hlen
  refine ⟨fun _ => none, H, fun _ => none, ⟨0, []⟩, [.inp ns], R.start, .cons (.inp hS) .nil, ?_⟩
  rw [e]
  intro G' m' H' v _ _ rv
  cases rv
  rfl
end Mi
set_option Elab.async false
set_option linter.all false
set_option maxRecDepth 100000
set_option maxHeartbeats 400000
/-! Mi27: the head's facts, for a list of defs. -/
namespace Mi
open PySem PySem.Spec PyProof.Rows L2
/-- one def of the law: number, name, place in the module, parameters, names, body -/
structure Dd where
  id : Nat
  nm : Str
  ix : Nat
  ps : List Str
  N : List Str
  body : MSs
def tabL (L : List Dd) (f : Nat) : Option Fd := (L.find? (·.id == f)).map fun d => ⟨d.ps.length, d.N.length, d.body⟩
def nmL (L : List Dd) (f : Nat) : Str := match L.find? (·.id == f) with
  | some d => d.nm
  | none => Str.empty
def psL (L : List Dd) (f : Nat) : List Str := match L.find? (·.id == f) with
  | some d => d.ps
  | none => []
abbrev Kws : Type := List (Nat × List Str × List Nat)
structure Lw where
  top : Nat → Stmt
  L : List Dd
  free : List Str
  con : List (Str × D)
  kw : Kws
def Lw.dd (l : Lw) (d : Dd) : He.DefD := ⟨(d.nm, none), d.nm, d.nm, defArgs (l.top d.ix), defBody (l.top d.ix), defScope (l.top d.ix), [], []⟩
def conFa : Str × D → He.Fa
  | (x, .int i) => .int x i
  | (x, .str s) => .str x s
  | (x, _) => .glo x
def isCon : Str × D → Bool
  | (_, .int _) => true
  | (_, .str _) => true
  | _ => false
def Lw.fn (l : Lw) : List He.DefD := l.L.map l.dd
def Lw.fa (l : Lw) : List He.Fa := l.L.map (fun d => .glo d.nm) ++ (l.free.map (fun x => .free x) ++ l.con.map conFa)
def Lw.G (l : Lw) : Gk := ⟨nmL l.L, fun f => (tabL l.L f).isSome, fun x => l.free.contains x, fun x => l.con.lookup x, l.kw⟩
/-- what is looked at in a def's text -/
structure Lw.DOk (l : Lw) (d : Dd) : Prop where
  bind : ∀ (kV doc pm : Value) (an : Option Addr) (cdv ct : Value) (us : List Value), us.length = d.ps.length → bindArgs (PySem.W.fnOf d.nm d.nm (defArgs (l.top d.ix)) (defBody (l.top d.ix)) (defScope (l.top d.ix)) .none kV doc pm an cdv ct) ⟨us, []⟩ = pure (d.ps.zip us)
  sc : FnScope d.N d.ps (defScope (l.top d.ix))
  body : okBody l.G ⟨d.N, defScope (l.top d.ix), fun _ => true⟩ d.body (defBody (l.top d.ix)) = true
structure Lw.KwOk (l : Lw) (f : Nat) (ks : List Str) (perm : List Nat) : Prop where
  ex : ∃ d, l.L.find? (·.id == f) = some d ∧ ∀ (kV doc pm : Value) (an : Option Addr) (cdv ct : Value) (us ws : List Value), us.length = ks.length → permV us perm = some ws → bindArgs (PySem.W.fnOf d.nm d.nm (defArgs (l.top d.ix)) (defBody (l.top d.ix)) (defScope (l.top d.ix)) .none kV doc pm an cdv ct) ⟨[], ks.zip us⟩ = pure (d.ps.zip ws)
structure Lw.Ok (l : Lw) : Prop where
  defs : ∀ d ∈ l.L, l.DOk d
  kw : ∀ f ks perm, (f, ks, perm) ∈ l.kw → l.KwOk f ks perm
  con : ∀ q ∈ l.con, isCon q = true
def Lw.ge (l : Lw) (P : Program) (w : World) (K : PySem.W.Frag) (mg : Str → Option Value) (base : Heap) (wf : Nat) (fd : Nat → FuncData) : Ge := ⟨P, w, K, mg, base, tabL l.L, wf, fun f => He.ga K (nmL l.L f), fun _ => 0, nmL l.L, fd, psL l.L⟩
theorem tabL_some {L : List Dd} {f : Nat} {e : Fd} (h : tabL L f = some e) : ∃ d, L.find? (·.id == f) = some d ∧ d ∈ L ∧ e = ⟨d.ps.length, d.N.length, d.body⟩ ∧ nmL L f = d.nm ∧ psL L f = d.ps := by
  unfold tabL at h
  cases q : L.find? (·.id == f) with
  | none => rw [q] at h; cases h
  | some d =>
    rw [q] at h
    refine ⟨d, rfl, List.mem_of_find?_eq_some q, (Option.some.inj h).symm, ?_, ?_⟩
    · unfold nmL; rw [q]
    · unfold psL; rw [q]
theorem lookup_mem {x : Str} {d : D} : ∀ {l : List (Str × D)}, l.lookup x = some d → (x, d) ∈ l
  | [], h => by cases h
  | (y, e) :: r, h => by
    have h2 : (match x == y with | true => some e | false => r.lookup x) = some d := h
    cases q : (x == y) with
    | true =>
      rw [q] at h2
      rw [beq_iff_eq.mp q, Option.some.inj h2]
      exact List.mem_cons_self
    | false =>
      rw [q] at h2
      exact List.mem_cons_of_mem _ (lookup_mem h2)
section
variable {l : Lw} {P : Program} {w : World} {K : PySem.W.Frag} {mg : Str → Option Value} {base h : Heap} {wf : Nat}
theorem Lw.facts (ok : l.Ok) (X : K.In h) (G : h.Ns mainGlobals mg) (c : He.SaysD l.fa l.fn K) :
    ∃ fd : Nat → FuncData, ∀ base : Heap, (l.ge P w K mg base wf fd).Ok ∧ GkOk l.G (l.ge P w K mg base wf fd) ∧ (∀ f e, tabL l.L f = some e → DefOk (l.ge P w K mg base wf fd) l.G f e) ∧ (∀ (f : Nat) (x : Str) (d : Dd), l.L.find? (·.id == f) = some d → d.ps = [x] → ∀ (s : Shared) (u : Value), BindsTo s (fd f) ⟨[u], []⟩ [(x, u)]) := by
  have q : ∀ f : Nat, ∃ fd : FuncData, ∀ d, l.L.find? (·.id == f) = some d → FunD K d.nm d.nm (defArgs (l.top d.ix)) (defBody (l.top d.ix)) (defScope (l.top d.ix)) [] [] (He.ga K d.nm) fd := by
    intro f
    cases e : l.L.find? (·.id == f) with
    | none => exact ⟨default, fun d z => by cases z⟩
    | some d =>
      have hm : d ∈ l.L := List.mem_of_find?_eq_some e
      obtain ⟨fd, F⟩ := c.defs (d := l.dd d) (List.mem_map.mpr ⟨d, hm, rfl⟩)
      exact ⟨fd, fun d' z => by cases z; exact F⟩
  obtain ⟨fd, F⟩ := Classical.axiomOfChoice q
  refine ⟨fd, fun base => ⟨⟨fun f e he => ?_⟩, ⟨fun f hf => ?_, fun x hx => ?_, fun x d hx => ?_, fun f ks perm hk => ?_⟩, fun f e he => ?_, fun f x d hd hp s u => ?_⟩⟩
  · obtain ⟨d, h1, h2, rfl, h3, h4⟩ := tabL_some he
    have F1 := F f d h1
    refine ⟨?_, ?_, ?_⟩
    · show mg (nmL l.L f) = some (.ref (He.ga K (nmL l.L f)))
      rw [h3]
      exact He.glo_ok X G (c.facts (f := .glo d.nm) (List.mem_append_left _ (List.mem_map.mpr ⟨d, h2, rfl⟩)))
    · show PySem.W.keepIn K (.ref (He.ga K (nmL l.L f))) = true
      rw [h3]
      exact F1.kp
    · show Binds K (fd f) (psL l.L f) []
      rw [h4]
      exact F1.bindsN (ok.defs d h2).bind
  · exact ⟨rfl, hf⟩
  · have hm : x ∈ l.free := List.contains_iff_mem.mp hx
    exact He.free_ok X G (c.facts (f := .free x) (List.mem_append_right _ (List.mem_append_left _ (List.mem_map.mpr ⟨x, hm, rfl⟩))))
  · have hm := lookup_mem (show l.con.lookup x = some d from hx)
    have h1 := ok.con _ hm
    have h2 := c.facts (f := conFa (x, d)) (List.mem_append_right _ (List.mem_append_right _ (List.mem_map.mpr ⟨_, hm, rfl⟩)))
    cases d with
    | int i =>
      obtain ⟨t, e⟩ := He.int_ok X G h2
      exact ⟨.int i, _, e, ⟨t, rfl⟩, (fun j z => by cases z; rfl), fun s z => by cases z⟩
    | str s =>
      obtain ⟨t, e⟩ := He.str_ok X G h2
      exact ⟨.str s, _, e, ⟨t, rfl⟩, (fun j z => by cases z), fun s z => by cases z; rfl⟩
    | _ => cases h1
  · obtain ⟨d, h1, hb⟩ := (ok.kw f ks perm hk).ex
    have hp : psL l.L f = d.ps := by unfold psL; rw [h1]
    intro s us ws hl hw
    obtain ⟨oc, od, dV, kV, doc, pm, an, cdv, ct, osl, hfd, lk, hcd, hD, hK⟩ := (F f d h1).ex
    show BindsTo s (fd f) ⟨[], ks.zip us⟩ ((psL l.L f).zip ws)
    rw [hp, hfd]
    rcases hD with ⟨_, rfl⟩ | ⟨e, _⟩
    · exact .of_eq (hb kV doc pm an cdv ct us ws hl hw)
    · exact absurd rfl e
  · obtain ⟨d, h1, h2, rfl, h3, h4⟩ := tabL_some he
    refine ⟨defArgs (l.top d.ix), defBody (l.top d.ix), defScope (l.top d.ix), d.N, ?_, ?_, rfl, ?_, (ok.defs d h2).body⟩
    · show FunD K (nmL l.L f) (nmL l.L f) _ _ _ [] [] (He.ga K (nmL l.L f)) (fd f)
      rw [h3]
      exact F f d h1
    · show FnScope d.N (psL l.L f) _
      rw [h4]
      exact (ok.defs d h2).sc
    · show (psL l.L f).length = d.ps.length
      rw [h4]
  · have hm : d ∈ l.L := List.mem_of_find?_eq_some hd
    have b := (F f d hd).bindsA (ok.defs d hm).bind s [u] (by rw [hp]; rfl)
    rw [hp] at b
    exact b
/-- what `walk_law` asks of the head -/
theorem Lw.walkF (ok : l.Ok) {fl : Nat} {d : Dd} {x : Str} {k : Nat} (hd : l.L.find? (·.id == fl) = some d) (hp : d.ps = [x]) {a : Addr} (X : K.In h) (G : h.Ns mainGlobals mg) (hm : mg d.nm = some (.ref a)) (c : He.SaysD l.fa l.fn K) :
    ∃ g : Ge, g.tab = tabL l.L ∧ g.wf = wf ∧ g.K.In h ∧ (∀ (s : Shared) (u : Value), BindsTo s (g.fd fl) ⟨[u], []⟩ [(x, u)]) ∧ ∀ base : Heap, g.K.In base → base.Ns mainGlobals mg → FnG P w g.K mg base k a (g.fd fl) [x] (spM g k fl) := by
  obtain ⟨fd, F⟩ := Lw.facts (P := P) (w := w) (wf := wf) ok X G c
  refine ⟨l.ge P w K mg h wf fd, rfl, rfl, X, (F h).2.2.2 fl x d hd hp, fun base _ _ => ?_⟩
  obtain ⟨g1, g2, g3, _⟩ := F base
  have ht : tabL l.L fl = some ⟨d.ps.length, d.N.length, d.body⟩ := by unfold tabL; rw [hd]; rfl
  have hn : nmL l.L fl = d.nm := by unfold nmL; rw [hd]
  have hq : psL l.L fl = [x] := by unfold psL; rw [hd]; exact hp
  obtain ⟨_, R⟩ := all_ok g1 g2 g3 k fl _ ht
  have e : He.ga K (nmL l.L fl) = a := by
    have e1 := (g1.at_ fl _ ht).1
    have e2 : mg (nmL l.L fl) = some (.ref (He.ga K (nmL l.L fl))) := e1
    rw [hn, hm] at e2
    rw [hn]
    injection e2 with e3
    injection e3 with e4
    exact e4.symm
  rw [← e, ← hq]
  exact R
end
end Mi
set_option Elab.async false
set_option linter.all false
set_option maxRecDepth 100000
set_option maxHeartbeats 400000
/-! Pl1: what the small evaluator does, for the plain laws: states, loops. -/
namespace Mi
open PySem
/-! ### states -/
theorem lookup_putC_self {n : Nat} {c : Cl} : ∀ {l : List (Nat × Cl)} {d : Cl}, l.lookup n = some d → (putC n c l).lookup n = some c
  | [], _, h => by cases h
  | (k, e) :: r, d, h => by
    unfold putC
    by_cases hk : k = n
    · subst hk
      simp [List.lookup]
    · rw [if_neg hk]
      have hk2 : (n == k) = false := by simp; exact fun z => hk z.symm
      rw [List.lookup, hk2] at h ⊢
      exact lookup_putC_self h
theorem lookup_putC_ne {n k : Nat} {c : Cl} (h : k ≠ n) : ∀ {l : List (Nat × Cl)}, (putC n c l).lookup k = l.lookup k
  | [] => rfl
  | (j, e) :: r => by
    unfold putC
    by_cases hj : j = n
    · rw [if_pos hj]
      have h2 : (k == j) = false := by simp; rw [hj]; exact h
      rw [List.lookup, h2, List.lookup, h2]
    · rw [if_neg hj, List.lookup, List.lookup, lookup_putC_ne h]
theorem putC_putC {n : Nat} {c d : Cl} : ∀ {l : List (Nat × Cl)}, putC n c (putC n d l) = putC n c l
  | [] => rfl
  | (j, e) :: r => by
    by_cases hj : j = n
    · subst hj
      simp [putC]
    · simp [putC, hj, putC_putC]
theorem putC_same {n : Nat} {c : Cl} : ∀ {l : List (Nat × Cl)}, l.lookup n = some c → putC n c l = l
  | [], h => by cases h
  | (j, e) :: r, h => by
    by_cases hj : j = n
    · subst hj
      simp [List.lookup] at h
      simp [putC, h]
    · have hk2 : (n == j) = false := by simp; exact fun z => hj z.symm
      rw [List.lookup, hk2] at h
      simp [putC, hj, putC_same h]
theorem get_add {s : S} {c : Cl} : (s.add c).get s.nx = some c := by simp [S.get, S.add, List.lookup]
theorem get_add_ne {s : S} {c : Cl} {n : Nat} (h : n ≠ s.nx) : (s.add c).get n = s.get n := by
  have h2 : (n == s.nx) = false := by simpa using h
  simp [S.get, S.add, List.lookup, h2]
theorem get_put {s : S} {c d : Cl} {n : Nat} (h : s.get n = some d) : (s.put n c).get n = some c := lookup_putC_self h
theorem get_put_ne {s : S} {c : Cl} {n k : Nat} (h : k ≠ n) : (s.put n c).get k = s.get k := lookup_putC_ne h
theorem put_put {s : S} {c d : Cl} {n : Nat} : (s.put n d).put n c = s.put n c := by simp [S.put, putC_putC]
theorem put_same {s : S} {c : Cl} {n : Nat} (h : s.get n = some c) : s.put n c = s := by
  show { s with cs := putC n c s.cs } = s
  rw [putC_same h]
theorem add_put {s : S} {c d : Cl} : (s.add d).put s.nx c = s.add c := by simp [S.put, S.add, putC]
theorem add_put_ne {s : S} {c d : Cl} {n : Nat} (h : n ≠ s.nx) : (s.add d).put n c = (s.put n c).add d := by
  have h2 : ¬ s.nx = n := fun z => h z.symm
  simp [S.put, S.add, putC, h2]
@[simp] theorem nx_add {s : S} {c : Cl} : (s.add c).nx = s.nx + 1 := rfl
@[simp] theorem nx_put {s : S} {c : Cl} {n : Nat} : (s.put n c).nx = s.nx := rfl
/-- every cell is older than the next, and names older ones only -/
def Wf (s : S) : Prop := ∀ p ∈ s.cs, p.1 < s.nx ∧ belowC s.nx p.2 = true
mutual
theorem below_mono {n m : Nat} (h : n ≤ m) : ∀ {d : D}, below n d = true → below m d = true
  | .ref k, q => by simp [below] at q ⊢; omega
  | .tup ds, q => by simp only [below] at q ⊢; exact belows_mono h q
  | .lst ds, q => by simp only [below] at q ⊢; exact belows_mono h q
  | .dic ks vs, q => by
    simp only [below, Bool.and_eq_true] at q ⊢
    exact ⟨belows_mono h q.1, belows_mono h q.2⟩
  | .non, _ => rfl
  | .bl _, _ => rfl
  | .int _, _ => rfl
  | .str _, _ => rfl
  | .fn _, _ => rfl
  | .ty _, _ => rfl
  | .inp _, _ => rfl
theorem belows_mono {n m : Nat} (h : n ≤ m) : ∀ {ds : List D}, belows n ds = true → belows m ds = true
  | [], _ => rfl
  | d :: ds, q => by
    simp only [belows, Bool.and_eq_true] at q ⊢
    exact ⟨below_mono h q.1, belows_mono h q.2⟩
end
theorem belowC_mono {n m : Nat} (h : n ≤ m) {c : Cl} (q : belowC n c = true) : belowC m c = true := by
  cases c with
  | lst f ds => exact belows_mono h q
  | dic f ks vs =>
    simp only [belowC, Bool.and_eq_true] at q ⊢
    exact ⟨belows_mono h q.1, belows_mono h q.2⟩
theorem Wf.add {s : S} {c : Cl} (W : Wf s) (h : belowC s.nx c = true) : Wf (s.add c) := by
  intro p hp
  rcases List.mem_cons.mp hp with rfl | hp
  · exact ⟨Nat.lt_succ_self _, belowC_mono (Nat.le_succ _) h⟩
  · obtain ⟨h1, h2⟩ := W p hp
    exact ⟨Nat.lt_succ_of_lt h1, belowC_mono (Nat.le_succ _) h2⟩
theorem mem_putC {n : Nat} {c : Cl} {p : Nat × Cl} : ∀ {l : List (Nat × Cl)}, p ∈ putC n c l → p ∈ l ∨ p.2 = c ∧ (∃ d, (p.1, d) ∈ l)
  | [], h => by cases h
  | (j, e) :: r, h => by
    unfold putC at h
    by_cases hj : j = n
    · rw [if_pos hj] at h
      rcases List.mem_cons.mp h with rfl | h
      · exact .inr ⟨rfl, e, List.mem_cons_self⟩
      · exact .inl (List.mem_cons_of_mem _ h)
    · rw [if_neg hj] at h
      rcases List.mem_cons.mp h with rfl | h
      · exact .inl List.mem_cons_self
      · rcases mem_putC h with h | ⟨h1, d, h2⟩
        · exact .inl (List.mem_cons_of_mem _ h)
        · exact .inr ⟨h1, d, List.mem_cons_of_mem _ h2⟩
theorem Wf.put {s : S} {n : Nat} {c : Cl} (W : Wf s) (h : belowC s.nx c = true) : Wf (s.put n c) := by
  intro p hp
  rcases mem_putC hp with hp | ⟨h1, d, h2⟩
  · exact W p hp
  · exact ⟨(W _ h2).1, by rw [h1]; exact h⟩
theorem get_mem {n : Nat} {c : Cl} : ∀ {l : List (Nat × Cl)}, l.lookup n = some c → (n, c) ∈ l
  | [], h => by cases h
  | (j, e) :: r, h => by
    cases q : (n == j) with
    | true =>
      rw [List.lookup, q] at h
      cases h
      rw [beq_iff_eq.mp q]
      exact List.mem_cons_self
    | false =>
      rw [List.lookup, q] at h
      exact List.mem_cons_of_mem _ (get_mem h)
theorem Wf.lt {s : S} {n : Nat} {c : Cl} (W : Wf s) (h : s.get n = some c) : n < s.nx := (W _ (get_mem h)).1
/-- t is s and newer cells -/
structure Over (s t : S) : Prop where
  nx : s.nx ≤ t.nx
  cs : ∃ new : List (Nat × Cl), t.cs = new ++ s.cs ∧ ∀ p ∈ new, s.nx ≤ p.1
theorem Over.refl (s : S) : Over s s := ⟨Nat.le_refl _, [], rfl, fun _ h => by cases h⟩
theorem Over.add {s t : S} {c : Cl} (h : Over s t) : Over s (t.add c) := by
  obtain ⟨h1, new, h2, h3⟩ := h
  refine ⟨Nat.le_succ_of_le h1, (t.nx, c) :: new, ?_, fun p hp => ?_⟩
  · show (t.nx, c) :: t.cs = _
    rw [h2]
    rfl
  · rcases List.mem_cons.mp hp with rfl | hp
    · exact h1
    · exact h3 p hp
theorem putC_append {n : Nat} {c : Cl} {r : List (Nat × Cl)} (hr : ∀ p ∈ r, p.1 ≠ n) : ∀ {l : List (Nat × Cl)}, putC n c (l ++ r) = putC n c l ++ r
  | [] => by
    show putC n c r = r
    induction r with
    | nil => rfl
    | cons p r ih =>
      obtain ⟨k, d⟩ := p
      have hk : ¬ k = n := hr (k, d) List.mem_cons_self
      simp only [putC, if_neg hk]
      rw [ih fun p hp => hr p (List.mem_cons_of_mem _ hp)]
  | (j, e) :: l => by
    by_cases hj : j = n
    · simp [putC, hj]
    · simp [putC, hj, putC_append hr (l := l)]
theorem Over.put {s t : S} {n : Nat} {c : Cl} (W : Wf s) (h : Over s t) (hn : s.nx ≤ n) : Over s (t.put n c) := by
  obtain ⟨h1, new, h2, h3⟩ := h
  refine ⟨h1, putC n c new, ?_, fun p hp => ?_⟩
  · show putC n c t.cs = _
    rw [h2]
    exact putC_append fun p hp z => by have := (W p hp).1; omega
  · rcases mem_putC hp with hp | ⟨_, d, hp⟩
    · exact h3 p hp
    · exact h3 (p.1, d) hp
theorem Over.filter {s t : S} (W : Wf s) (h : Over s t) : t.cs.filter (fun p => decide (p.1 < s.nx)) = s.cs := by
  obtain ⟨_, new, h2, h3⟩ := h
  rw [h2, List.filter_append]
  have e1 : new.filter (fun p => decide (p.1 < s.nx)) = [] := by
    rw [List.filter_eq_nil_iff]
    intro p hp
    have := h3 p hp
    simp
    omega
  have e2 : s.cs.filter (fun p => decide (p.1 < s.nx)) = s.cs := by
    rw [List.filter_eq_self]
    intro p hp
    simpa using (W p hp).1
  rw [e1, e2]
  rfl
theorem S.eta (s : S) : (⟨s.nx, s.cs⟩ : S) = s := rfl
theorem clean_over {s t : S} {d : D} (W : Wf s) (h : Over s t) (hd : below s.nx d = true) : clean s.nx d t = (d, s) := by
  unfold clean
  simp only [h.filter W]
  have e : s.cs.all (fun p => belowC s.nx p.2) = true := List.all_eq_true.mpr fun p hp => (W p hp).2
  rw [if_pos e, if_pos hd]
theorem clean_cell {s t : S} {k : Nat} {c : Cl} (W : Wf s) (h : Over s t) (hk : s.nx ≤ k) (hg : t.get k = some c) (hc : belowC s.nx c = true) : clean s.nx (.ref k) t = (.ref s.nx, s.add c) := by
  unfold clean
  simp only [h.filter W]
  have e : s.cs.all (fun p => belowC s.nx p.2) = true := List.all_eq_true.mpr fun p hp => (W p hp).2
  have e2 : ¬ below s.nx (.ref k) = true := by simp [below]; omega
  rw [if_pos e, if_neg e2, hg]
  simp only [hc, if_true]
  rfl
/-! ### calls -/
section
variable {tab : Nat → Option Fd} {wf n f : Nat} {ps ns : Nat} {b : MSs} {ds : List D} {s t : S} {d : D} {τ : Tau}
abbrev cc (tab : Nat → Option Fd) (wf n : Nat) : Cc := ⟨callN tab wf n, wf, fun f => (tab f).isSome⟩
theorem call_eq (ht : tab f = some ⟨ps, ns, b⟩) (hl : ds.length = ps) : callN tab wf (n + 1) f ds s = endOf s.nx (evSs (cc tab wf n) b (startT ns ds) s) := by
  simp only [callN, ht, hl, if_true]
/-- a def that hands back a plain value -/
theorem call_pure (ht : tab f = some ⟨ps, ns, b⟩) (hl : ds.length = ps) (W : Wf s) {t : S} (h : evSs (cc tab wf n) b (startT ns ds) s = .rt d t) (o : Over s t) (hd : below s.nx d = true) : callN tab wf (n + 1) f ds s = .ok d s := by
  rw [call_eq ht hl, h]
  simp only [endOf, clean_over W o hd]
theorem call_none (ht : tab f = some ⟨ps, ns, b⟩) (hl : ds.length = ps) (W : Wf s) {t : S} (h : evSs (cc tab wf n) b (startT ns ds) s = .nx τ t) (o : Over s t) : callN tab wf (n + 1) f ds s = .ok .non s := by
  rw [call_eq ht hl, h]
  simp only [endOf, clean_over W o (show below s.nx .non = true from rfl)]
theorem call_cell (ht : tab f = some ⟨ps, ns, b⟩) (hl : ds.length = ps) (W : Wf s) {t : S} {k : Nat} {c : Cl} (h : evSs (cc tab wf n) b (startT ns ds) s = .rt (.ref k) t) (o : Over s t) (hk : s.nx ≤ k) (hg : t.get k = some c) (hc : belowC s.nx c = true) : callN tab wf (n + 1) f ds s = .ok (.ref s.nx) (s.add c) := by
  rw [call_eq ht hl, h]
  simp only [endOf, clean_cell W o hk hg hc]
/-- the same, other cells changed: u is the old part of what it leaves -/
theorem call_over {u : S} (ht : tab f = some ⟨ps, ns, b⟩) (hl : ds.length = ps) (W : Wf u) (hu : u.nx = s.nx) {t : S} (h : evSs (cc tab wf n) b (startT ns ds) s = .rt d t) (o : Over u t) (hd : below s.nx d = true) : callN tab wf (n + 1) f ds s = .ok d u := by
  rw [call_eq ht hl, h]
  simp only [endOf]
  rw [← hu] at hd ⊢
  rw [clean_over W o hd]
end
/-! ### loops -/
section
variable {α β : Type} {f : D → S → Res (Option D)} {s : S} {e : α → D} {h : α → D}
theorem loopC_map {xs : List α} (k : ∀ x ∈ xs, f (e x) s = .ok (some (h x)) s) : loopC f (xs.map e) s = .ok (xs.map h) s := by
  induction xs with
  | nil => rfl
  | cons x xs ih =>
    rw [List.map_cons, loopC, k x List.mem_cons_self]
    simp only
    rw [ih fun y hy => k y (List.mem_cons_of_mem _ hy)]
    rfl
theorem loopC_filter {xs : List α} {q : α → Bool} (k : ∀ x ∈ xs, f (e x) s = .ok (if q x then some (h x) else none) s) : loopC f (xs.map e) s = .ok ((xs.filter q).map h) s := by
  induction xs with
  | nil => rfl
  | cons x xs ih =>
    rw [List.map_cons, loopC, k x List.mem_cons_self]
    simp only
    rw [ih fun y hy => k y (List.mem_cons_of_mem _ hy)]
    cases qx : q x <;> simp [List.filter_cons, qx]
/-- the state moves on: P holds of it -/
theorem loopC_ex {xs : List D} {P : S → Prop} {Q : D → Prop} (k : ∀ x ∈ xs, ∀ s, P s → ∃ y s', f x s = .ok (some y) s' ∧ P s' ∧ Q y) : ∀ s, P s → ∃ ys s', loopC f xs s = .ok ys s' ∧ P s' ∧ ys.length = xs.length ∧ ∀ y ∈ ys, Q y := by
  induction xs with
  | nil => exact fun s p => ⟨[], s, rfl, p, rfl, fun _ h => by cases h⟩
  | cons x xs ih =>
    intro s p
    obtain ⟨y, s1, h1, h2, h3⟩ := k x List.mem_cons_self s p
    obtain ⟨ys, s2, h4, h5, h6, h7⟩ := ih (fun z hz => k z (List.mem_cons_of_mem _ hz)) s1 h2
    refine ⟨y :: ys, s2, ?_, h5, by simp [h6], fun z hz => ?_⟩
    · rw [loopC, h1]
      simp only
      rw [h4]
    · rcases List.mem_cons.mp hz with rfl | hz
      · exact h3
      · exact h7 z hz
end
section
variable {α β : Type} {g : D → Tau → S → Res Tau} {b : Tau → S → Fl} {e : α → D}
/-- a for that goes through -/
theorem loopF_fold {step : β → α → β} {I : β → Tau → S → Prop} {xs : List α} (k : ∀ a x τ s, x ∈ xs → I a τ s → ∃ τ1 s1 τ2 s2, g (e x) τ s = .ok τ1 s1 ∧ b τ1 s1 = .nx τ2 s2 ∧ I (step a x) τ2 s2) : ∀ a τ s, I a τ s → ∃ τ' s', loopF g b (xs.map e) τ s = .nx τ' s' ∧ I (xs.foldl step a) τ' s' := by
  induction xs with
  | nil => exact fun a τ s h => ⟨τ, s, rfl, h⟩
  | cons x xs ih =>
    intro a τ s h
    obtain ⟨τ1, s1, τ2, s2, h1, h2, h3⟩ := k a x τ s List.mem_cons_self h
    obtain ⟨τ', s', h4, h5⟩ := ih (fun a y τ s hy => k a y τ s (List.mem_cons_of_mem _ hy)) _ _ _ h3
    refine ⟨τ', s', ?_, h5⟩
    rw [List.map_cons, loopF, h1]
    simp only
    rw [h2]
    exact h4
/-- a for that looks for a bad one: it hands back r at the first -/
theorem loopF_all {I : Tau → S → Prop} {r : D} {J : S → Prop} {q : α → Bool} {xs : List α} (k : ∀ x τ s, x ∈ xs → I τ s → ∃ τ1 s1, g (e x) τ s = .ok τ1 s1 ∧ (if q x then ∃ τ2 s2, b τ1 s1 = .nx τ2 s2 ∧ I τ2 s2 else ∃ s2, b τ1 s1 = .rt r s2 ∧ J s2)) :
    ∀ τ s, I τ s → (if xs.all q then ∃ τ' s', loopF g b (xs.map e) τ s = .nx τ' s' ∧ I τ' s' else ∃ s', loopF g b (xs.map e) τ s = .rt r s' ∧ J s') := by
  induction xs with
  | nil => exact fun τ s h => ⟨τ, s, rfl, h⟩
  | cons x xs ih =>
    intro τ s h
    obtain ⟨τ1, s1, h1, h2⟩ := k x τ s List.mem_cons_self h
    rw [List.all_cons]
    cases qx : q x with
    | true =>
      rw [qx, if_pos rfl] at h2
      obtain ⟨τ2, s2, h3, h4⟩ := h2
      have h5 := ih (fun y τ s hy => k y τ s (List.mem_cons_of_mem _ hy)) τ2 s2 h4
      rw [Bool.true_and]
      have e1 : loopF g b ((x :: xs).map e) τ s = loopF g b (xs.map e) τ2 s2 := by
        rw [List.map_cons, loopF, h1]
        simp only
        rw [h3]
      rw [e1]
      exact h5
    | false =>
      rw [qx, if_neg Bool.false_ne_true] at h2
      obtain ⟨s2, h3, h4⟩ := h2
      rw [Bool.false_and, if_neg Bool.false_ne_true]
      refine ⟨s2, ?_, h4⟩
      rw [List.map_cons, loopF, h1]
      simp only
      rw [h3]
end
end Mi
set_option Elab.async false
set_option linter.all false
set_option maxRecDepth 100000
set_option maxHeartbeats 400000
/-! Pl2: typed values in the small language. -/
namespace Mi
open PySem PySem.W PyProof.Rows
class En (α : Type) [DecidableEq α] extends DatumOrd α where
  enc : α → D
  py : ∀ lk a, toPy lk (enc a) = some (toD a)
  lay : ∀ a, (toD a).canLay0 = true
  low : ∀ n a, below n (enc a) = true
open En (enc)
section
variable {α β : Type} [DecidableEq α] [En α] [DecidableEq β] [En β]
theorem toPys_map (lk : Nat → Option PyData) : ∀ xs : List α, toPys lk (xs.map enc) = some (xs.map Datum.toD)
  | [] => rfl
  | x :: xs => by
    rw [List.map_cons, toPys, En.py, toPys_map lk xs]
    rfl
theorem lays_map : ∀ xs : List α, PyData.canLayAll0 (xs.map Datum.toD) = true
  | [] => rfl
  | x :: xs => by
    rw [List.map_cons, PyData.canLayAll0, En.lay x, lays_map xs]
    rfl
theorem lows_map (n : Nat) : ∀ xs : List α, belows n (xs.map enc) = true
  | [] => rfl
  | x :: xs => by
    rw [List.map_cons, belows, En.low n x, lows_map n xs]
    rfl
end
instance : En Int where
  enc := .int
  py _ _ := rfl
  lay _ := rfl
  low _ _ := rfl
instance : En Bool where
  enc := .bl
  py _ _ := rfl
  lay _ := rfl
  low _ _ := rfl
section
variable {α β : Type} [DecidableEq α] [En α] [DecidableEq β] [En β]
instance : En (List α) where
  enc xs := .lst (xs.map enc)
  py lk xs := by rw [toPy, toPys_map]; rfl
  lay xs := lays_map xs
  low n xs := lows_map n xs
instance : En (Tup α) where
  enc xs := .tup (xs.items.map enc)
  py lk xs := by rw [toPy, toPys_map]; rfl
  lay xs := lays_map xs.items
  low n xs := lows_map n xs.items
instance : En (α × β) where
  enc p := .tup [enc p.1, enc p.2]
  py lk p := by
    rw [toPy, toPys, toPys, toPys, En.py, En.py]
    rfl
  lay p := by
    show (PyData.canLay0 _ && (PyData.canLay0 _ && true)) = true
    rw [En.lay, En.lay]
    rfl
  low n p := by
    show (below n _ && (below n _ && true)) = true
    rw [En.low, En.low]
    rfl
theorem py_en (s : S) (a : α) : s.py (enc a) = some (Datum.toD a) := En.py _ a
theorem pys_en (s : S) (xs : List α) : s.pys (xs.map enc) = some (xs.map Datum.toD) := toPys_map _ xs
theorem shaped_en (a : α) (h : Datum.depth α ≤ 64) : SeqAt.shaped (Datum.toD a) = true := by
  unfold SeqAt.shaped
  rw [En.lay a, Bool.true_and, decide_eq_true_eq]
  exact Nat.le_trans (Datum.depth_le a) h
theorem shapeds_en (xs : List α) (h : Datum.depth α ≤ 63) : SeqAt.shaped (.list (xs.map Datum.toD)) = true := shaped_en (α := List α) xs (Nat.succ_le_succ h)
theorem eqv_en (s : S) (a b : α) (h : Datum.depth α ≤ 64) : s.eqv (enc a) (enc b) = some (decide (a = b)) := by
  unfold S.eqv
  rw [py_en, py_en]
  simp only [shaped_en _ h, Bool.and_self, if_true, Datum.eqv]
theorem eq_en (s : S) (a b : α) (h : Datum.depth α ≤ 64 := by decide) : evCmp .eq (enc a) (enc b) s = .ok (.bl (decide (a = b))) s := by
  simp only [evCmp, eqv_en s a b h]
theorem ne_en (s : S) (a b : α) (h : Datum.depth α ≤ 64 := by decide) : evCmp .ne (enc a) (enc b) s = .ok (.bl (!decide (a = b))) s := by
  simp only [evCmp, eqv_en s a b h]
theorem any_en (xs : List α) (a : α) : ((xs.map Datum.toD).any fun z => PyData.eqv z (Datum.toD a)) = decide (a ∈ xs) := by
  induction xs with
  | nil => rfl
  | cons x xs ih =>
    rw [List.map_cons, List.any_cons, ih, Datum.eqv]
    by_cases h : x = a
    · simp [h]
    · have h2 : ¬ a = x := fun z => h z.symm
      simp [h, h2]
theorem isIn_en (s : S) (a : α) (xs : List α) (h : Datum.depth α ≤ 63) : s.isIn (enc a) (.lst (xs.map enc)) = some (decide (a ∈ xs)) := by
  simp only [S.isIn, py_en, pys_en, shaped_en a (Nat.le_succ_of_le h), shapeds_en xs h, Bool.and_self, if_true, any_en]
theorem shapeds_tup (xs : List α) (h : Datum.depth α ≤ 63) : SeqAt.shaped (.tuple (xs.map Datum.toD)) = true := by
  have h0 := shapeds_en xs h
  unfold SeqAt.shaped at h0 ⊢
  simp only [PyData.canLay0, PyData.depth] at h0 ⊢
  exact h0
theorem isIn_tup (s : S) (a : α) (xs : List α) (h : Datum.depth α ≤ 63) : s.isIn (enc a) (.tup (xs.map enc)) = some (decide (a ∈ xs)) := by
  simp only [S.isIn, py_en, pys_en, shaped_en a (Nat.le_succ_of_le h), shapeds_tup xs h, Bool.and_self, if_true, any_en]
theorem in_tup (s : S) (a : α) (xs : List α) (h : Datum.depth α ≤ 63 := by decide) : evCmp .isin (enc a) (.tup (xs.map enc)) s = .ok (.bl (decide (a ∈ xs))) s := by
  simp only [evCmp, isIn_tup s a xs h]
theorem notin_tup (s : S) (a : α) (xs : List α) (h : Datum.depth α ≤ 63 := by decide) : evCmp .notin (enc a) (.tup (xs.map enc)) s = .ok (.bl (!decide (a ∈ xs))) s := by
  simp only [evCmp, isIn_tup s a xs h]
theorem in_en (s : S) (a : α) (xs : List α) (h : Datum.depth α ≤ 63 := by decide) : evCmp .isin (enc a) (.lst (xs.map enc)) s = .ok (.bl (decide (a ∈ xs))) s := by
  simp only [evCmp, isIn_en s a xs h]
theorem notin_en (s : S) (a : α) (xs : List α) (h : Datum.depth α ≤ 63 := by decide) : evCmp .notin (enc a) (.lst (xs.map enc)) s = .ok (.bl (!decide (a ∈ xs))) s := by
  simp only [evCmp, isIn_en s a xs h]
/-- a tuple: the less -/
theorem lt_en (s : S) (a b : α) (ta : ∃ xs, enc a = D.tup xs) (tb : ∃ xs, enc b = D.tup xs) (h : Datum.depth α ≤ 64 := by decide) : evCmp .lt (enc a) (enc b) s = .ok (.bl (DatumOrd.lt a b)) s := by
  have pa := py_en s a
  have pb := py_en s b
  obtain ⟨xs, ea⟩ := ta
  obtain ⟨ys, eb⟩ := tb
  rw [ea] at pa ⊢
  rw [eb] at pb ⊢
  simp only [evCmp, S.lt, pa, pb, shaped_en a h, shaped_en b h, DatumOrd.alike a b, Bool.and_self, if_true, DatumOrd.lt_eq]
/-- x == [] -/
theorem nil_eqv (s : S) (ds : List D) (ps : List PyData) (hp : s.pys ds = some ps) (hs : SeqAt.shaped (.list ps) = true) : s.eqv (.lst ds) (.lst []) = some ds.isEmpty := by
  have h1 : s.py (.lst ds) = some (.list ps) := by
    show toPy _ _ = _
    rw [toPy, show toPys (s.look 4) ds = some ps from hp]
    rfl
  have h2 : s.py (.lst []) = some (.list []) := rfl
  have h3 : SeqAt.shaped (.list []) = true := rfl
  simp only [S.eqv, h1, h2, hs, h3, Bool.and_self, if_true]
  cases ds with
  | nil =>
    cases hp
    rfl
  | cons d ds =>
    simp only [S.pys, toPys] at hp
    split at hp
    · cases hp
      rfl
    · cases hp
theorem nil_en (s : S) (xs : List α) (h : Datum.depth α ≤ 63 := by decide) : s.eqv (.lst (xs.map enc)) (.lst []) = some xs.isEmpty := by
  rw [nil_eqv s _ _ (pys_en s xs) (shapeds_en xs h)]
  cases xs <;> rfl
/-- the order that sorted takes -/
def leE (a b : α) : Bool := !DatumOrd.lt b a
theorem leD_en (s : S) (a b : α) : leD s (enc a) (enc b) = leE a b := by
  simp only [leD, py_en, Option.getD_some, DatumOrd.lt_eq, leE]
theorem mergeSort_map {γ δ : Type} {le : γ → γ → Bool} {le' : δ → δ → Bool} {f : γ → δ} (h : ∀ a b, le' (f a) (f b) = le a b) (xs : List γ) : (xs.map f).mergeSort le' = (xs.mergeSort le).map f := by
  rw [List.map_mergeSort]
  intro a _ b _
  exact (h a b).symm
theorem lt_irr (a : α) : DatumOrd.lt a a = false := by rw [← DatumOrd.lt_eq]; exact dataLt_self _
theorem lt_trans {a b c : α} (h1 : DatumOrd.lt a b = true) (h2 : DatumOrd.lt b c = true) : DatumOrd.lt a c = true := by
  rw [← DatumOrd.lt_eq] at h1 h2 ⊢
  exact lex_trans _ _ _ h1 h2
theorem lt_asym {a b : α} (h1 : DatumOrd.lt a b = true) : DatumOrd.lt b a = false := by
  cases q : DatumOrd.lt b a with
  | false => rfl
  | true => rw [← lt_irr a, ← lt_trans h1 q]
theorem leE_total (a b : α) : (leE a b || leE b a) = true := by
  unfold leE
  cases q : DatumOrd.lt b a with
  | false => rfl
  | true => rw [lt_asym q]; rfl
theorem leE_trans (a b c : α) (h1 : leE a b = true) (h2 : leE b c = true) : leE a c = true := by
  have e : ∀ x y : α, leE x y = !PyProof.Rows.lexLt itemOrd (keyToks (Datum.toD y)) (keyToks (Datum.toD x)) := fun x y => by
    show (!DatumOrd.lt y x) = _
    rw [← DatumOrd.lt_eq]
    rfl
  rw [e] at h1 h2 ⊢
  simp only [Bool.not_eq_true'] at h1 h2 ⊢
  cases q : PyProof.Rows.lexLt itemOrd (keyToks (Datum.toD c)) (keyToks (Datum.toD a)) with
  | false => rfl
  | true =>
    cases q2 : PyProof.Rows.lexLt itemOrd (keyToks (Datum.toD a)) (keyToks (Datum.toD b)) with
    | true =>
      have h3 := lex_trans _ _ _ q q2
      rw [h2] at h3
      cases h3
    | false =>
      have h3 := lex_total _ _ q2 h1
      rw [h3] at q
      rw [h2] at q
      cases q
/-- sorting gives the strictly rising list of the same values -/
theorem sort_unique {xs ys : List α} (hp : xs.Perm ys) (hs : ys.Pairwise fun a b => DatumOrd.lt a b = true) : xs.mergeSort leE = ys := by
  refine List.Perm.eq_of_pairwise (le := fun a b => leE a b = true) ?_ (List.pairwise_mergeSort leE_trans leE_total xs) ?_ ((List.mergeSort_perm xs leE).trans hp)
  · intro a b ha hb h1 h2
    have ha : a ∈ ys := hp.mem_iff.mp ((List.mergeSort_perm xs leE).mem_iff.mp ha)
    by_cases h : a = b
    · exact h
    · exfalso
      unfold leE at h1 h2
      simp only [Bool.not_eq_true'] at h1 h2
      have key : ∀ {l : List α}, l.Pairwise (fun a b => DatumOrd.lt a b = true) → a ∈ l → b ∈ l → DatumOrd.lt a b = true ∨ DatumOrd.lt b a = true := by
        intro l
        induction l with
        | nil => intro _ h _; cases h
        | cons x l ih =>
          intro hp ha hb
          obtain ⟨p1, p2⟩ := List.pairwise_cons.mp hp
          rcases List.mem_cons.mp ha with rfl | ha
          · rcases List.mem_cons.mp hb with hb | hb
            · exact absurd hb.symm h
            · exact .inl (p1 _ hb)
          · rcases List.mem_cons.mp hb with hb | hb
            · rw [hb]; exact .inr (p1 _ ha)
            · exact ih p2 ha hb
      rcases key hs ha hb with z | z
      · rw [z] at h2; cases h2
      · rw [z] at h1; cases h1
  · exact hs.imp fun h => by show (!DatumOrd.lt _ _) = true; rw [lt_asym h]; rfl
theorem sortOk_en (xs : List α) (ht : ∀ a : α, isTup (Datum.toD a) = true) (h : Datum.depth α ≤ 64) : sortOk (xs.map Datum.toD) = true := by
  unfold sortOk
  simp only [Bool.and_eq_true, Bool.or_eq_true, List.all_eq_true, List.mem_map, decide_eq_true_eq]
  refine ⟨⟨?_, .inl ?_⟩, ?_⟩
  · rintro _ ⟨a, _, rfl⟩ _ ⟨b, _, rfl⟩
    exact DatumOrd.alike a b
  · rintro _ ⟨a, _, rfl⟩
    exact ht a
  · rintro _ ⟨a, _, rfl⟩
    exact Nat.le_trans (Datum.depth_le a) h
theorem sorted_en (s : S) (xs : List α) (ht : ∀ a : α, isTup (Datum.toD a) = true) (h : Datum.depth α ≤ 64 := by decide) : evBi .sorted [.lst (xs.map enc)] s = .ok (.lst ((xs.mergeSort leE).map enc)) s := by
  simp only [evBi, S.items, pys_en, sortOk_en xs ht h, Bool.true_or, if_true]
  rw [mergeSort_map (leD_en s)]
theorem sortedK_en (s : S) (xs : List α) (vs : List D) (ht : ∀ a : α, isTup (Datum.toD a) = true) (h : Datum.depth α ≤ 64 := by decide) : evBi .sorted [.dic (xs.map enc) vs] s = .ok (.lst ((xs.mergeSort leE).map enc)) s := by
  simp only [evBi, pys_en, sortOk_en xs ht h, if_true]
  rw [mergeSort_map (leD_en s)]
end
end Mi
set_option Elab.async false
set_option linter.all false
set_option maxRecDepth 100000
set_option maxHeartbeats 400000
/-! W1: the run of a text ends well, and so and so holds: step by step, by simp. -/
namespace Mi
open PySem PySem.W
open Mi.En (enc)
/-- the run ends with a value, and Q holds of it -/
def Res.W {α : Type} (r : Res α) (Q : α → S → Prop) : Prop := match r with
  | .ok a s => Q a s
  | _ => False
def Fl.W (f : Fl) (N : Tau → S → Prop) (R : D → S → Prop) (K : Tau → S → Prop) (B : Tau → S → Prop) : Prop := match f with
  | .nx τ s => N τ s
  | .rt d s => R d s
  | .ct τ s => K τ s
  | .bk τ s => B τ s
  | _ => False
theorem W_bind {α β : Type} {r : Res α} {f : α → S → Res β} {Q : β → S → Prop} : (Res.bind r f).W Q = r.W (fun a s => (f a s).W Q) := by cases r <;> rfl
theorem W_of {α : Type} {r : Res α} {τ : Tau} {f : α → S → Fl} {N R K B} : (Fl.of r τ f).W N R K B = r.W (fun a s => (f a s).W N R K B) := by cases r <;> rfl
theorem W_next {f : Fl} {g : Tau → S → Fl} {N R K B} : (Fl.next f g).W N R K B = f.W (fun τ s => (g τ s).W N R K B) R K B := by cases f <;> rfl
theorem Res.W.mono {α : Type} {r : Res α} {Q Q' : α → S → Prop} (h : r.W Q) (k : ∀ a s, Q a s → Q' a s) : r.W Q' := by
  cases r with
  | ok a s => exact k _ _ h
  | exc => exact h
  | stuck => exact h
theorem Res.W.ex {α : Type} {r : Res α} {Q : α → S → Prop} (h : r.W Q) : ∃ a s, r = .ok a s ∧ Q a s := by
  cases r with
  | ok a s => exact ⟨a, s, rfl, h⟩
  | exc => exact h.elim
  | stuck => exact h.elim
theorem Res.W.of {α : Type} {r : Res α} {Q : α → S → Prop} {a : α} {s : S} (h : r = .ok a s) (q : Q a s) : r.W Q := by rw [h]; exact q
/-- just this value, this state -/
def isQ {α : Type} (x : α) (t : S) : α → S → Prop := fun a s => a = x ∧ s = t
theorem Res.W.eq {α : Type} {r : Res α} {x : α} {t : S} (h : r.W (isQ x t)) : r = .ok x t := by
  obtain ⟨a, s, e, rfl, rfl⟩ := h.ex
  exact e
theorem isQ_self {α : Type} {x : α} {t : S} : isQ x t x t = True := by simp [isQ]
theorem Fl.W.mono {f : Fl} {N N' R R' K K' B B'} (h : f.W N R K B) (n : ∀ τ s, N τ s → N' τ s) (r : ∀ d s, R d s → R' d s) (k : ∀ τ s, K τ s → K' τ s) (b : ∀ τ s, B τ s → B' τ s) : f.W N' R' K' B' := by
  cases f with
  | nx τ s => exact n _ _ h
  | rt d s => exact r _ _ h
  | ct τ s => exact k _ _ h
  | bk τ s => exact b _ _ h
  | exc => exact h
  | stuck => exact h
abbrev noT : Tau → S → Prop := fun _ _ => False
abbrev noR : D → S → Prop := fun _ _ => False
section
variable (c : Cc) (τ : Tau)
/-! ### what is done behind a part -/
abbrev VQ := D → S → Prop
abbrev TQ := Tau → S → Prop
def kSs (r : MSs) (N : TQ) (R : VQ) (K B : TQ) : TQ := fun τ s => (evSs c r τ s).W N R K B
def kSet (i : Nat) (N : TQ) : VQ := fun d s => N (τ.set i (some d)) s
def kAsg (g : MG) (N : TQ) : VQ := fun d s => (evG c g d τ s).W N
def kP2a (i j : Nat) (b : ME) (N : TQ) : VQ := fun x s => (evE c b τ s).W fun y s => N ((τ.set i (some x)).set j (some y)) s
def kP2b (i j : Nat) (x : D) (N : TQ) : VQ := fun y s => N ((τ.set i (some x)).set j (some y)) s
def kP3a (i j k : Nat) (b e : ME) (N : TQ) : VQ := fun x s => (evE c b τ s).W fun y s => (evE c e τ s).W fun z s => N (((τ.set i (some x)).set j (some y)).set k (some z)) s
def kP3b (i j k : Nat) (e : ME) (x : D) (N : TQ) : VQ := fun y s => (evE c e τ s).W fun z s => N (((τ.set i (some x)).set j (some y)).set k (some z)) s
def kP3c (i j k : Nat) (x y : D) (N : TQ) : VQ := fun z s => N (((τ.set i (some x)).set j (some y)).set k (some z)) s
def kAug (o : Bo) (n : Int) (i : Nat) (N : TQ) : VQ := fun d s => (augF o n i τ d s).W N noR noT noT
def kEx (N : TQ) : VQ := fun _ s => N τ s
/-- a branch: it waits till the test is known -/
def brS (p : Bool) (a b : MSs) (s : S) (N : TQ) (R : VQ) (K B : TQ) : Prop := match p with
  | true => (evSs c a τ s).W N R K B
  | false => (evSs c b τ s).W N R K B
def kIf (a b : MSs) (N : TQ) (R : VQ) (K B : TQ) : VQ := fun d s => match d with
  | .bl p => brS c τ p a b s N R K B
  | _ => False
def kFor (g : MG) (b : MSs) (N : TQ) (R : VQ) : List D → S → Prop := fun ds s => (loopF (evG c g) (evSs c b) ds τ s).W N R noT noT
def wWhl (t : ME) (b : MSs) (s : S) (N : TQ) (R : VQ) : Prop := (loopW (evE c t) (evSs c b) c.wf τ s).W N R noT noT
def kFrz (Q : VQ) : VQ := fun d s => (evFrz d s).W Q
def kBin1 (o : Bo) (b : ME) (Q : VQ) : VQ := fun x s => (evE c b τ s).W fun y s => (evBin o x y s).W Q
def kBin2 (o : Bo) (x : D) (Q : VQ) : VQ := fun y s => (evBin o x y s).W Q
def kCmp1 (o : Co) (b : ME) (Q : VQ) : VQ := fun x s => (evE c b τ s).W fun y s => (evCmp o x y s).W Q
def kCmp2 (o : Co) (x : D) (Q : VQ) : VQ := fun y s => (evCmp o x y s).W Q
def kCh1 (o p : Co) (b e : ME) (Q : VQ) : VQ := fun x s => (evE c b τ s).W fun y s => (evCmp o x y s).W fun r s => match r with
  | .bl true => (evE c e τ s).W fun z s => (evCmp p y z s).W Q
  | .bl false => Q (.bl false) s
  | _ => False
def kCh2 (o p : Co) (e : ME) (x : D) (Q : VQ) : VQ := fun y s => (evCmp o x y s).W fun r s => match r with
  | .bl true => (evE c e τ s).W fun z s => (evCmp p y z s).W Q
  | .bl false => Q (.bl false) s
  | _ => False
def brCh (q : Bool) (p : Co) (e : ME) (y : D) (s : S) (Q : VQ) : Prop := match q with
  | true => (evE c e τ s).W (kCmp2 p y Q)
  | false => Q (.bl false) s
def kCh3 (p : Co) (e : ME) (y : D) (Q : VQ) : VQ := fun r s => match r with
  | .bl q => brCh c τ q p e y s Q
  | _ => False
def kNeg (Q : VQ) : VQ := fun x s => match x with
  | .int i => Q (.int (-i)) s
  | _ => False
def kNo (Q : VQ) : VQ := fun x s => match x with
  | .bl b => Q (.bl (!b)) s
  | _ => False
def kBl (Q : VQ) : VQ := fun x s => match x with
  | .bl b => Q (.bl b) s
  | _ => False
def brAnd (p : Bool) (b : ME) (s : S) (Q : VQ) : Prop := match p with
  | true => (evE c b τ s).W (kBl Q)
  | false => Q (.bl false) s
def brOr (p : Bool) (b : ME) (s : S) (Q : VQ) : Prop := match p with
  | true => Q (.bl true) s
  | false => (evE c b τ s).W (kBl Q)
def brE (p : Bool) (a b : ME) (s : S) (Q : VQ) : Prop := match p with
  | true => (evE c a τ s).W Q
  | false => (evE c b τ s).W Q
def kAnd (b : ME) (Q : VQ) : VQ := fun x s => match x with
  | .bl p => brAnd c τ p b s Q
  | _ => False
def kOr (b : ME) (Q : VQ) : VQ := fun x s => match x with
  | .bl p => brOr c τ p b s Q
  | _ => False
def kIfe (a b : ME) (Q : VQ) : VQ := fun x s => match x with
  | .bl p => brE c τ p a b s Q
  | _ => False
def kTup (Q : VQ) : List D → S → Prop := fun ds s => ds.length ≤ 16777216 ∧ Q (.tup ds) s
def kLst (Q : VQ) : List D → S → Prop := fun ds s => ds.length ≤ 16777216 ∧ Q (.lst ds) s
def kCell (Q : VQ) : List D → S → Prop := fun ds s => ds.length ≤ 16777216 ∧ Q (.ref s.nx) (s.add (.lst false ds))
def kIx1 (b : ME) (Q : VQ) : VQ := fun x s => (evE c b τ s).W fun y s => (evIx x y s).W Q
def kIx2 (x : D) (Q : VQ) : VQ := fun y s => (evIx x y s).W Q
def kSl1 (lo hi : MO) (Q : VQ) : VQ := fun x s => (evO c lo τ s).W fun l s => (evO c hi τ s).W fun h s => (evSl x l h s).W Q
def kSl2 (hi : MO) (x : D) (Q : VQ) : Option Int → S → Prop := fun l s => (evO c hi τ s).W fun h s => (evSl x l h s).W Q
def kSl3 (x : D) (l : Option Int) (Q : VQ) : Option Int → S → Prop := fun h s => (evSl x l h s).W Q
def kRev (Q : VQ) : VQ := fun x s => (evRev x s).W Q
def wIsi (o : Option Ty) (ts : List Ty) (s : S) (Q : VQ) : Prop := match o with
  | some t => Q (.bl (ts.any fun u => t.isa u)) s
  | none => False
def kIsi (ts : List Ty) (Q : VQ) : VQ := fun x s => wIsi (s.tyOf x) ts s Q
def kCall (f : Nat) (Q : VQ) : List D → S → Prop := fun ds s => (c.call f ds s).W Q
def wPerm (f : Nat) (o : Option (List D)) (s : S) (Q : VQ) : Prop := match o with
  | some as => (c.call f as s).W Q
  | none => False
def kCallK (n f : Nat) (perm : List Nat) (Q : VQ) : List D → S → Prop := fun ds s => ds.length = n ∧ wPerm c f (permD ds perm) s Q
def kBi (b : Bi) (Q : VQ) : List D → S → Prop := fun ds s => (evBi b ds s).W Q
def kMt1 (m : Mt) (es : MEs) (Q : VQ) : VQ := fun x s => (s.items x).isSome = true ∧ (evEs c es τ s).W fun ds s => (evMt m x ds s).W Q
def kMt2 (m : Mt) (x : D) (Q : VQ) : List D → S → Prop := fun ds s => (evMt m x ds s).W Q
/-- one turn of a comprehension -/
def tnC (g : MG) (t : MO) (e : ME) (τ : Tau) (d : D) (s : S) : Res (Option D) := (evG c g d τ s).bind fun τ1 s3 => (evT c t τ1 s3).bind fun b s4 => if b then (evE c e τ1 s4).bind fun y s5 => .ok (some y) s5 else .ok none s4
def tnD (g : MG) (t : MO) (k v : ME) (τ : Tau) (d : D) (s : S) : Res (Option (D × D)) := (evG c g d τ s).bind fun τ1 s3 => (evT c t τ1 s3).bind fun b s4 => if b then (evE c k τ1 s4).bind fun x s5 => (evE c v τ1 s5).bind fun y s6 => .ok (some (x, y)) s6 else .ok none s4
def kCompEnd (mu : Bool) (Q : VQ) : List D → S → Prop := fun r s => match mu with
  | true => Q (.ref s.nx) (s.add (.lst false r))
  | false => Q (.lst r) s
def kComp (mu : Bool) (g : MG) (t : MO) (e : ME) (own : List Nat) (Q : VQ) : List D → S → Prop := fun ds s => ds.length ≤ 16777216 ∧ (loopC (tnC c g t e (wipeT τ own)) ds s).W (kCompEnd mu Q)
def kDEnd (mu : Bool) (Q : VQ) : List D × List D → S → Prop := fun r s => match mu with
  | true => Q (.ref s.nx) (s.add (.dic false r.1 r.2))
  | false => Q (.dic r.1 r.2) s
def kDcomp (mu : Bool) (g : MG) (t : MO) (k v : ME) (own : List Nat) (Q : VQ) : List D → S → Prop := fun ds s => ds.length ≤ 16777216 ∧ (loopK (tnD c g t k v (wipeT τ own)) ds [] [] s).W (kDEnd mu Q)
def kTC1 (t : MO) (e : ME) (Q : Option D → S → Prop) : TQ := fun τ s => (evT c t τ s).W fun b s => match b with
  | true => (evE c e τ s).W fun y s => Q (some y) s
  | false => Q none s
def brT (b : Bool) (e : ME) (s : S) (Q : Option D → S → Prop) : Prop := match b with
  | true => (evE c e τ s).W fun y s => Q (some y) s
  | false => Q none s
def kTC2 (e : ME) (Q : Option D → S → Prop) : Bool → S → Prop := fun b s => brT c τ b e s Q
def kSome (Q : Option D → S → Prop) : VQ := fun y s => Q (some y) s
def kTK1 (t : MO) (k v : ME) (Q : Option (D × D) → S → Prop) : TQ := fun τ s => (evT c t τ s).W fun b s => match b with
  | true => (evE c k τ s).W fun x s => (evE c v τ s).W fun y s => Q (some (x, y)) s
  | false => Q none s
def brK (b : Bool) (k v : ME) (s : S) (Q : Option (D × D) → S → Prop) : Prop := match b with
  | true => (evE c k τ s).W fun x s => (evE c v τ s).W fun y s => Q (some (x, y)) s
  | false => Q none s
def kTK0 (k v : ME) (Q : Option (D × D) → S → Prop) : Bool → S → Prop := fun b s => brK c τ b k v s Q
def kTK2 (v : ME) (Q : Option (D × D) → S → Prop) : VQ := fun x s => (evE c v τ s).W fun y s => Q (some (x, y)) s
def kTK3 (x : D) (Q : Option (D × D) → S → Prop) : VQ := fun y s => Q (some (x, y)) s
def kEs (r : MEs) (Q : List D → S → Prop) : VQ := fun d s => (evEs c r τ s).W fun ds s => Q (d :: ds) s
def kEc (d : D) (Q : List D → S → Prop) : List D → S → Prop := fun ds s => Q (d :: ds) s
def kO (Q : Option Int → S → Prop) : VQ := fun d s => match d with
  | .int i => Q (some i) s
  | _ => False
def kT (Q : Bool → S → Prop) : VQ := fun d s => match d with
  | .bl b => Q b s
  | _ => False
def wSome {α : Type} (o : Option α) (s : S) (Q : α → S → Prop) : Prop := match o with
  | some a => Q a s
  | none => False
def kIt (Q : List D → S → Prop) : VQ := fun d s => wSome (s.walk d) s Q
def kRng (Q : List D → S → Prop) : VQ := fun d s => match d with
  | .int j => (-4611686018427387904 ≤ j ∧ j < 4611686018427387904) ∧ Q (rangeD 0 j.toNat) s
  | _ => False
def kRn1 (b : ME) (Q : List D → S → Prop) : VQ := fun x s => (evE c b τ s).W fun y s => match x, y with
  | .int i, .int j => ((-4611686018427387904 ≤ i ∧ i < 4611686018427387904) ∧ (-4611686018427387904 ≤ j ∧ j < 4611686018427387904)) ∧ Q (rangeD i (j - i).toNat) s
  | _, _ => False
def kRn2 (x : D) (Q : List D → S → Prop) : VQ := fun y s => match x, y with
  | .int i, .int j => ((-4611686018427387904 ≤ i ∧ i < 4611686018427387904) ∧ (-4611686018427387904 ≤ j ∧ j < 4611686018427387904)) ∧ Q (rangeD i (j - i).toNat) s
  | _, _ => False
def kZ1 (b : ME) (Q : List D → S → Prop) : VQ := fun x s => (evE c b τ s).W fun y s => wSome (s.walkS x) s fun xs s => wSome (s.walkS y) s fun ys s => isTupD x = isTupD y ∧ Q (zipD xs ys) s
def kZ2 (x : D) (Q : List D → S → Prop) : VQ := fun y s => wSome (s.walkS x) s fun xs s => wSome (s.walkS y) s fun ys s => isTupD x = isTupD y ∧ Q (zipD xs ys) s
def kZw2 (x y : D) (Q : List D → S → Prop) : List D → S → Prop := fun xs s => wSome (s.walkS y) s fun ys s => isTupD x = isTupD y ∧ Q (zipD xs ys) s
def kZw3 (x y : D) (xs : List D) (Q : List D → S → Prop) : List D → S → Prop := fun ys s => isTupD x = isTupD y ∧ Q (zipD xs ys) s
def kY1 (b e : ME) (Q : List D → S → Prop) : VQ := fun x s => (evE c b τ s).W fun y s => (evE c e τ s).W fun z s => wSome (s.walkS x) s fun xs s => wSome (s.walkS y) s fun ys s => wSome (s.walkS z) s fun zs s => Q (zipD3 xs ys zs) s
def kY2 (e : ME) (x : D) (Q : List D → S → Prop) : VQ := fun y s => (evE c e τ s).W fun z s => wSome (s.walkS x) s fun xs s => wSome (s.walkS y) s fun ys s => wSome (s.walkS z) s fun zs s => Q (zipD3 xs ys zs) s
def kY3 (x y : D) (Q : List D → S → Prop) : VQ := fun z s => wSome (s.walkS x) s fun xs s => wSome (s.walkS y) s fun ys s => wSome (s.walkS z) s fun zs s => Q (zipD3 xs ys zs) s
def kY4 (y z : D) (Q : List D → S → Prop) : List D → S → Prop := fun xs s => wSome (s.walkS y) s fun ys s => wSome (s.walkS z) s fun zs s => Q (zipD3 xs ys zs) s
def kY5 (xs : List D) (z : D) (Q : List D → S → Prop) : List D → S → Prop := fun ys s => wSome (s.walkS z) s fun zs s => Q (zipD3 xs ys zs) s
def kY6 (xs ys : List D) (Q : List D → S → Prop) : List D → S → Prop := fun zs s => Q (zipD3 xs ys zs) s
def kEnu (Q : List D → S → Prop) : VQ := fun d s => wSome (s.walkS d) s fun ds s => Q (enumD 0 ds) s
def kEnu2 (Q : List D → S → Prop) : List D → S → Prop := fun ds s => Q (enumD 0 ds) s
def kGs (r : MGs) (ds : List D) (N : TQ) : TQ := fun τ s => (evGs c r ds τ s).W N
def kSub1 (b : ME) (d : D) (N : TQ) : VQ := fun x s => (evE c b τ s).W fun y s => wSome (setIx x y d s) s fun t _ => N τ t
def kSub2 (x d : D) (N : TQ) : VQ := fun y s => wSome (setIx x y d s) s fun t _ => N τ t
def kSub3 (N : TQ) : S → S → Prop := fun t _ => N τ t
def kNx (N : TQ) : VQ := fun d s => N τ s
end
theorem fits_le {ds : List D} : (fits ds = true) = (ds.length ≤ 16777216) := by
  unfold fits
  rw [decide_eq_true_eq, PySem.sizeLine_eq]
theorem small_le {j : Int} : (small j = true) = (-4611686018427387904 ≤ j ∧ j < 4611686018427387904) := by
  simp [small]
end Mi
set_option Elab.async false
set_option linter.all false
set_option maxRecDepth 100000
set_option maxHeartbeats 400000
/-! W2: the rules for each form. -/
namespace Mi
open PySem PySem.W
open Mi.En (enc)
section
variable {c : Cc} {τ : Tau} {s : S} {Q : VQ} {N K B : TQ} {R : VQ}
theorem w_ok {α : Type} {a : α} {s : S} {Q : α → S → Prop} : (Res.ok a s).W Q = Q a s := rfl
-- statements
theorem s_nil : (evSs c .nil τ s).W N R K B = N τ s := by rw [evSs]; rfl
theorem s_cons {a : MS} {r : MSs} : (evSs c (.cons a r) τ s).W N R K B = (evS c a τ s).W (kSs c r N R K B) R K B := by rw [evSs, W_next]; rfl
theorem k_ss {r : MSs} : kSs c r N R K B τ s = (evSs c r τ s).W N R K B := rfl
theorem s_set {i : Nat} {e : ME} : (evS c (.set i e) τ s).W N R K B = (evE c e τ s).W (kSet τ i N) := by rw [evS, W_of]; rfl
theorem k_set {i : Nat} {d : D} : kSet τ i N d s = N (τ.set i (some d)) s := rfl
theorem s_asg {g : MG} {e : ME} : (evS c (.asg g e) τ s).W N R K B = (evE c e τ s).W (kAsg c τ g N) := by rw [evS, W_of]; congr 1; funext d s1; rw [W_of]; rfl
theorem k_asg {g : MG} {d : D} : kAsg c τ g N d s = (evG c g d τ s).W N := rfl
theorem s_par2 {i j : Nat} {a b : ME} : (evS c (.par2 i j a b) τ s).W N R K B = (evE c a τ s).W (kP2a c τ i j b N) := by rw [evS, W_of]; congr 1; funext x s1; rw [W_of]; rfl
theorem k_p2a {i j : Nat} {b : ME} {x : D} : kP2a c τ i j b N x s = (evE c b τ s).W (kP2b τ i j x N) := rfl
theorem k_p2b {i j : Nat} {x y : D} : kP2b τ i j x N y s = N ((τ.set i (some x)).set j (some y)) s := rfl
theorem s_par3 {i j k : Nat} {a b e : ME} : (evS c (.par3 i j k a b e) τ s).W N R K B = (evE c a τ s).W (kP3a c τ i j k b e N) := by rw [evS, W_of]; congr 1; funext x s1; rw [W_of]; unfold kP3a; congr 1; funext y s2; rw [W_of]; rfl
theorem k_p3a {i j k : Nat} {b e : ME} {x : D} : kP3a c τ i j k b e N x s = (evE c b τ s).W (kP3b c τ i j k e x N) := rfl
theorem k_p3b {i j k : Nat} {e : ME} {x y : D} : kP3b c τ i j k e x N y s = (evE c e τ s).W (kP3c τ i j k x y N) := rfl
theorem k_p3c {i j k : Nat} {x y z : D} : kP3c τ i j k x y N z s = N (((τ.set i (some x)).set j (some y)).set k (some z)) s := rfl
theorem aug_at {i : Nat} {o : Bo} {e : ME} {n : Int} (h : τ[i]? = some (some (.int n))) : (evS c (.aug i o e) τ s).W N R K B = (evE c e τ s).W (kAug τ o n i N) := by
  rw [evS, h]
  show (Fl.of _ τ _).W N R K B = _
  rw [W_of]
  congr 1
  funext d s1
  show (augF o n i τ d s1).W N R K B = (augF o n i τ d s1).W N noR noT noT
  cases o <;> cases d <;> rfl
theorem k_aug1 {i : Nat} {n m : Int} : kAug τ .add n i N (.int m) s = N (τ.set i (some (.int (n + m)))) s := rfl
theorem k_aug2 {i : Nat} {n m : Int} : kAug τ .sub n i N (.int m) s = N (τ.set i (some (.int (n - m)))) s := rfl
theorem s_ex {e : ME} : (evS c (.ex e) τ s).W N R K B = (evE c e τ s).W (kEx τ N) := by rw [evS, W_of]; rfl
theorem k_ex {d : D} : kEx τ N d s = N τ s := rfl
theorem s_ret {e : ME} : (evS c (.ret e) τ s).W N R K B = (evE c e τ s).W R := by rw [evS, W_of]; rfl
theorem s_ifs {t : ME} {a b : MSs} : (evS c (.ifs t a b) τ s).W N R K B = (evE c t τ s).W (kIf c τ a b N R K B) := by
  rw [evS, W_of]
  congr 1
  funext d s1
  cases d with
  | bl p => cases p <;> rfl
  | _ => rfl
theorem k_if {a b : MSs} {p : Bool} : kIf c τ a b N R K B (.bl p) s = brS c τ p a b s N R K B := rfl
theorem br_st {a b : MSs} : brS c τ true a b s N R K B = (evSs c a τ s).W N R K B := rfl
theorem br_sf {a b : MSs} : brS c τ false a b s N R K B = (evSs c b τ s).W N R K B := rfl
theorem loopF_W {g : D → Tau → S → Res Tau} {b : Tau → S → Fl} : ∀ {ds : List D} {τ : Tau} {s : S}, (loopF g b ds τ s).W N R K B = (loopF g b ds τ s).W N R noT noT
  | [], τ, s => rfl
  | d :: ds, τ, s => by
    rw [loopF]
    cases g d τ s with
    | ok τ1 s1 =>
      show Fl.W (match b τ1 s1 with | .nx τ2 s2 => loopF g b ds τ2 s2 | .ct τ2 s2 => loopF g b ds τ2 s2 | .bk τ2 s2 => .nx τ2 s2 | .rt d s2 => .rt d s2 | .exc x τ2 s2 => .exc x τ2 s2 | .stuck => .stuck) N R K B = Fl.W (match b τ1 s1 with | .nx τ2 s2 => loopF g b ds τ2 s2 | .ct τ2 s2 => loopF g b ds τ2 s2 | .bk τ2 s2 => .nx τ2 s2 | .rt d s2 => .rt d s2 | .exc x τ2 s2 => .exc x τ2 s2 | .stuck => .stuck) N R noT noT
      cases b τ1 s1 with
      | nx τ2 s2 => exact loopF_W
      | ct τ2 s2 => exact loopF_W
      | _ => rfl
    | _ => rfl
theorem loopW_W {t : Tau → S → Res D} {b : Tau → S → Fl} : ∀ {k : Nat} {τ : Tau} {s : S}, (loopW t b k τ s).W N R K B = (loopW t b k τ s).W N R noT noT
  | 0, τ, s => rfl
  | k + 1, τ, s => by
    rw [loopW]
    cases t τ s with
    | ok d s1 =>
      cases d with
      | bl p =>
        cases p with
        | true =>
          show Fl.W (match b τ s1 with | .nx τ2 s2 => loopW t b k τ2 s2 | .ct τ2 s2 => loopW t b k τ2 s2 | .bk τ2 s2 => .nx τ2 s2 | .rt d s2 => .rt d s2 | .exc x τ2 s2 => .exc x τ2 s2 | .stuck => .stuck) N R K B = Fl.W (match b τ s1 with | .nx τ2 s2 => loopW t b k τ2 s2 | .ct τ2 s2 => loopW t b k τ2 s2 | .bk τ2 s2 => .nx τ2 s2 | .rt d s2 => .rt d s2 | .exc x τ2 s2 => .exc x τ2 s2 | .stuck => .stuck) N R noT noT
          cases b τ s1 with
          | nx τ2 s2 => exact loopW_W
          | ct τ2 s2 => exact loopW_W
          | _ => rfl
        | false => rfl
      | _ => rfl
    | _ => rfl
theorem s_fors {g : MG} {i : MI} {b : MSs} : (evS c (.fors g i b) τ s).W N R K B = (evI c i τ s).W (kFor c τ g b N R) := by
  rw [evS, W_of]
  congr 1
  funext ds s1
  exact loopF_W
theorem k_for {g : MG} {b : MSs} {ds : List D} : kFor c τ g b N R ds s = (loopF (evG c g) (evSs c b) ds τ s).W N R noT noT := rfl
theorem s_whl {t : ME} {b : MSs} : (evS c (.whl t b) τ s).W N R K B = wWhl c τ t b s N R := by rw [evS]; exact loopW_W
theorem s_brk : (evS c .brk τ s).W N R K B = B τ s := by rw [evS]; rfl
theorem s_cnt : (evS c .cnt τ s).W N R K B = K τ s := by rw [evS]; rfl
theorem s_pas : (evS c .pas τ s).W N R K B = N τ s := by rw [evS]; rfl
def kGf (τ : Tau) (i : Nat) (N : TQ) : VQ := fun d s => N (τ.set i (some d)) s
theorem gf_at {i : Nat} {d : D} (h : τ[i]? = some (some d)) : (evS c (.gfrz i) τ s).W N R K B = (evFrz d s).W (kGf τ i N) := by
  rw [evS, h]
  show Fl.W (match evFrz d s with | .ok d1 s1 => .nx (τ.set i (some d1)) s1 | _ => .stuck) N R K B = _
  cases evFrz d s <;> rfl
theorem k_gf {i : Nat} {d : D} : kGf τ i N d s = N (τ.set i (some d)) s := rfl
-- values
theorem slot_at {i : Nat} {d : D} (h : τ[i]? = some (some d)) : (evE c (.slot i) τ s).W Q = Q d s := by rw [evE, h]; rfl
theorem e_cst {d : D} : (evE c (.cst d) τ s).W Q = Q d s := by rw [evE]; rfl
theorem e_frz {e : ME} : (evE c (.frz e) τ s).W Q = (evE c e τ s).W (kFrz Q) := by rw [evE, W_bind]; rfl
theorem k_frz {d : D} : kFrz Q d s = (evFrz d s).W Q := rfl
theorem e_bin {o : Bo} {a b : ME} : (evE c (.bin o a b) τ s).W Q = (evE c a τ s).W (kBin1 c τ o b Q) := by rw [evE, W_bind]; congr 1; funext x s1; rw [W_bind]; rfl
theorem k_bin1 {o : Bo} {b : ME} {x : D} : kBin1 c τ o b Q x s = (evE c b τ s).W (kBin2 o x Q) := rfl
theorem k_bin2 {o : Bo} {x y : D} : kBin2 o x Q y s = (evBin o x y s).W Q := rfl
theorem e_cmp {o : Co} {a b : ME} : (evE c (.cmp o a b) τ s).W Q = (evE c a τ s).W (kCmp1 c τ o b Q) := by rw [evE, W_bind]; congr 1; funext x s1; rw [W_bind]; rfl
theorem k_cmp1 {o : Co} {b : ME} {x : D} : kCmp1 c τ o b Q x s = (evE c b τ s).W (kCmp2 o x Q) := rfl
theorem k_cmp2 {o : Co} {x y : D} : kCmp2 o x Q y s = (evCmp o x y s).W Q := rfl
theorem e_chain {o p : Co} {a b e : ME} : (evE c (.chain o p a b e) τ s).W Q = (evE c a τ s).W (kCh1 c τ o p b e Q) := by
  rw [evE, W_bind]; congr 1; funext x s1; rw [W_bind]; unfold kCh1; congr 1; funext y s2; rw [W_bind]; congr 1; funext r s3
  cases r with
  | bl q => cases q with
    | true => simp only; rw [W_bind]
    | false => rfl
  | _ => rfl
theorem k_ch1 {o p : Co} {b e : ME} {x : D} : kCh1 c τ o p b e Q x s = (evE c b τ s).W (kCh2 c τ o p e x Q) := rfl
theorem k_ch2 {o p : Co} {e : ME} {x y : D} : kCh2 c τ o p e x Q y s = (evCmp o x y s).W (kCh3 c τ p e y Q) := by
  unfold kCh2
  congr 1
  funext r s1
  cases r with
  | bl q => cases q <;> rfl
  | _ => rfl
theorem k_ch3 {q : Bool} {p : Co} {e : ME} {y : D} : kCh3 c τ p e y Q (.bl q) s = brCh c τ q p e y s Q := rfl
theorem br_cht {p : Co} {e : ME} {y : D} : brCh c τ true p e y s Q = (evE c e τ s).W (kCmp2 p y Q) := rfl
theorem br_chf {p : Co} {e : ME} {y : D} : brCh c τ false p e y s Q = Q (.bl false) s := rfl
theorem e_neg {a : ME} : (evE c (.neg a) τ s).W Q = (evE c a τ s).W (kNeg Q) := by
  rw [evE, W_bind]; congr 1; funext d s1; cases d <;> rfl
theorem k_neg {i : Int} : kNeg Q (.int i) s = Q (.int (-i)) s := rfl
theorem e_no {a : ME} : (evE c (.no a) τ s).W Q = (evE c a τ s).W (kNo Q) := by
  rw [evE, W_bind]; congr 1; funext d s1; cases d <;> rfl
theorem k_no {b : Bool} : kNo Q (.bl b) s = Q (.bl (!b)) s := rfl
theorem kBl_eq {r : Res D} : (r.bind fun y s2 => match y with | .bl r => .ok (.bl r) s2 | _ => .stuck).W Q = r.W (kBl Q) := by
  rw [W_bind]; congr 1; funext d s1; cases d <;> rfl
theorem e_and {a b : ME} : (evE c (.and a b) τ s).W Q = (evE c a τ s).W (kAnd c τ b Q) := by
  rw [evE, W_bind]; congr 1; funext d s1
  cases d with
  | bl p => cases p with
    | true => exact kBl_eq
    | false => rfl
  | _ => rfl
theorem k_and {b : ME} {p : Bool} : kAnd c τ b Q (.bl p) s = brAnd c τ p b s Q := rfl
theorem br_andt {b : ME} : brAnd c τ true b s Q = (evE c b τ s).W (kBl Q) := rfl
theorem br_andf {b : ME} : brAnd c τ false b s Q = Q (.bl false) s := rfl
theorem k_bl {p : Bool} : kBl Q (.bl p) s = Q (.bl p) s := rfl
theorem e_or {a b : ME} : (evE c (.or a b) τ s).W Q = (evE c a τ s).W (kOr c τ b Q) := by
  rw [evE, W_bind]; congr 1; funext d s1
  cases d with
  | bl p => cases p with
    | true => rfl
    | false => exact kBl_eq
  | _ => rfl
theorem k_or {b : ME} {p : Bool} : kOr c τ b Q (.bl p) s = brOr c τ p b s Q := rfl
theorem br_ort {b : ME} : brOr c τ true b s Q = Q (.bl true) s := rfl
theorem br_orf {b : ME} : brOr c τ false b s Q = (evE c b τ s).W (kBl Q) := rfl
theorem e_ife {t a b : ME} : (evE c (.ife t a b) τ s).W Q = (evE c t τ s).W (kIfe c τ a b Q) := by
  rw [evE, W_bind]; congr 1; funext d s1
  cases d with
  | bl p => cases p <;> rfl
  | _ => rfl
theorem k_ife {a b : ME} {p : Bool} : kIfe c τ a b Q (.bl p) s = brE c τ p a b s Q := rfl
theorem br_et {a b : ME} : brE c τ true a b s Q = (evE c a τ s).W Q := rfl
theorem br_ef {a b : ME} : brE c τ false a b s Q = (evE c b τ s).W Q := rfl
theorem W_fits {α : Type} {ds : List D} {r : Res α} {Q : α → S → Prop} : (if fits ds = true then r else .stuck).W Q = (ds.length ≤ 16777216 ∧ r.W Q) := by
  by_cases h : fits ds = true
  · rw [if_pos h]
    rw [fits_le] at h
    simp only [h, true_and]
  · rw [if_neg h]
    rw [fits_le] at h
    simp only [h, false_and]
    rfl
theorem e_tup {es : MEs} : (evE c (.tup es) τ s).W Q = (evEs c es τ s).W (kTup Q) := by
  rw [evE, W_bind]; congr 1; funext ds s1; exact W_fits
theorem k_tup {ds : List D} : kTup Q ds s = (ds.length ≤ 16777216 ∧ Q (.tup ds) s) := rfl
theorem e_lst {es : MEs} : (evE c (.lst es) τ s).W Q = (evEs c es τ s).W (kLst Q) := by
  rw [evE, W_bind]; congr 1; funext ds s1; exact W_fits
theorem k_lst {ds : List D} : kLst Q ds s = (ds.length ≤ 16777216 ∧ Q (.lst ds) s) := rfl
theorem e_cell {es : MEs} : (evE c (.cell es) τ s).W Q = (evEs c es τ s).W (kCell Q) := by
  rw [evE, W_bind]; congr 1; funext ds s1; exact W_fits
theorem k_cell {ds : List D} : kCell Q ds s = (ds.length ≤ 16777216 ∧ Q (.ref s.nx) (s.add (.lst false ds))) := rfl
theorem e_dic0 : (evE c .dic0 τ s).W Q = Q (.ref s.nx) (s.add (.dic false [] [])) := by rw [evE]; rfl
theorem e_ix {a b : ME} : (evE c (.ix a b) τ s).W Q = (evE c a τ s).W (kIx1 c τ b Q) := by rw [evE, W_bind]; congr 1; funext x s1; rw [W_bind]; rfl
theorem k_ix1 {b : ME} {x : D} : kIx1 c τ b Q x s = (evE c b τ s).W (kIx2 x Q) := rfl
theorem k_ix2 {x y : D} : kIx2 x Q y s = (evIx x y s).W Q := rfl
theorem e_sl {a : ME} {lo hi : MO} : (evE c (.sl a lo hi) τ s).W Q = (evE c a τ s).W (kSl1 c τ lo hi Q) := by
  rw [evE, W_bind]; congr 1; funext x s1; rw [W_bind]; unfold kSl1; congr 1; funext l s2; rw [W_bind]
theorem k_sl1 {lo hi : MO} {x : D} : kSl1 c τ lo hi Q x s = (evO c lo τ s).W (kSl2 c τ hi x Q) := rfl
theorem k_sl2 {hi : MO} {x : D} {l : Option Int} : kSl2 c τ hi x Q l s = (evO c hi τ s).W (kSl3 x l Q) := rfl
theorem k_sl3 {x : D} {l h : Option Int} : kSl3 x l Q h s = (evSl x l h s).W Q := rfl
theorem e_rev {a : ME} : (evE c (.rev a) τ s).W Q = (evE c a τ s).W (kRev Q) := by rw [evE, W_bind]; rfl
theorem k_rev {d : D} : kRev Q d s = (evRev d s).W Q := rfl
theorem e_isi {a : ME} {ts : List Ty} : (evE c (.isi a ts) τ s).W Q = (evE c a τ s).W (kIsi ts Q) := by
  rw [evE, W_bind]; congr 1; funext x s1
  show Res.W (match s1.tyOf x with | some t => _ | none => _) Q = wIsi (s1.tyOf x) ts s1 Q
  cases s1.tyOf x <;> rfl
theorem k_isi {ts : List Ty} {x : D} : kIsi ts Q x s = wIsi (s.tyOf x) ts s Q := rfl
theorem w_isi {t : Ty} {ts : List Ty} : wIsi (some t) ts s Q = Q (.bl (ts.any fun u => t.isa u)) s := rfl
theorem e_call {f : Nat} {es : MEs} : (evE c (.call f es) τ s).W Q = (evEs c es τ s).W (kCall c f Q) := by rw [evE, W_bind]; rfl
theorem k_call {f : Nat} {ds : List D} {tab : Nat → Option Fd} {wf n : Nat} : kCall (cc tab wf n) f Q ds s = (callN tab wf n f ds s).W Q := rfl
theorem e_callK {f : Nat} {es : MEs} {perm : List Nat} : (evE c (.callK f es perm) τ s).W Q = (evEs c es τ s).W (kCallK c (lenMEs es) f perm Q) := by
  rw [evE, W_bind]; congr 1; funext ds s1
  unfold kCallK
  by_cases h : ds.length = lenMEs es
  · simp only [h, if_true, true_and]
    cases permD ds perm <;> rfl
  · simp only [h, if_false, false_and]
    rfl
theorem k_callK {n f : Nat} {perm : List Nat} {ds : List D} : kCallK c n f perm Q ds s = (ds.length = n ∧ wPerm c f (permD ds perm) s Q) := rfl
theorem w_perm {tab : Nat → Option Fd} {wf n f : Nat} {as : List D} : wPerm (cc tab wf n) f (some as) s Q = (callN tab wf n f as s).W Q := rfl
theorem lcall_at {tab : Nat → Option Fd} {wf n : Nat} {i f : Nat} {es : MEs} (h : τ[i]? = some (some (.fn f))) : (evE (cc tab wf n) (.lcall i es) τ s).W Q = ((tab f).isSome = true ∧ (evEs (cc tab wf n) es τ s).W (kCall (cc tab wf n) f Q)) := by
  rw [evE, h]
  show Res.W (if (tab f).isSome = true then _ else _) Q = _
  by_cases k : (tab f).isSome = true
  · rw [if_pos k, W_bind]
    simp only [k, true_and]
    rfl
  · rw [if_neg k]
    simp only [k, false_and, Bool.false_eq_true]
    rfl
theorem e_bi {b : Bi} {es : MEs} : (evE c (.bi b es) τ s).W Q = (evEs c es τ s).W (kBi b Q) := by rw [evE, W_bind]; rfl
theorem k_bi {b : Bi} {ds : List D} : kBi b Q ds s = (evBi b ds s).W Q := rfl
theorem e_mt {m : Mt} {a : ME} {es : MEs} : (evE c (.mt m a es) τ s).W Q = (evE c a τ s).W (kMt1 c τ m es Q) := by
  rw [evE, W_bind]; congr 1; funext x s1
  unfold kMt1
  by_cases h : (s1.items x).isSome = true
  · rw [if_pos h, W_bind]
    simp only [h, true_and]
  · rw [if_neg h]
    simp only [h, false_and, Bool.false_eq_true]
    rfl
theorem k_mt1 {m : Mt} {es : MEs} {x : D} : kMt1 c τ m es Q x s = ((s.items x).isSome = true ∧ (evEs c es τ s).W (kMt2 m x Q)) := rfl
theorem k_mt2 {m : Mt} {x : D} {ds : List D} : kMt2 m x Q ds s = (evMt m x ds s).W Q := rfl
theorem e_comp {mu : Bool} {g : MG} {i : MI} {t : MO} {e : ME} {own : List Nat} : (evE c (.comp mu g i t e own) τ s).W Q = (evI c i τ s).W (kComp c τ mu g t e own Q) := by
  rw [evE, W_bind]; congr 1; funext ds s1
  rw [W_fits]
  unfold kComp
  congr 1
  show Res.W (match loopC (tnC c g t e (wipeT τ own)) ds s1 with | .ok r s2 => if mu then .ok (.ref s2.nx) (s2.add (.lst false r)) else .ok (.lst r) s2 | _ => .stuck) Q = _
  cases loopC (tnC c g t e (wipeT τ own)) ds s1 with
  | ok r s2 => cases mu <;> rfl
  | _ => rfl
theorem k_comp {mu : Bool} {g : MG} {t : MO} {e : ME} {own : List Nat} {ds : List D} : kComp c τ mu g t e own Q ds s = (ds.length ≤ 16777216 ∧ (loopC (tnC c g t e (wipeT τ own)) ds s).W (kCompEnd mu Q)) := rfl
theorem k_compT {r : List D} : kCompEnd true Q r s = Q (.ref s.nx) (s.add (.lst false r)) := rfl
theorem k_compF {r : List D} : kCompEnd false Q r s = Q (.lst r) s := rfl
theorem e_dcomp {mu : Bool} {g : MG} {i : MI} {t : MO} {k v : ME} {own : List Nat} : (evE c (.dcomp mu g i t k v own) τ s).W Q = (evI c i τ s).W (kDcomp c τ mu g t k v own Q) := by
  rw [evE, W_bind]; congr 1; funext ds s1
  rw [W_fits]
  unfold kDcomp
  congr 1
  show Res.W (match loopK (tnD c g t k v (wipeT τ own)) ds [] [] s1 with | .ok (ks, vs) s2 => if mu then .ok (.ref s2.nx) (s2.add (.dic false ks vs)) else .ok (.dic ks vs) s2 | _ => .stuck) Q = _
  cases loopK (tnD c g t k v (wipeT τ own)) ds [] [] s1 with
  | ok r s2 => cases mu <;> rfl
  | _ => rfl
theorem k_dcomp {mu : Bool} {g : MG} {t : MO} {k v : ME} {own : List Nat} {ds : List D} : kDcomp c τ mu g t k v own Q ds s = (ds.length ≤ 16777216 ∧ (loopK (tnD c g t k v (wipeT τ own)) ds [] [] s).W (kDEnd mu Q)) := rfl
theorem k_dend {r : List D × List D} : kDEnd false Q r s = Q (.dic r.1 r.2) s := rfl
theorem k_dendT {r : List D × List D} : kDEnd true Q r s = Q (.ref s.nx) (s.add (.dic false r.1 r.2)) := rfl
theorem t_turn {g : MG} {t : MO} {e : ME} {d : D} {P : Option D → S → Prop} : (tnC c g t e τ d s).W P = (evG c g d τ s).W (kTC1 c t e P) := by
  unfold tnC
  rw [W_bind]; congr 1; funext τ1 s1; rw [W_bind]; unfold kTC1; congr 1; funext b s2
  cases b with
  | true => simp only [if_true]; rw [W_bind]; rfl
  | false => rfl
theorem k_tc1 {t : MO} {e : ME} {P : Option D → S → Prop} : kTC1 c t e P τ s = (evT c t τ s).W (kTC2 c τ e P) := by
  unfold kTC1
  congr 1
theorem k_tc2 {e : ME} {b : Bool} {P : Option D → S → Prop} : kTC2 c τ e P b s = brT c τ b e s P := rfl
theorem br_tt {e : ME} {P : Option D → S → Prop} : brT c τ true e s P = (evE c e τ s).W (kSome P) := rfl
theorem br_tf {e : ME} {P : Option D → S → Prop} : brT c τ false e s P = P none s := rfl
theorem k_some {d : D} {P : Option D → S → Prop} : kSome P d s = P (some d) s := rfl
theorem t_turnK {g : MG} {t : MO} {k v : ME} {d : D} {P : Option (D × D) → S → Prop} : (tnD c g t k v τ d s).W P = (evG c g d τ s).W (kTK1 c t k v P) := by
  unfold tnD
  rw [W_bind]; congr 1; funext τ1 s1; rw [W_bind]; unfold kTK1; congr 1; funext b s2
  cases b with
  | true => simp only [if_true]; rw [W_bind]; congr 1; funext x s3; rw [W_bind]; rfl
  | false => rfl
theorem k_tk1 {t : MO} {k v : ME} {P : Option (D × D) → S → Prop} : kTK1 c t k v P τ s = (evT c t τ s).W (kTK0 c τ k v P) := by
  unfold kTK1
  congr 1
theorem k_tk0 {k v : ME} {b : Bool} {P : Option (D × D) → S → Prop} : kTK0 c τ k v P b s = brK c τ b k v s P := rfl
theorem br_kt {k v : ME} {P : Option (D × D) → S → Prop} : brK c τ true k v s P = (evE c k τ s).W (kTK2 c τ v P) := rfl
theorem br_kf {k v : ME} {P : Option (D × D) → S → Prop} : brK c τ false k v s P = P none s := rfl
theorem k_tk2 {v : ME} {x : D} {P : Option (D × D) → S → Prop} : kTK2 c τ v P x s = (evE c v τ s).W (kTK3 x P) := rfl
theorem k_tk3 {x y : D} {P : Option (D × D) → S → Prop} : kTK3 x P y s = P (some (x, y)) s := rfl
theorem es_nil {P : List D → S → Prop} : (evEs c .nil τ s).W P = P [] s := by rw [evEs]; rfl
theorem es_cons {e : ME} {r : MEs} {P : List D → S → Prop} : (evEs c (.cons e r) τ s).W P = (evE c e τ s).W (kEs c τ r P) := by
  rw [evEs, W_bind]; congr 1; funext d s1; rw [W_bind]; rfl
theorem k_es {r : MEs} {d : D} {P : List D → S → Prop} : kEs c τ r P d s = (evEs c r τ s).W (kEc d P) := rfl
theorem k_ec {d : D} {ds : List D} {P : List D → S → Prop} : kEc d P ds s = P (d :: ds) s := rfl
theorem o_no {P : Option Int → S → Prop} : (evO c .no τ s).W P = P none s := by rw [evO]; rfl
theorem o_so {e : ME} {P : Option Int → S → Prop} : (evO c (.so e) τ s).W P = (evE c e τ s).W (kO P) := by
  rw [evO, W_bind]; congr 1; funext d s1; cases d <;> rfl
theorem k_o {i : Int} {P : Option Int → S → Prop} : kO P (.int i) s = P (some i) s := rfl
theorem t_no {P : Bool → S → Prop} : (evT c .no τ s).W P = P true s := by rw [evT]; rfl
theorem t_so {e : ME} {P : Bool → S → Prop} : (evT c (.so e) τ s).W P = (evE c e τ s).W (kT P) := by
  rw [evT, W_bind]; congr 1; funext d s1; cases d <;> rfl
theorem k_t {b : Bool} {P : Bool → S → Prop} : kT P (.bl b) s = P b s := rfl
theorem w_some {α : Type} {a : α} {P : α → S → Prop} : wSome (some a) s P = P a s := rfl
theorem W_opt {α β : Type} {o : Option α} {f : α → Res β} {P : β → S → Prop} : Res.W (match o with | some a => f a | none => .stuck) P = wSome o s fun a _ => (f a).W P := by cases o <;> rfl
variable {P : List D → S → Prop}
theorem i_it {e : ME} : (evI c (.it e) τ s).W P = (evE c e τ s).W (kIt P) := by
  rw [evI, W_bind]; congr 1; funext d s1
  show Res.W (match s1.walk d with | some ds => .ok ds s1 | none => .stuck) P = wSome (s1.walk d) s1 P
  cases s1.walk d <;> rfl
theorem k_it {d : D} : kIt P d s = wSome (s.walk d) s P := rfl
theorem i_rng {e : ME} : (evI c (.rng e) τ s).W P = (evE c e τ s).W (kRng P) := by
  rw [evI, W_bind]; congr 1; funext d s1
  cases d with
  | int j =>
    unfold kRng
    show Res.W (if small j = true then .ok (rangeD 0 j.toNat) s1 else .stuck) P = _
    by_cases h : small j = true
    · rw [if_pos h]
      rw [small_le] at h
      simp only [h, true_and]
      rfl
    · rw [if_neg h]
      rw [small_le] at h
      simp only [h, false_and]
      rfl
  | _ => rfl
theorem k_rng {j : Int} : kRng P (.int j) s = ((-4611686018427387904 ≤ j ∧ j < 4611686018427387904) ∧ P (rangeD 0 j.toNat) s) := rfl
theorem i_rng2 {a b : ME} : (evI c (.rng2 a b) τ s).W P = (evE c a τ s).W (kRn1 c τ b P) := by
  rw [evI, W_bind]; congr 1; funext x s1; rw [W_bind]; unfold kRn1; congr 1; funext y s2
  cases x with
  | int i =>
    cases y with
    | int j =>
      show Res.W (if (small i && small j) = true then .ok (rangeD i (j - i).toNat) s2 else .stuck) P = _
      by_cases h : (small i && small j) = true
      · rw [if_pos h]
        rw [Bool.and_eq_true, small_le, small_le] at h
        simp only [h, true_and]
        rfl
      · rw [if_neg h]
        rw [Bool.and_eq_true, small_le, small_le] at h
        simp only [h, false_and]
        rfl
    | _ => rfl
  | _ => rfl
theorem k_rn1 {b : ME} {x : D} : kRn1 c τ b P x s = (evE c b τ s).W (kRn2 x P) := rfl
theorem k_rn2 {i j : Int} : kRn2 (.int i) P (.int j) s = (((-4611686018427387904 ≤ i ∧ i < 4611686018427387904) ∧ (-4611686018427387904 ≤ j ∧ j < 4611686018427387904)) ∧ P (rangeD i (j - i).toNat) s) := rfl
theorem i_zip2 {a b : ME} : (evI c (.zip2 a b) τ s).W P = (evE c a τ s).W (kZ1 c τ b P) := by
  rw [evI, W_bind]; congr 1; funext x s1; rw [W_bind]; unfold kZ1; congr 1; funext y s2
  show Res.W (match s2.walkS x, s2.walkS y with | some xs, some ys => if (isTupD x == isTupD y) = true then .ok (zipD xs ys) s2 else .stuck | _, _ => .stuck) P = _
  cases s2.walkS x with
  | none => rfl
  | some xs =>
    show _ = wSome (s2.walkS y) s2 fun ys s => isTupD x = isTupD y ∧ P (zipD xs ys) s
    cases s2.walkS y with
    | none => rfl
    | some ys =>
      show Res.W (if (isTupD x == isTupD y) = true then .ok (zipD xs ys) s2 else .stuck) P = (isTupD x = isTupD y ∧ P (zipD xs ys) s2)
      by_cases h : isTupD x = isTupD y
      · rw [if_pos (beq_iff_eq.mpr h)]
        simp only [h, true_and]
        rfl
      · rw [if_neg (fun z => h (beq_iff_eq.mp z))]
        simp only [h, false_and]
        rfl
theorem k_z1 {b : ME} {x : D} : kZ1 c τ b P x s = (evE c b τ s).W (kZ2 x P) := rfl
theorem k_z2 {x y : D} : kZ2 x P y s = wSome (s.walkS x) s (kZw2 x y P) := rfl
theorem k_zw2 {x y : D} {xs : List D} : kZw2 x y P xs s = wSome (s.walkS y) s (kZw3 x y xs P) := rfl
theorem k_zw3 {x y : D} {xs ys : List D} : kZw3 x y xs P ys s = (isTupD x = isTupD y ∧ P (zipD xs ys) s) := rfl
theorem i_zip3 {a b e : ME} : (evI c (.zip3 a b e) τ s).W P = (evE c a τ s).W (kY1 c τ b e P) := by
  rw [evI, W_bind]; congr 1; funext x s1; rw [W_bind]; unfold kY1; congr 1; funext y s2; rw [W_bind]; congr 1; funext z s3
  show Res.W (match s3.walkS x, s3.walkS y, s3.walkS z with | some xs, some ys, some zs => .ok (zipD3 xs ys zs) s3 | _, _, _ => .stuck) P = _
  cases s3.walkS x with
  | none => rfl
  | some xs =>
    show _ = wSome (s3.walkS y) s3 fun ys s => wSome (s.walkS z) s fun zs s => P (zipD3 xs ys zs) s
    cases s3.walkS y with
    | none => rfl
    | some ys =>
      show _ = wSome (s3.walkS z) s3 fun zs s => P (zipD3 xs ys zs) s
      cases s3.walkS z <;> rfl
theorem k_y1 {b e : ME} {x : D} : kY1 c τ b e P x s = (evE c b τ s).W (kY2 c τ e x P) := rfl
theorem k_y2 {e : ME} {x y : D} : kY2 c τ e x P y s = (evE c e τ s).W (kY3 x y P) := rfl
theorem k_y3 {x y z : D} : kY3 x y P z s = wSome (s.walkS x) s (kY4 y z P) := rfl
theorem k_y4 {y z : D} {xs : List D} : kY4 y z P xs s = wSome (s.walkS y) s (kY5 xs z P) := rfl
theorem k_y5 {xs ys : List D} {z : D} : kY5 xs z P ys s = wSome (s.walkS z) s (kY6 xs ys P) := rfl
theorem k_y6 {xs ys zs : List D} : kY6 xs ys P zs s = P (zipD3 xs ys zs) s := rfl
theorem i_enu {e : ME} : (evI c (.enu e) τ s).W P = (evE c e τ s).W (kEnu P) := by
  rw [evI, W_bind]; congr 1; funext d s1
  show Res.W (match s1.walkS d with | some ds => .ok (enumD 0 ds) s1 | none => .stuck) P = wSome (s1.walkS d) s1 _
  cases s1.walkS d <;> rfl
theorem k_enu {d : D} : kEnu P d s = wSome (s.walkS d) s (kEnu2 P) := rfl
theorem k_enu2 {ds : List D} : kEnu2 P ds s = P (enumD 0 ds) s := rfl
-- targets
theorem g_nm {i : Nat} {d : D} : (evG c (.nm i) d τ s).W N = N (τ.set i (some d)) s := by rw [evG]; rfl
theorem g_tp {gs : MGs} {ds : List D} : (evG c (.tp gs) (.tup ds) τ s).W N = (evGs c gs ds τ s).W N := by rw [evG]
theorem gs_nil : (evGs c .nil [] τ s).W N = N τ s := by rw [evGs]; rfl
theorem gs_cons {g : MG} {r : MGs} {d : D} {ds : List D} : (evGs c (.cons g r) (d :: ds) τ s).W N = (evG c g d τ s).W (kGs c r ds N) := by
  rw [evGs]
  cases evG c g d τ s <;> rfl
theorem k_gs {r : MGs} {ds : List D} : kGs c r ds N τ s = (evGs c r ds τ s).W N := rfl
theorem g_sub {a b : ME} {d : D} : (evG c (.sub a b) d τ s).W N = (evE c a τ s).W (kSub1 c τ b d N) := by
  rw [evG]
  cases evE c a τ s with
  | ok x s1 =>
    show Res.W (match evE c b τ s1 with | .ok y s2 => (match setIx x y d s2 with | some s3 => .ok τ s3 | none => .stuck) | _ => .stuck) N = (evE c b τ s1).W fun y s => wSome (setIx x y d s) s fun t _ => N τ t
    cases evE c b τ s1 with
    | ok y s2 =>
      show Res.W (match setIx x y d s2 with | some s3 => .ok τ s3 | none => .stuck) N = wSome (setIx x y d s2) s2 fun t _ => N τ t
      cases setIx x y d s2 <;> rfl
    | _ => rfl
  | _ => rfl
theorem k_sub1 {b : ME} {d x : D} : kSub1 c τ b d N x s = (evE c b τ s).W (kSub2 τ x d N) := rfl
theorem k_sub2 {x y d : D} : kSub2 τ x d N y s = wSome (setIx x y d s) s (kSub3 τ N) := rfl
theorem k_sub3 {t : S} : kSub3 τ N t s = N τ t := rfl
end
end Mi
set_option Elab.async false
set_option linter.all false
set_option maxRecDepth 100000
set_option maxHeartbeats 400000
/-! W3: bundles of rules, operations on values, loops, calls. -/
namespace Mi
open PySem PySem.W
open Mi.En (enc)
section
variable {c : Cc} {τ : Tau} {s : S} {Q : VQ} {N K B : TQ} {R : VQ} {P : List D → S → Prop}
def wSlot (o : Option (Option D)) (s : S) (Q : VQ) : Prop := match o with
  | some (some d) => Q d s
  | _ => False
theorem e_slot {i : Nat} : (evE c (.slot i) τ s).W Q = wSlot τ[i]? s Q := by
  rw [evE]
  cases τ[i]? with
  | none => rfl
  | some o => cases o <;> rfl
theorem w_slot {d : D} : wSlot (some (some d)) s Q = Q d s := rfl
def wAug (c : Cc) (x : Option (Option D)) (i : Nat) (o : Bo) (e : ME) (τ : Tau) (s : S) (N : TQ) : Prop := match x with
  | some (some (.int n)) => (evE c e τ s).W (kAug τ o n i N)
  | _ => False
theorem s_aug {i : Nat} {o : Bo} {e : ME} : (evS c (.aug i o e) τ s).W N R K B = wAug c τ[i]? i o e τ s N := by
  cases h : τ[i]? with
  | none => rw [evS, h]; rfl
  | some x => cases x with
    | none => rw [evS, h]; rfl
    | some d => cases d with
      | int n => exact aug_at h
      | _ => rw [evS, h]; rfl
theorem w_aug {i : Nat} {o : Bo} {e : ME} {n : Int} : wAug c (some (some (.int n))) i o e τ s N = (evE c e τ s).W (kAug τ o n i N) := rfl
def wGf (x : Option (Option D)) (i : Nat) (τ : Tau) (s : S) (N : TQ) : Prop := match x with
  | some (some d) => (evFrz d s).W (kGf τ i N)
  | _ => False
theorem s_gf {i : Nat} : (evS c (.gfrz i) τ s).W N R K B = wGf τ[i]? i τ s N := by
  cases h : τ[i]? with
  | none => rw [evS, h]; rfl
  | some x => cases x with
    | none => rw [evS, h]; rfl
    | some d => exact gf_at h
theorem w_gf {i : Nat} {d : D} : wGf (some (some d)) i τ s N = (evFrz d s).W (kGf τ i N) := rfl
def wLc (tab : Nat → Option Fd) (wf n : Nat) (x : Option (Option D)) (es : MEs) (τ : Tau) (s : S) (Q : VQ) : Prop := match x with
  | some (some (.fn f)) => (tab f).isSome = true ∧ (evEs (cc tab wf n) es τ s).W (kCall (cc tab wf n) f Q)
  | _ => False
theorem e_lcall {tab : Nat → Option Fd} {wf n i : Nat} {es : MEs} : (evE (cc tab wf n) (.lcall i es) τ s).W Q = wLc tab wf n τ[i]? es τ s Q := by
  cases h : τ[i]? with
  | none => rw [evE, h]; rfl
  | some x => cases x with
    | none => rw [evE, h]; rfl
    | some d => cases d with
      | fn f => exact lcall_at h
      | _ => rw [evE, h]; rfl
theorem w_lcall {tab : Nat → Option Fd} {wf n f : Nat} {es : MEs} : wLc tab wf n (some (some (.fn f))) es τ s Q = ((tab f).isSome = true ∧ (evEs (cc tab wf n) es τ s).W (kCall (cc tab wf n) f Q)) := rfl
theorem wipe_nil : wipeT τ [] = τ := rfl
theorem wipe_cons {v : Nat} {vs : List Nat} : wipeT τ (v :: vs) = (wipeT τ vs).set v none := rfl
theorem start_eq {n : Nat} {as : List D} : startT n as = as.map some ++ List.replicate (n - as.length) none := rfl
end
/-- statements, values, sources, targets -/
theorem wS :
    (∀ {c τ s N R K B}, (evSs c .nil τ s).W N R K B = N τ s) ∧
    (∀ {c τ s N R K B a r}, (evSs c (.cons a r) τ s).W N R K B = (evS c a τ s).W (kSs c r N R K B) R K B) ∧
    (∀ {c τ s N R K B r}, kSs c r N R K B τ s = (evSs c r τ s).W N R K B) ∧
    (∀ {c τ s N R K B i e}, (evS c (.set i e) τ s).W N R K B = (evE c e τ s).W (kSet τ i N)) ∧
    (∀ {τ : Tau} {s : S} {N : TQ} {i : Nat} {d : D}, kSet τ i N d s = N (τ.set i (some d)) s) ∧
    (∀ {c τ s N R K B g e}, (evS c (.asg g e) τ s).W N R K B = (evE c e τ s).W (kAsg c τ g N)) ∧
    (∀ {c τ s N g d}, kAsg c τ g N d s = (evG c g d τ s).W N) ∧
    (∀ {c τ s N R K B i j a b}, (evS c (.par2 i j a b) τ s).W N R K B = (evE c a τ s).W (kP2a c τ i j b N)) ∧
    (∀ {c τ s N i j b x}, kP2a c τ i j b N x s = (evE c b τ s).W (kP2b τ i j x N)) ∧
    (∀ {τ : Tau} {s : S} {N : TQ} {i j : Nat} {x y : D}, kP2b τ i j x N y s = N ((τ.set i (some x)).set j (some y)) s) ∧
    (∀ {c τ s N R K B i j k a b e}, (evS c (.par3 i j k a b e) τ s).W N R K B = (evE c a τ s).W (kP3a c τ i j k b e N)) ∧
    (∀ {c τ s N i j k b e x}, kP3a c τ i j k b e N x s = (evE c b τ s).W (kP3b c τ i j k e x N)) ∧
    (∀ {c τ s N i j k e x y}, kP3b c τ i j k e x N y s = (evE c e τ s).W (kP3c τ i j k x y N)) ∧
    (∀ {τ : Tau} {s : S} {N : TQ} {i j k : Nat} {x y z : D}, kP3c τ i j k x y N z s = N (((τ.set i (some x)).set j (some y)).set k (some z)) s) ∧
    (∀ {c τ s N R K B i o e}, (evS c (.aug i o e) τ s).W N R K B = wAug c τ[i]? i o e τ s N) ∧
    (∀ {c τ s N i o e n}, wAug c (some (some (.int n))) i o e τ s N = (evE c e τ s).W (kAug τ o n i N)) ∧
    (∀ {τ : Tau} {s : S} {N : TQ} {i : Nat} {n m : Int}, kAug τ .add n i N (.int m) s = N (τ.set i (some (.int (n + m)))) s) ∧
    (∀ {τ : Tau} {s : S} {N : TQ} {i : Nat} {n m : Int}, kAug τ .sub n i N (.int m) s = N (τ.set i (some (.int (n - m)))) s) ∧
    (∀ {c τ s N R K B e}, (evS c (.ex e) τ s).W N R K B = (evE c e τ s).W (kEx τ N)) ∧
    (∀ {τ : Tau} {s : S} {N : TQ} {d : D}, kEx τ N d s = N τ s) ∧
    (∀ {c τ s N R K B e}, (evS c (.ret e) τ s).W N R K B = (evE c e τ s).W R) ∧
    (∀ {c τ s N R K B t a b}, (evS c (.ifs t a b) τ s).W N R K B = (evE c t τ s).W (kIf c τ a b N R K B)) ∧
    (∀ {c τ s N R K B a b p}, kIf c τ a b N R K B (.bl p) s = brS c τ p a b s N R K B) ∧
    (∀ {c τ s N R K B a b}, brS c τ true a b s N R K B = (evSs c a τ s).W N R K B) ∧
    (∀ {c τ s N R K B a b}, brS c τ false a b s N R K B = (evSs c b τ s).W N R K B) ∧
    (∀ {c τ s N R K B g i b}, (evS c (.fors g i b) τ s).W N R K B = (evI c i τ s).W (kFor c τ g b N R)) ∧
    (∀ {c τ s N R g b ds}, kFor c τ g b N R ds s = (loopF (evG c g) (evSs c b) ds τ s).W N R noT noT) ∧
    (∀ {c τ s N R K B t b}, (evS c (.whl t b) τ s).W N R K B = wWhl c τ t b s N R) ∧
    (∀ {c τ s N R K B}, (evS c .brk τ s).W N R K B = B τ s) ∧
    (∀ {c τ s N R K B}, (evS c .cnt τ s).W N R K B = K τ s) ∧
    (∀ {c τ s N R K B}, (evS c .pas τ s).W N R K B = N τ s) ∧
    (∀ {c τ s N R K B i}, (evS c (.gfrz i) τ s).W N R K B = wGf τ[i]? i τ s N) ∧
    (∀ {τ : Tau} {s : S} {N : TQ} {i : Nat} {d : D}, wGf (some (some d)) i τ s N = (evFrz d s).W (kGf τ i N)) ∧
    (∀ {τ : Tau} {s : S} {N : TQ} {i : Nat} {d : D}, kGf τ i N d s = N (τ.set i (some d)) s) :=
  ⟨s_nil, s_cons, k_ss, s_set, k_set, s_asg, k_asg, s_par2, k_p2a, k_p2b, s_par3, k_p3a, k_p3b, k_p3c, s_aug, w_aug, k_aug1, k_aug2, s_ex, k_ex, s_ret, s_ifs, k_if, br_st, br_sf, s_fors, k_for, s_whl, s_brk, s_cnt, s_pas, s_gf, w_gf, k_gf⟩
theorem wE :
    (∀ {α : Type} {a : α} {s : S} {Q : α → S → Prop}, (Res.ok a s).W Q = Q a s) ∧
    (∀ {c τ s Q i}, (evE c (.slot i) τ s).W Q = wSlot τ[i]? s Q) ∧
    (∀ {s : S} {Q : VQ} {d : D}, wSlot (some (some d)) s Q = Q d s) ∧
    (∀ {c τ s Q d}, (evE c (.cst d) τ s).W Q = Q d s) ∧
    (∀ {c τ s Q e}, (evE c (.frz e) τ s).W Q = (evE c e τ s).W (kFrz Q)) ∧
    (∀ {s : S} {Q : VQ} {d : D}, kFrz Q d s = (evFrz d s).W Q) ∧
    (∀ {c τ s Q o a b}, (evE c (.bin o a b) τ s).W Q = (evE c a τ s).W (kBin1 c τ o b Q)) ∧
    (∀ {c τ s Q o b x}, kBin1 c τ o b Q x s = (evE c b τ s).W (kBin2 o x Q)) ∧
    (∀ {s : S} {Q : VQ} {o : Bo} {x y : D}, kBin2 o x Q y s = (evBin o x y s).W Q) ∧
    (∀ {c τ s Q o a b}, (evE c (.cmp o a b) τ s).W Q = (evE c a τ s).W (kCmp1 c τ o b Q)) ∧
    (∀ {c τ s Q o b x}, kCmp1 c τ o b Q x s = (evE c b τ s).W (kCmp2 o x Q)) ∧
    (∀ {s : S} {Q : VQ} {o : Co} {x y : D}, kCmp2 o x Q y s = (evCmp o x y s).W Q) ∧
    (∀ {c τ s Q o p a b e}, (evE c (.chain o p a b e) τ s).W Q = (evE c a τ s).W (kCh1 c τ o p b e Q)) ∧
    (∀ {c τ s Q o p b e x}, kCh1 c τ o p b e Q x s = (evE c b τ s).W (kCh2 c τ o p e x Q)) ∧
    (∀ {c τ s Q o p e x y}, kCh2 c τ o p e x Q y s = (evCmp o x y s).W (kCh3 c τ p e y Q)) ∧
    (∀ {c τ s Q p e y q}, kCh3 c τ p e y Q (.bl q) s = brCh c τ q p e y s Q) ∧
    (∀ {c τ s Q p e y}, brCh c τ true p e y s Q = (evE c e τ s).W (kCmp2 p y Q)) ∧
    (∀ {c τ s Q p e y}, brCh c τ false p e y s Q = Q (.bl false) s) ∧
    (∀ {c τ s Q a}, (evE c (.neg a) τ s).W Q = (evE c a τ s).W (kNeg Q)) ∧
    (∀ {s : S} {Q : VQ} {i : Int}, kNeg Q (.int i) s = Q (.int (-i)) s) ∧
    (∀ {c τ s Q a}, (evE c (.no a) τ s).W Q = (evE c a τ s).W (kNo Q)) ∧
    (∀ {s : S} {Q : VQ} {b : Bool}, kNo Q (.bl b) s = Q (.bl (!b)) s) ∧
    (∀ {c τ s Q a b}, (evE c (.and a b) τ s).W Q = (evE c a τ s).W (kAnd c τ b Q)) ∧
    (∀ {c τ s Q b p}, kAnd c τ b Q (.bl p) s = brAnd c τ p b s Q) ∧
    (∀ {c τ s Q b}, brAnd c τ true b s Q = (evE c b τ s).W (kBl Q)) ∧
    (∀ {c τ s Q b}, brAnd c τ false b s Q = Q (.bl false) s) ∧
    (∀ {s : S} {Q : VQ} {p : Bool}, kBl Q (.bl p) s = Q (.bl p) s) ∧
    (∀ {c τ s Q a b}, (evE c (.or a b) τ s).W Q = (evE c a τ s).W (kOr c τ b Q)) ∧
    (∀ {c τ s Q b p}, kOr c τ b Q (.bl p) s = brOr c τ p b s Q) ∧
    (∀ {c τ s Q b}, brOr c τ true b s Q = Q (.bl true) s) ∧
    (∀ {c τ s Q b}, brOr c τ false b s Q = (evE c b τ s).W (kBl Q)) ∧
    (∀ {c τ s Q t a b}, (evE c (.ife t a b) τ s).W Q = (evE c t τ s).W (kIfe c τ a b Q)) ∧
    (∀ {c τ s Q a b p}, kIfe c τ a b Q (.bl p) s = brE c τ p a b s Q) ∧
    (∀ {c τ s Q a b}, brE c τ true a b s Q = (evE c a τ s).W Q) ∧
    (∀ {c τ s Q a b}, brE c τ false a b s Q = (evE c b τ s).W Q) ∧
    (∀ {c τ s Q es}, (evE c (.tup es) τ s).W Q = (evEs c es τ s).W (kTup Q)) ∧
    (∀ {s : S} {Q : VQ} {ds : List D}, kTup Q ds s = (ds.length ≤ 16777216 ∧ Q (.tup ds) s)) ∧
    (∀ {c τ s Q es}, (evE c (.lst es) τ s).W Q = (evEs c es τ s).W (kLst Q)) ∧
    (∀ {s : S} {Q : VQ} {ds : List D}, kLst Q ds s = (ds.length ≤ 16777216 ∧ Q (.lst ds) s)) ∧
    (∀ {c τ s Q es}, (evE c (.cell es) τ s).W Q = (evEs c es τ s).W (kCell Q)) ∧
    (∀ {s : S} {Q : VQ} {ds : List D}, kCell Q ds s = (ds.length ≤ 16777216 ∧ Q (.ref s.nx) (s.add (.lst false ds)))) ∧
    (∀ {c τ s Q}, (evE c .dic0 τ s).W Q = Q (.ref s.nx) (s.add (.dic false [] []))) ∧
    (∀ {c τ s Q a b}, (evE c (.ix a b) τ s).W Q = (evE c a τ s).W (kIx1 c τ b Q)) ∧
    (∀ {c τ s Q b x}, kIx1 c τ b Q x s = (evE c b τ s).W (kIx2 x Q)) ∧
    (∀ {s : S} {Q : VQ} {x y : D}, kIx2 x Q y s = (evIx x y s).W Q) ∧
    (∀ {c τ s Q a lo hi}, (evE c (.sl a lo hi) τ s).W Q = (evE c a τ s).W (kSl1 c τ lo hi Q)) ∧
    (∀ {c τ s Q lo hi x}, kSl1 c τ lo hi Q x s = (evO c lo τ s).W (kSl2 c τ hi x Q)) ∧
    (∀ {c τ s Q hi x l}, kSl2 c τ hi x Q l s = (evO c hi τ s).W (kSl3 x l Q)) ∧
    (∀ {s : S} {Q : VQ} {x : D} {l h : Option Int}, kSl3 x l Q h s = (evSl x l h s).W Q) ∧
    (∀ {c τ s Q a}, (evE c (.rev a) τ s).W Q = (evE c a τ s).W (kRev Q)) ∧
    (∀ {s : S} {Q : VQ} {d : D}, kRev Q d s = (evRev d s).W Q) :=
  ⟨w_ok, e_slot, w_slot, e_cst, e_frz, k_frz, e_bin, k_bin1, k_bin2, e_cmp, k_cmp1, k_cmp2, e_chain, k_ch1, k_ch2, k_ch3, br_cht, br_chf, e_neg, k_neg, e_no, k_no, e_and, k_and, br_andt, br_andf, k_bl, e_or, k_or, br_ort, br_orf, e_ife, k_ife, br_et, br_ef, e_tup, k_tup, e_lst, k_lst, e_cell, k_cell, e_dic0, e_ix, k_ix1, k_ix2, e_sl, k_sl1, k_sl2, k_sl3, e_rev, k_rev⟩
theorem wC :
    (∀ {c τ s Q a ts}, (evE c (.isi a ts) τ s).W Q = (evE c a τ s).W (kIsi ts Q)) ∧
    (∀ {s : S} {Q : VQ} {ts : List Ty} {x : D}, kIsi ts Q x s = wIsi (s.tyOf x) ts s Q) ∧
    (∀ {s : S} {Q : VQ} {ts : List Ty} {t : Ty}, wIsi (some t) ts s Q = Q (.bl (ts.any fun u => t.isa u)) s) ∧
    (∀ {c τ s Q f es}, (evE c (.call f es) τ s).W Q = (evEs c es τ s).W (kCall c f Q)) ∧
    (∀ {s : S} {Q : VQ} {f : Nat} {ds : List D} {tab : Nat → Option Fd} {wf n : Nat}, kCall (cc tab wf n) f Q ds s = (callN tab wf n f ds s).W Q) ∧
    (∀ {c τ s Q f es perm}, (evE c (.callK f es perm) τ s).W Q = (evEs c es τ s).W (kCallK c (lenMEs es) f perm Q)) ∧
    (∀ {s : S} {Q : VQ} {f : Nat} {as : List D} {tab : Nat → Option Fd} {wf n : Nat}, wPerm (cc tab wf n) f (some as) s Q = (callN tab wf n f as s).W Q) ∧
    (∀ {tab : Nat → Option Fd} {wf n i : Nat} {es : MEs} {τ s Q}, (evE (cc tab wf n) (.lcall i es) τ s).W Q = wLc tab wf n τ[i]? es τ s Q) ∧
    (∀ {tab : Nat → Option Fd} {wf n f : Nat} {es : MEs} {τ s Q}, wLc tab wf n (some (some (.fn f))) es τ s Q = ((tab f).isSome = true ∧ (evEs (cc tab wf n) es τ s).W (kCall (cc tab wf n) f Q))) ∧
    (∀ {c τ s Q b es}, (evE c (.bi b es) τ s).W Q = (evEs c es τ s).W (kBi b Q)) ∧
    (∀ {s : S} {Q : VQ} {b : Bi} {ds : List D}, kBi b Q ds s = (evBi b ds s).W Q) ∧
    (∀ {c τ s Q m a es}, (evE c (.mt m a es) τ s).W Q = (evE c a τ s).W (kMt1 c τ m es Q)) ∧
    (∀ {c τ s Q m es x}, kMt1 c τ m es Q x s = ((s.items x).isSome = true ∧ (evEs c es τ s).W (kMt2 m x Q))) ∧
    (∀ {s : S} {Q : VQ} {m : Mt} {x : D} {ds : List D}, kMt2 m x Q ds s = (evMt m x ds s).W Q) ∧
    (∀ {c τ s Q mu g i t e own}, (evE c (.comp mu g i t e own) τ s).W Q = (evI c i τ s).W (kComp c τ mu g t e own Q)) ∧
    (∀ {c τ s Q mu g t e own ds}, kComp c τ mu g t e own Q ds s = (ds.length ≤ 16777216 ∧ (loopC (tnC c g t e (wipeT τ own)) ds s).W (kCompEnd mu Q))) ∧
    (∀ {s : S} {Q : VQ} {r : List D}, kCompEnd true Q r s = Q (.ref s.nx) (s.add (.lst false r))) ∧
    (∀ {s : S} {Q : VQ} {r : List D}, kCompEnd false Q r s = Q (.lst r) s) ∧
    (∀ {c τ s Q mu g i t k v own}, (evE c (.dcomp mu g i t k v own) τ s).W Q = (evI c i τ s).W (kDcomp c τ mu g t k v own Q)) ∧
    (∀ {c τ s Q mu g t k v own ds}, kDcomp c τ mu g t k v own Q ds s = (ds.length ≤ 16777216 ∧ (loopK (tnD c g t k v (wipeT τ own)) ds [] [] s).W (kDEnd mu Q))) ∧
    (∀ {s : S} {Q : VQ} {r : List D × List D}, kDEnd false Q r s = Q (.dic r.1 r.2) s) ∧
    (∀ {s : S} {Q : VQ} {r : List D × List D}, kDEnd true Q r s = Q (.ref s.nx) (s.add (.dic false r.1 r.2))) ∧
    (∀ {c τ s g t e d} {P : Option D → S → Prop}, (tnC c g t e τ d s).W P = (evG c g d τ s).W (kTC1 c t e P)) ∧
    (∀ {c τ s t e} {P : Option D → S → Prop}, kTC1 c t e P τ s = (evT c t τ s).W (kTC2 c τ e P)) ∧
    (∀ {c τ s e b} {P : Option D → S → Prop}, kTC2 c τ e P b s = brT c τ b e s P) ∧
    (∀ {c τ s e} {P : Option D → S → Prop}, brT c τ true e s P = (evE c e τ s).W (kSome P)) ∧
    (∀ {c τ s e} {P : Option D → S → Prop}, brT c τ false e s P = P none s) ∧
    (∀ {s : S} {d : D} {P : Option D → S → Prop}, kSome P d s = P (some d) s) ∧
    (∀ {c τ s g t k v d} {P : Option (D × D) → S → Prop}, (tnD c g t k v τ d s).W P = (evG c g d τ s).W (kTK1 c t k v P)) ∧
    (∀ {c τ s t k v} {P : Option (D × D) → S → Prop}, kTK1 c t k v P τ s = (evT c t τ s).W (kTK0 c τ k v P)) ∧
    (∀ {c τ s k v b} {P : Option (D × D) → S → Prop}, kTK0 c τ k v P b s = brK c τ b k v s P) ∧
    (∀ {c τ s k v} {P : Option (D × D) → S → Prop}, brK c τ true k v s P = (evE c k τ s).W (kTK2 c τ v P)) ∧
    (∀ {c τ s k v} {P : Option (D × D) → S → Prop}, brK c τ false k v s P = P none s) ∧
    (∀ {c τ s v x} {P : Option (D × D) → S → Prop}, kTK2 c τ v P x s = (evE c v τ s).W (kTK3 x P)) ∧
    (∀ {s : S} {x y : D} {P : Option (D × D) → S → Prop}, kTK3 x P y s = P (some (x, y)) s) ∧
    (∀ {c τ s} {P : List D → S → Prop}, (evEs c .nil τ s).W P = P [] s) ∧
    (∀ {c τ s e r} {P : List D → S → Prop}, (evEs c (.cons e r) τ s).W P = (evE c e τ s).W (kEs c τ r P)) ∧
    (∀ {c τ s d r} {P : List D → S → Prop}, kEs c τ r P d s = (evEs c r τ s).W (kEc d P)) ∧
    (∀ {s : S} {d : D} {ds : List D} {P : List D → S → Prop}, kEc d P ds s = P (d :: ds) s) ∧
    (∀ {c τ s} {P : Option Int → S → Prop}, (evO c .no τ s).W P = P none s) ∧
    (∀ {c τ s e} {P : Option Int → S → Prop}, (evO c (.so e) τ s).W P = (evE c e τ s).W (kO P)) ∧
    (∀ {s : S} {i : Int} {P : Option Int → S → Prop}, kO P (.int i) s = P (some i) s) ∧
    (∀ {c τ s} {P : Bool → S → Prop}, (evT c .no τ s).W P = P true s) ∧
    (∀ {c τ s e} {P : Bool → S → Prop}, (evT c (.so e) τ s).W P = (evE c e τ s).W (kT P)) ∧
    (∀ {s : S} {b : Bool} {P : Bool → S → Prop}, kT P (.bl b) s = P b s) :=
  ⟨e_isi, k_isi, w_isi, e_call, k_call, e_callK, w_perm, e_lcall, w_lcall, e_bi, k_bi, e_mt, k_mt1, k_mt2, e_comp, k_comp, k_compT, k_compF, e_dcomp, k_dcomp, k_dend, k_dendT, t_turn, k_tc1, k_tc2, br_tt, br_tf, k_some, t_turnK, k_tk1, k_tk0, br_kt, br_kf, k_tk2, k_tk3, es_nil, es_cons, k_es, k_ec, o_no, o_so, k_o, t_no, t_so, k_t⟩
theorem wI :
    (∀ {α : Type} {a : α} {s : S} {P : α → S → Prop}, wSome (some a) s P = P a s) ∧
    (∀ {c τ s e} {P : List D → S → Prop}, (evI c (.it e) τ s).W P = (evE c e τ s).W (kIt P)) ∧
    (∀ {s : S} {d : D} {P : List D → S → Prop}, kIt P d s = wSome (s.walk d) s P) ∧
    (∀ {c τ s e} {P : List D → S → Prop}, (evI c (.rng e) τ s).W P = (evE c e τ s).W (kRng P)) ∧
    (∀ {s : S} {j : Int} {P : List D → S → Prop}, kRng P (.int j) s = ((-4611686018427387904 ≤ j ∧ j < 4611686018427387904) ∧ P (rangeD 0 j.toNat) s)) ∧
    (∀ {c τ s a b} {P : List D → S → Prop}, (evI c (.rng2 a b) τ s).W P = (evE c a τ s).W (kRn1 c τ b P)) ∧
    (∀ {c τ s b x} {P : List D → S → Prop}, kRn1 c τ b P x s = (evE c b τ s).W (kRn2 x P)) ∧
    (∀ {s : S} {i j : Int} {P : List D → S → Prop}, kRn2 (.int i) P (.int j) s = (((-4611686018427387904 ≤ i ∧ i < 4611686018427387904) ∧ (-4611686018427387904 ≤ j ∧ j < 4611686018427387904)) ∧ P (rangeD i (j - i).toNat) s)) ∧
    (∀ {c τ s a b} {P : List D → S → Prop}, (evI c (.zip2 a b) τ s).W P = (evE c a τ s).W (kZ1 c τ b P)) ∧
    (∀ {c τ s b x} {P : List D → S → Prop}, kZ1 c τ b P x s = (evE c b τ s).W (kZ2 x P)) ∧
    (∀ {s : S} {x y : D} {P : List D → S → Prop}, kZ2 x P y s = wSome (s.walkS x) s (kZw2 x y P)) ∧
    (∀ {s : S} {x y : D} {xs : List D} {P : List D → S → Prop}, kZw2 x y P xs s = wSome (s.walkS y) s (kZw3 x y xs P)) ∧
    (∀ {s : S} {x y : D} {xs ys : List D} {P : List D → S → Prop}, kZw3 x y xs P ys s = (isTupD x = isTupD y ∧ P (zipD xs ys) s)) ∧
    (∀ {c τ s a b e} {P : List D → S → Prop}, (evI c (.zip3 a b e) τ s).W P = (evE c a τ s).W (kY1 c τ b e P)) ∧
    (∀ {c τ s b e x} {P : List D → S → Prop}, kY1 c τ b e P x s = (evE c b τ s).W (kY2 c τ e x P)) ∧
    (∀ {c τ s e x y} {P : List D → S → Prop}, kY2 c τ e x P y s = (evE c e τ s).W (kY3 x y P)) ∧
    (∀ {s : S} {x y z : D} {P : List D → S → Prop}, kY3 x y P z s = wSome (s.walkS x) s (kY4 y z P)) ∧
    (∀ {s : S} {y z : D} {xs : List D} {P : List D → S → Prop}, kY4 y z P xs s = wSome (s.walkS y) s (kY5 xs z P)) ∧
    (∀ {s : S} {z : D} {xs ys : List D} {P : List D → S → Prop}, kY5 xs z P ys s = wSome (s.walkS z) s (kY6 xs ys P)) ∧
    (∀ {s : S} {xs ys zs : List D} {P : List D → S → Prop}, kY6 xs ys P zs s = P (zipD3 xs ys zs) s) ∧
    (∀ {c τ s e} {P : List D → S → Prop}, (evI c (.enu e) τ s).W P = (evE c e τ s).W (kEnu P)) ∧
    (∀ {s : S} {d : D} {P : List D → S → Prop}, kEnu P d s = wSome (s.walkS d) s (kEnu2 P)) ∧
    (∀ {s : S} {ds : List D} {P : List D → S → Prop}, kEnu2 P ds s = P (enumD 0 ds) s) ∧
    (∀ {c τ s N i d}, (evG c (.nm i) d τ s).W N = N (τ.set i (some d)) s) ∧
    (∀ {c τ s N gs ds}, (evG c (.tp gs) (.tup ds) τ s).W N = (evGs c gs ds τ s).W N) ∧
    (∀ {c τ s N}, (evGs c .nil [] τ s).W N = N τ s) ∧
    (∀ {c τ s N g r d ds}, (evGs c (.cons g r) (d :: ds) τ s).W N = (evG c g d τ s).W (kGs c r ds N)) ∧
    (∀ {c τ s N r ds}, kGs c r ds N τ s = (evGs c r ds τ s).W N) ∧
    (∀ {c τ s N a b d}, (evG c (.sub a b) d τ s).W N = (evE c a τ s).W (kSub1 c τ b d N)) ∧
    (∀ {c τ s N b d x}, kSub1 c τ b d N x s = (evE c b τ s).W (kSub2 τ x d N)) ∧
    (∀ {τ : Tau} {s : S} {N : TQ} {x y d : D}, kSub2 τ x d N y s = wSome (setIx x y d s) s (kSub3 τ N)) ∧
    (∀ {τ : Tau} {s t : S} {N : TQ}, kSub3 τ N t s = N τ t) ∧
    (∀ {τ : Tau}, wipeT τ [] = τ) ∧
    (∀ {τ : Tau} {v : Nat} {vs : List Nat}, wipeT τ (v :: vs) = (wipeT τ vs).set v none) :=
  ⟨w_some, i_it, k_it, i_rng, k_rng, i_rng2, k_rn1, k_rn2, i_zip2, k_z1, k_z2, k_zw2, k_zw3, i_zip3, k_y1, k_y2, k_y3, k_y4, k_y5, k_y6, i_enu, k_enu, k_enu2, g_nm, g_tp, gs_nil, gs_cons, k_gs, g_sub, k_sub1, k_sub2, k_sub3, wipe_nil, wipe_cons⟩
end Mi
set_option Elab.async false
set_option linter.all false
set_option maxRecDepth 100000
set_option maxHeartbeats 400000
/-! W4: operations on values. -/
namespace Mi
open PySem PySem.W
open Mi.En (enc)
section
variable {s : S} {Q : VQ}
/-- is it among them -/
def isin {α : Type} [DecidableEq α] (a : α) (xs : List α) : Bool := decide (a ∈ xs)
theorem isin_iff {α : Type} [DecidableEq α] {a : α} {xs : List α} : (isin a xs = true) = (a ∈ xs) := by simp [isin]
theorem isin_not {α : Type} [DecidableEq α] {a : α} {xs : List α} : (isin a xs = false) = (a ∉ xs) := by simp [isin]
theorem isin_neg {α : Type} [DecidableEq α] {a : α} {xs : List α} : ((!isin a xs) = true) = (a ∉ xs) := by simp [isin]
/-- types whose values lie few deep -/
class Sh (α : Type) [DecidableEq α] [En α] : Prop where
  d : Datum.depth α ≤ 40
class TupE (α : Type) [DecidableEq α] [En α] : Prop where
  t : ∀ a : α, ∃ xs, (enc a : D) = .tup xs
  i : ∀ a : α, isTup (Datum.toD a) = true
instance : Sh Int := ⟨by decide⟩
instance : Sh Bool := ⟨by decide⟩
def itemsC : Option Cl → Option (List D)
  | some (.lst _ ds) => some ds
  | _ => none
theorem items_ref {n : Nat} : s.items (.ref n) = itemsC (s.get n) := by
  show (match s.get n with | some (.lst _ ds) => some ds | _ => none) = _
  cases s.get n with
  | none => rfl
  | some c => cases c <;> rfl
theorem itemsC_lst {b : Bool} {ds : List D} : itemsC (some (.lst b ds)) = some ds := rfl
def walkC : Option Cl → Option (List D)
  | some (.lst true ds) => some ds
  | _ => none
theorem walk_ref {n : Nat} : s.walk (.ref n) = walkC (s.get n) := by
  show (match s.get n with | some (.lst true ds) => some ds | _ => none) = _
  cases s.get n with
  | none => rfl
  | some c => cases c with
    | lst b ds => cases b <;> rfl
    | dic => rfl
theorem walkS_ref {n : Nat} : s.walkS (.ref n) = walkC (s.get n) := by
  show (match s.get n with | some (.lst true ds) => some ds | _ => none) = _
  cases s.get n with
  | none => rfl
  | some c => cases c with
    | lst b ds => cases b <;> rfl
    | dic => rfl
theorem walkC_lst {ds : List D} : walkC (some (.lst true ds)) = some ds := rfl
def tyC : Option Cl → Option Ty
  | some (.lst _ _) => some .lst
  | some (.dic _ _ _) => some .dic
  | none => none
theorem ty_ref {n : Nat} : s.tyOf (.ref n) = tyC (s.get n) := by
  show (match s.get n with | some (.lst _ _) => some Ty.lst | some (.dic _ _ _) => some Ty.dic | none => none) = _
  cases s.get n with
  | none => rfl
  | some c => cases c <;> rfl
theorem tyC_lst {b : Bool} {ds : List D} : tyC (some (.lst b ds)) = some .lst := rfl
theorem tyC_dic {b : Bool} {ks vs : List D} : tyC (some (.dic b ks vs)) = some .dic := rfl
-- freezing
def wFz (o : Option Cl) (n : Nat) (s : S) (Q : VQ) : Prop := match o with
  | some (.lst _ ds) => Q (.lst ds) (s.put n (.lst true ds))
  | some (.dic _ ks vs) => Q (.dic ks vs) (s.put n (.dic true ks vs))
  | none => False
theorem f_ref {n : Nat} : (evFrz (.ref n) s).W Q = wFz (s.get n) n s Q := by
  show Res.W (match s.get n with | some (.lst _ ds) => .ok (.lst ds) (s.put n (.lst true ds)) | some (.dic _ ks vs) => .ok (.dic ks vs) (s.put n (.dic true ks vs)) | none => .stuck) Q = _
  cases s.get n with
  | none => rfl
  | some c => cases c <;> rfl
theorem f_lstc {n : Nat} {b : Bool} {ds : List D} : wFz (some (.lst b ds)) n s Q = Q (.lst ds) (s.put n (.lst true ds)) := rfl
theorem f_dicc {n : Nat} {b : Bool} {ks vs : List D} : wFz (some (.dic b ks vs)) n s Q = Q (.dic ks vs) (s.put n (.dic true ks vs)) := rfl
theorem f_lst {ds : List D} : (evFrz (.lst ds) s).W Q = Q (.lst ds) s := rfl
theorem f_tup {ds : List D} : (evFrz (.tup ds) s).W Q = Q (.tup ds) s := rfl
theorem f_dic {ks vs : List D} : (evFrz (.dic ks vs) s).W Q = Q (.dic ks vs) s := rfl
theorem f_int {i : Int} : (evFrz (.int i) s).W Q = Q (.int i) s := rfl
theorem f_non : (evFrz .non s).W Q = Q .non s := rfl
theorem f_bl {b : Bool} : (evFrz (.bl b) s).W Q = Q (.bl b) s := rfl
-- methods
def wAp (o : Option Cl) (n : Nat) (d : D) (s : S) (Q : VQ) : Prop := match o with
  | some (.lst false ds) => ds.length < 16777216 ∧ Q .non (s.put n (.lst false (ds ++ [d])))
  | _ => False
theorem W_if {α : Type} {p : Prop} [Decidable p] {r : Res α} {Q : α → S → Prop} : (if p then r else .stuck).W Q = (p ∧ r.W Q) := by
  by_cases h : p
  · rw [if_pos h]
    simp only [h, true_and]
  · rw [if_neg h]
    simp only [h, false_and]
    rfl
theorem m_app {n : Nat} {d : D} : (evMt .append (.ref n) [d] s).W Q = wAp (s.get n) n d s Q := by
  show Res.W (match s.get n with | some (.lst false ds) => if ds.length < sizeLine then .ok .non (s.put n (.lst false (ds ++ [d]))) else .stuck | _ => .stuck) Q = _
  cases s.get n with
  | none => rfl
  | some c => cases c with
    | lst b ds =>
      cases b with
      | true => rfl
      | false =>
        show Res.W (if ds.length < sizeLine then .ok .non (s.put n (.lst false (ds ++ [d]))) else .stuck) Q = _
        rw [W_if, PySem.sizeLine_eq]
        rfl
    | dic => rfl
theorem m_appc {n : Nat} {ds : List D} {d : D} : wAp (some (.lst false ds)) n d s Q = (ds.length < 16777216 ∧ Q .non (s.put n (.lst false (ds ++ [d])))) := rfl
def wEx (o : Option Cl) (y : Option (List D)) (n : Nat) (d : D) (s : S) (Q : VQ) : Prop := match o, y with
  | some (.lst false ds), some es => ((ds ++ es).length ≤ 16777216 ∧ notRef n d = true) ∧ Q .non (s.put n (.lst false (ds ++ es)))
  | _, _ => False
theorem m_ext {n : Nat} {y : D} : (evMt .extend (.ref n) [y] s).W Q = wEx (s.get n) (s.items y) n y s Q := by
  show Res.W (match s.get n, s.items y with | some (.lst false ds), some es => if (fits (ds ++ es) && notRef n y) = true then .ok .non (s.put n (.lst false (ds ++ es))) else .stuck | _, _ => .stuck) Q = _
  cases s.get n with
  | none => rfl
  | some c => cases c with
    | lst b ds =>
      cases b with
      | true => rfl
      | false => cases s.items y with
        | none => rfl
        | some es =>
          show Res.W (if (fits (ds ++ es) && notRef n y) = true then .ok .non (s.put n (.lst false (ds ++ es))) else .stuck) Q = (((ds ++ es).length ≤ 16777216 ∧ notRef n y = true) ∧ _)
          rw [W_if, Bool.and_eq_true, fits_le]
          rfl
    | dic => rfl
theorem m_extc {n : Nat} {ds es : List D} {y : D} : wEx (some (.lst false ds)) (some es) n y s Q = (((ds ++ es).length ≤ 16777216 ∧ notRef n y = true) ∧ Q .non (s.put n (.lst false (ds ++ es)))) := rfl
-- arithmetic
variable {i j : Int}
theorem b_add : (evBin .add (.int i) (.int j) s).W Q = Q (.int (i + j)) s := rfl
theorem b_sub : (evBin .sub (.int i) (.int j) s).W Q = Q (.int (i - j)) s := rfl
theorem b_mul : (evBin .mul (.int i) (.int j) s).W Q = (mulOk i j = true ∧ Q (.int (i * j)) s) := W_if
theorem b_fdiv : (evBin .fdiv (.int i) (.int j) s).W Q = ((0 < j ∧ j < 1073741824) ∧ Q (.int (i / j)) s) := W_if
theorem b_mod : (evBin .mod (.int i) (.int j) s).W Q = (0 < j ∧ Q (.int (i % j)) s) := W_if
theorem b_pow : (evBin .pow (.int i) (.int j) s).W Q = (((0 ≤ j ∧ j ≤ 1000) ∧ i.natAbs < 2 ^ 64) ∧ Q (.int (i ^ j.toNat)) s) := W_if
theorem b_tup {xs ys : List D} : (evBin .add (.tup xs) (.tup ys) s).W Q = ((xs ++ ys).length ≤ 16777216 ∧ Q (.tup (xs ++ ys)) s) := W_fits
theorem b_lst {xs ys : List D} : (evBin .add (.lst xs) (.lst ys) s).W Q = ((xs ++ ys).length ≤ 16777216 ∧ Q (.lst (xs ++ ys)) s) := W_fits
-- comparisons
theorem c_eqi : (evCmp .eq (.int i) (.int j) s).W Q = Q (.bl (decide (i = j))) s := by rw [show evCmp .eq (.int i) (.int j) s = _ from eq_en (α := Int) s i j]; rfl
theorem c_nei : (evCmp .ne (.int i) (.int j) s).W Q = Q (.bl (!decide (i = j))) s := by rw [show evCmp .ne (.int i) (.int j) s = _ from ne_en (α := Int) s i j]; rfl
theorem c_lti : (evCmp .lt (.int i) (.int j) s).W Q = Q (.bl (decide (i < j))) s := rfl
theorem c_lei : (evCmp .le (.int i) (.int j) s).W Q = Q (.bl (decide (i ≤ j))) s := rfl
theorem c_gti : (evCmp .gt (.int i) (.int j) s).W Q = Q (.bl (decide (j < i))) s := rfl
theorem c_gei : (evCmp .ge (.int i) (.int j) s).W Q = Q (.bl (decide (j ≤ i))) s := rfl
theorem c_is {d : D} : (evCmp .is d .non s).W Q = Q (.bl (isNon d)) s := rfl
theorem c_isnt {d : D} : (evCmp .isnt d .non s).W Q = Q (.bl (!isNon d)) s := rfl
section
variable {α : Type} [DecidableEq α] [En α] [Sh α] {a b : α} {xs : List α}
theorem c_eq : (evCmp .eq (enc a) (enc b) s).W Q = Q (.bl (decide (a = b))) s := by rw [eq_en s a b (Nat.le_trans (Sh.d (α := α)) (by decide))]; rfl
theorem c_ne : (evCmp .ne (enc a) (enc b) s).W Q = Q (.bl (!decide (a = b))) s := by rw [ne_en s a b (Nat.le_trans (Sh.d (α := α)) (by decide))]; rfl
theorem c_in : (evCmp .isin (enc a) (.lst (xs.map enc)) s).W Q = Q (.bl (isin a xs)) s := by rw [in_en s a xs (Nat.le_trans (Sh.d (α := α)) (by decide))]; rfl
theorem c_notin : (evCmp .notin (enc a) (.lst (xs.map enc)) s).W Q = Q (.bl (!isin a xs)) s := by rw [notin_en s a xs (Nat.le_trans (Sh.d (α := α)) (by decide))]; rfl
theorem c_inT : (evCmp .isin (enc a) (.tup (xs.map enc)) s).W Q = Q (.bl (isin a xs)) s := by rw [in_tup s a xs (Nat.le_trans (Sh.d (α := α)) (by decide))]; rfl
theorem c_notinT : (evCmp .notin (enc a) (.tup (xs.map enc)) s).W Q = Q (.bl (!isin a xs)) s := by rw [notin_tup s a xs (Nat.le_trans (Sh.d (α := α)) (by decide))]; rfl
theorem c_ini {i : Int} {xs : List Int} : (evCmp .isin (.int i) (.lst (xs.map enc)) s).W Q = Q (.bl (isin i xs)) s := c_in (a := i)
theorem c_notini {i : Int} {xs : List Int} : (evCmp .notin (.int i) (.lst (xs.map enc)) s).W Q = Q (.bl (!isin i xs)) s := c_notin (a := i)
theorem c_eqL {ys : List α} : (evCmp .eq (.lst (xs.map enc)) (.lst (ys.map enc)) s).W Q = Q (.bl (decide (xs = ys))) s := by
  rw [show evCmp .eq (.lst (xs.map enc)) (.lst (ys.map enc)) s = _ from eq_en (α := List α) s xs ys (Nat.le_trans (Nat.succ_le_succ (Sh.d (α := α))) (by decide))]; rfl
theorem c_neL {ys : List α} : (evCmp .ne (.lst (xs.map enc)) (.lst (ys.map enc)) s).W Q = Q (.bl (!decide (xs = ys))) s := by
  rw [show evCmp .ne (.lst (xs.map enc)) (.lst (ys.map enc)) s = _ from ne_en (α := List α) s xs ys (Nat.le_trans (Nat.succ_le_succ (Sh.d (α := α))) (by decide))]; rfl
theorem c_eqN : (evCmp .eq (.lst (xs.map enc)) (.lst []) s).W Q = Q (.bl xs.isEmpty) s := by
  show Res.W (match s.eqv (.lst (xs.map enc)) (.lst []) with | some r => .ok (.bl r) s | none => .stuck) Q = _
  rw [nil_en s xs (Nat.le_trans (Sh.d (α := α)) (by decide))]; rfl
theorem c_neN : (evCmp .ne (.lst (xs.map enc)) (.lst []) s).W Q = Q (.bl (!xs.isEmpty)) s := by
  show Res.W (match s.eqv (.lst (xs.map enc)) (.lst []) with | some r => .ok (.bl (!r)) s | none => .stuck) Q = _
  rw [nil_en s xs (Nat.le_trans (Sh.d (α := α)) (by decide))]; rfl
theorem c_lt [TupE α] : (evCmp .lt (enc a) (enc b) s).W Q = Q (.bl (DatumOrd.lt a b)) s := by rw [lt_en s a b (TupE.t a) (TupE.t b) (Nat.le_trans (Sh.d (α := α)) (by decide))]; rfl
theorem v_sorted [TupE α] : (evBi .sorted [.lst (xs.map enc)] s).W Q = Q (.lst ((xs.mergeSort leE).map enc)) s := by rw [sorted_en s xs TupE.i (Nat.le_trans (Sh.d (α := α)) (by decide))]; rfl
theorem v_sortK [TupE α] {vs : List D} : (evBi .sorted [.dic (xs.map enc) vs] s).W Q = Q (.lst ((xs.mergeSort leE).map enc)) s := by rw [sortedK_en s xs vs TupE.i (Nat.le_trans (Sh.d (α := α)) (by decide))]; rfl
end
theorem c_nestr {x : Str} (h : PyData.canLay0 (.str x) = true) : evCmp .ne (.str x) (.str x) s = .ok (.bl false) s := by
  have h1 : s.py (.str x) = some (.str x) := rfl
  have h2 : SeqAt.shaped (.str x) = true := by
    unfold SeqAt.shaped
    rw [h]
    rfl
  simp [evCmp, S.eqv, h1, h2, PyData.eqv]
-- subscripts
def wAt {α : Type} (o : Option α) (f : α → D) (s : S) (Q : VQ) : Prop := match o with
  | some d => Q (f d) s
  | none => False
theorem x_tup {ds : List D} : (evIx (.tup ds) (.int i) s).W Q = wAt (L2.atI ds i) id s Q := by
  show Res.W (match L2.atI ds i with | some d => .ok d s | none => .stuck) Q = _
  cases L2.atI ds i <;> rfl
theorem x_lst {ds : List D} : (evIx (.lst ds) (.int i) s).W Q = wAt (L2.atI ds i) id s Q := by
  show Res.W (match L2.atI ds i with | some d => .ok d s | none => .stuck) Q = _
  cases L2.atI ds i <;> rfl
theorem x_inp {ns : List Int} : (evIx (.inp ns) (.int i) s).W Q = wAt (L2.atI ns i) .int s Q := by
  show Res.W (match L2.atI ns i with | some d => .ok (.int d) s | none => .stuck) Q = _
  cases L2.atI ns i <;> rfl
theorem x_dic {ks vs : List D} {k : D} {q : NestedKey} (h : keyT k = some q) : (evIx (.dic ks vs) k s).W Q = wAt (dget q ks vs) id s Q := by
  show Res.W (match keyT k with | some q => (match dget q ks vs with | some d => .ok d s | none => .stuck) | none => .stuck) Q = _
  rw [h]
  show Res.W (match dget q ks vs with | some d => .ok d s | none => .stuck) Q = _
  cases dget q ks vs <;> rfl
def wIxc (o : Option Cl) (k : D) (s : S) (Q : VQ) : Prop := match o with
  | some (.lst _ ds) => (evIx (.lst ds) k s).W Q
  | some (.dic _ ks vs) => (evIx (.dic ks vs) k s).W Q
  | none => False
theorem x_ref {n : Nat} {k : D} : (evIx (.ref n) k s).W Q = wIxc (s.get n) k s Q := by
  cases h : s.get n with
  | none => cases k <;> simp only [evIx, h] <;> rfl
  | some c => cases c with
    | lst b ds => cases k <;> simp only [evIx, h] <;> rfl
    | dic b ks vs => cases k <;> simp only [evIx, h] <;> rfl
theorem x_reflst {b : Bool} {ds : List D} {k : D} : wIxc (some (.lst b ds)) k s Q = (evIx (.lst ds) k s).W Q := rfl
theorem x_refdic {b : Bool} {ks vs : List D} {k : D} : wIxc (some (.dic b ks vs)) k s Q = (evIx (.dic ks vs) k s).W Q := rfl
theorem w_at {α : Type} {d : α} {f : α → D} : wAt (some d) f s Q = Q (f d) s := rfl
theorem w_atid {d : D} : wAt (some d) id s Q = Q d s := rfl
theorem at_0 {α : Type} {a : α} {ds : List α} : L2.atI (a :: ds) 0 = some a := by
  simp [L2.atI, L2.ixN]
theorem at_nat {α : Type} {ds : List α} {k : Nat} : L2.atI ds (k : Int) = ds[k]? := by
  unfold L2.atI L2.ixN
  rw [if_pos (Int.natCast_nonneg k)]
  by_cases h : k < ds.length
  · rw [if_pos (by omega)]
    rfl
  · rw [if_neg (by omega)]
    simp at h
    simp [h]
theorem at_of {α : Type} {ds : List α} {i : Int} (h : 0 ≤ i) : L2.atI ds i = ds[i.toNat]? := by
  have : i = (i.toNat : Int) := by omega
  rw [this, at_nat]
  rfl
theorem at_1 {α : Type} {a b : α} {ds : List α} : L2.atI (a :: b :: ds) 1 = some b := at_nat (k := 1)
theorem at_2 {α : Type} {a b e : α} {ds : List α} : L2.atI (a :: b :: e :: ds) 2 = some e := at_nat (k := 2)
theorem at_3 {α : Type} {a b e f : α} {ds : List α} : L2.atI (a :: b :: e :: f :: ds) 3 = some f := at_nat (k := 3)
theorem at_4 {α : Type} {a b e f g : α} {ds : List α} : L2.atI (a :: b :: e :: f :: g :: ds) 4 = some g := at_nat (k := 4)
theorem at_5 {α : Type} {a b e f g h : α} {ds : List α} : L2.atI (a :: b :: e :: f :: g :: h :: ds) 5 = some h := at_nat (k := 5)
theorem at_last {α : Type} {ds : List α} {a : α} : L2.atI (ds ++ [a]) (-1) = some a := by
  unfold L2.atI L2.ixN
  rw [if_neg (by decide)]
  rw [if_pos (by simp; omega)]
  have e : (-1 + ((ds ++ [a]).length : Int)).toNat = ds.length := by
    rw [List.length_append]
    simp only [List.length_cons, List.length_nil]
    omega
  show (ds ++ [a])[_]? = _
  first
    | rw [e]; simp
    | (rw [Int.add_comm, e]; simp)
-- built-ins
theorem v_lent {ds : List D} : (evBi .len [.tup ds] s).W Q = Q (.int ds.length) s := rfl
theorem v_lenl {ds : List D} : (evBi .len [.lst ds] s).W Q = Q (.int ds.length) s := rfl
theorem v_leni {ns : List Int} : (evBi .len [.inp ns] s).W Q = Q (.int ns.length) s := rfl
theorem v_abs : (evBi .abs [.int i] s).W Q = Q (.int (if i < 0 then -i else i)) s := rfl
theorem v_int : (evBi .int [.int i] s).W Q = Q (.int i) s := rfl
theorem v_min2 : (evBi .min2 [.int i, .int j] s).W Q = Q (.int (if j < i then j else i)) s := rfl
theorem v_max2 : (evBi .max2 [.int i, .int j] s).W Q = Q (.int (if i < j then j else i)) s := rfl
theorem v_tuplel {ds : List D} : (evBi .tuple [.lst ds] s).W Q = Q (.tup ds) s := rfl
theorem v_tuplet {ds : List D} : (evBi .tuple [.tup ds] s).W Q = Q (.tup ds) s := rfl
theorem v_listt {ds : List D} : (evBi .list [.tup ds] s).W Q = Q (.lst ds) s := rfl
theorem v_listl {ds : List D} : (evBi .list [.lst ds] s).W Q = Q (.lst ds) s := rfl
theorem v_divmod : (evBi .divmod [.int i, .int j] s).W Q = ((0 < j ∧ j < 1073741824) ∧ Q (.tup [.int (i / j), .int (i % j)]) s) := W_if
def wOpt {α : Type} (o : Option α) (f : α → D) (s : S) (Q : VQ) : Prop := match o with
  | some a => Q (f a) s
  | none => False
theorem allInt_enc (ns : List Int) : allInt (ns.map enc) = some ns := by
  induction ns with
  | nil => rfl
  | cons n ns ih => rw [List.map_cons]; show (allInt (ns.map enc)).map (n :: ·) = _; rw [ih]; rfl
theorem v_minI {n : Int} {ns : List Int} : (evBi .min2 [.lst ((n :: ns).map enc)] s).W Q = Q (.int (ns.foldl min n)) s := by
  show Res.W (match allInt ((n :: ns).map enc) with | some (n :: ns) => .ok (.int (ns.foldl min n)) s | some [] => .stuck | none => _) Q = _
  rw [allInt_enc]
  rfl
theorem v_maxI {n : Int} {ns : List Int} : (evBi .max2 [.lst ((n :: ns).map enc)] s).W Q = Q (.int (ns.foldl max n)) s := by
  show Res.W (match allInt ((n :: ns).map enc) with | some (n :: ns) => .ok (.int (ns.foldl max n)) s | _ => .stuck) Q = _
  rw [allInt_enc]
  rfl
def wBls (o : Option (List Bool)) (f : List Bool → Bool) (s : S) (Q : VQ) : Prop := match o with
  | some bs => Q (.bl (f bs)) s
  | none => False
theorem v_all {d : D} : (evBi .all [d] s).W Q = wBls ((s.items d).bind allBl) (fun bs => bs.all id) s Q := by
  show Res.W (match (s.items d).bind allBl with | some bs => .ok (.bl (bs.all id)) s | none => .stuck) Q = _
  cases (s.items d).bind allBl <;> rfl
theorem v_any {d : D} : (evBi .any [d] s).W Q = wBls ((s.items d).bind allBl) (fun bs => bs.any id) s Q := by
  show Res.W (match (s.items d).bind allBl with | some bs => .ok (.bl (bs.any id)) s | none => .stuck) Q = _
  cases (s.items d).bind allBl <;> rfl
theorem allBl_map {α : Type} (h : α → Bool) : ∀ xs : List α, allBl (xs.map fun x => .bl (h x)) = some (xs.map h)
  | [] => rfl
  | x :: xs => by simp [allBl, allBl_map h xs]
theorem v_allm {α : Type} {xs : List α} {h : α → Bool} : (evBi .all [.lst (xs.map fun x => .bl (h x))] s).W Q = Q (.bl (xs.all h)) s := by
  rw [v_all]
  show wBls (allBl (xs.map fun x => .bl (h x))) _ s Q = _
  rw [allBl_map]
  show Q (.bl ((xs.map h).all id)) s = _
  rw [List.all_map]
  rfl
theorem v_anym {α : Type} {xs : List α} {h : α → Bool} : (evBi .any [.lst (xs.map fun x => .bl (h x))] s).W Q = Q (.bl (xs.any h)) s := by
  rw [v_any]
  show wBls (allBl (xs.map fun x => .bl (h x))) _ s Q = _
  rw [allBl_map]
  show Q (.bl ((xs.map h).any id)) s = _
  rw [List.any_map]
  rfl
theorem i_lst {ds : List D} : s.items (.lst ds) = some ds := rfl
theorem k_tupw {ds : List D} : s.walk (.tup ds) = some ds := rfl
theorem k_lstw {ds : List D} : s.walk (.lst ds) = some ds := rfl
theorem k_dicw {ks vs : List D} : s.walk (.dic ks vs) = some ks := rfl
theorem k_tups {ds : List D} : s.walkS (.tup ds) = some ds := rfl
theorem k_lsts {ds : List D} : s.walkS (.lst ds) = some ds := rfl
theorem y_int : s.tyOf (.int i) = some .int := rfl
theorem y_tup {ds : List D} : s.tyOf (.tup ds) = some .tup := rfl
theorem y_lst {ds : List D} : s.tyOf (.lst ds) = some .lst := rfl
theorem y_dic {ks vs : List D} : s.tyOf (.dic ks vs) = some .dic := rfl
theorem y_non : s.tyOf .non = some .non := rfl
theorem y_bl {b : Bool} : s.tyOf (.bl b) = some .bl := rfl
theorem y_str {x : Str} : s.tyOf (.str x) = some .str := rfl
theorem n_tt {ds es : List D} : (isTupD (.tup ds) = isTupD (.tup es)) = True := by simp [isTupD]
theorem n_ll {ds es : List D} : (isTupD (.lst ds) = isTupD (.lst es)) = True := by simp [isTupD]
theorem n_ref {n : Nat} {ds : List D} : (notRef n (.lst ds) = true) = True := by simp [notRef]
theorem non_non : isNon .non = true := rfl
theorem non_int : isNon (.int i) = false := rfl
theorem non_tup {ds : List D} : isNon (.tup ds) = false := rfl
theorem non_bl {b : Bool} : isNon (.bl b) = false := rfl
theorem non_str {x : Str} : isNon (.str x) = false := rfl
theorem non_lst {ds : List D} : isNon (.lst ds) = false := rfl
def wSl (o : Option (List D)) (lo hi : Option Int) (s : S) (Q : VQ) : Prop := match o with
  | some ds => Q (.lst (cutD ds lo hi)) s
  | none => False
theorem l_tup {ds : List D} {lo hi : Option Int} : (evSl (.tup ds) lo hi s).W Q = Q (.tup (cutD ds lo hi)) s := rfl
theorem l_lst {ds : List D} {lo hi : Option Int} : (evSl (.lst ds) lo hi s).W Q = Q (.lst (cutD ds lo hi)) s := rfl
theorem l_inp {ns : List Int} {lo hi : Option Int} : (evSl (.inp ns) lo hi s).W Q = Q (.lst (cutD (ns.map .int) lo hi)) s := rfl
theorem r_lst {ds : List D} : (evRev (.lst ds) s).W Q = Q (.lst ds.reverse) s := rfl
theorem cut_from0 {ds : List D} : cutD ds (some 0) none = ds := by
  simp [cutD, HT.sIx]
end
theorem get_add2 {s : S} {a b : Cl} : ((s.add a).add b).get s.nx = some a := by
  rw [get_add_ne (by simp)]
  exact get_add
theorem put_add2 {s : S} {a b c : Cl} : ((s.add a).add b).put s.nx c = (s.add c).add b := by
  rw [add_put_ne (by simp), add_put]
theorem get_add3 {s : S} {a b c : Cl} : (((s.add a).add b).add c).get s.nx = some a := by
  rw [get_add_ne (by simp; omega)]
  exact get_add2
theorem put_add3 {s : S} {a b c d : Cl} : (((s.add a).add b).add c).put s.nx d = ((s.add d).add b).add c := by
  rw [add_put_ne (by simp; omega), put_add2]
theorem get_nx1 {s : S} {a b : Cl} : ((s.add a).add b).get (s.nx + 1) = some b := get_add (s := s.add a)
theorem put_nx1 {s : S} {a b c : Cl} : ((s.add a).add b).put (s.nx + 1) c = (s.add a).add c := add_put (s := s.add a)
theorem get_nx12 {s : S} {a b c : Cl} : (((s.add a).add b).add c).get (s.nx + 1) = some b := get_add2 (s := s.add a)
theorem put_nx12 {s : S} {a b c d : Cl} : (((s.add a).add b).add c).put (s.nx + 1) d = ((s.add a).add d).add c := put_add2 (s := s.add a)
theorem len_nil : ((([] : List D).length : Nat) : Int) = 0 := rfl
theorem len_1 {a : D} : (([a].length : Nat) : Int) = 1 := rfl
theorem len_2 {a b : D} : (([a, b].length : Nat) : Int) = 2 := rfl
theorem len_3 {a b c : D} : (([a, b, c].length : Nat) : Int) = 3 := rfl
theorem len_4 {a b c d : D} : (([a, b, c, d].length : Nat) : Int) = 4 := rfl
theorem len_5 {a b c d e : D} : (([a, b, c, d, e].length : Nat) : Int) = 5 := rfl
theorem len_6 {a b c d e f : D} : (([a, b, c, d, e, f].length : Nat) : Int) = 6 := rfl
theorem le_1 {a : D} : ([a].length ≤ 16777216) = True := by simp
theorem le_2 {a b : D} : ([a, b].length ≤ 16777216) = True := by simp
theorem le_3 {a b c : D} : ([a, b, c].length ≤ 16777216) = True := by simp
theorem le_4 {a b c d : D} : ([a, b, c, d].length ≤ 16777216) = True := by simp
theorem le_5 {a b c d e : D} : ([a, b, c, d, e].length ≤ 16777216) = True := by simp
theorem le_6 {a b c d e f : D} : ([a, b, c, d, e, f].length ≤ 16777216) = True := by simp
theorem le_0 : (([] : List D).length ≤ 16777216) = True := by simp
theorem si_some {α : Type} {a : α} : ((some a).isSome = true) = True := by simp
theorem e_int {i : Int} : (enc i : D) = .int i := rfl
theorem e_bl {b : Bool} : (enc b : D) = .bl b := rfl
theorem range_up {n : Nat} {lo : Int} : rangeD lo n = (rangeD lo n) := rfl
/-- operations -/
theorem wV :
    (∀ {α : Type} {a : α} {l : List α}, (a :: l)[0]? = some a) ∧ (∀ {α : Type} {a : α} {l : List α} {i : Nat}, (a :: l)[i + 1]? = l[i]?) ∧
    (∀ {α : Type} {a b : α} {l : List α}, (a :: l).set 0 b = b :: l) ∧ (∀ {α : Type} {a b : α} {l : List α} {i : Nat}, (a :: l).set (i + 1) b = a :: l.set i b) ∧
    (∀ {s : S} {n : Nat}, s.items (.ref n) = itemsC (s.get n)) ∧ (∀ {b : Bool} {ds : List D}, itemsC (some (.lst b ds)) = some ds) ∧
    (∀ {s : S} {n : Nat}, s.walk (.ref n) = walkC (s.get n)) ∧ (∀ {s : S} {n : Nat}, s.walkS (.ref n) = walkC (s.get n)) ∧ (∀ {ds : List D}, walkC (some (.lst true ds)) = some ds) ∧
    (∀ {s : S} {n : Nat}, s.tyOf (.ref n) = tyC (s.get n)) ∧ (∀ {b : Bool} {ds : List D}, tyC (some (.lst b ds)) = some .lst) ∧ (∀ {b : Bool} {ks vs : List D}, tyC (some (.dic b ks vs)) = some .dic) ∧
    (∀ {s Q} {n : Nat}, (evFrz (.ref n) s).W Q = wFz (s.get n) n s Q) ∧ (∀ {s Q} {n : Nat} {b : Bool} {ds : List D}, wFz (some (.lst b ds)) n s Q = Q (.lst ds) (s.put n (.lst true ds))) ∧ (∀ {s Q} {n : Nat} {b : Bool} {ks vs : List D}, wFz (some (.dic b ks vs)) n s Q = Q (.dic ks vs) (s.put n (.dic true ks vs))) ∧
    (∀ {s Q} {ds : List D}, (evFrz (.lst ds) s).W Q = Q (.lst ds) s) ∧ (∀ {s Q} {ds : List D}, (evFrz (.tup ds) s).W Q = Q (.tup ds) s) ∧ (∀ {s Q} {ks vs : List D}, (evFrz (.dic ks vs) s).W Q = Q (.dic ks vs) s) ∧ (∀ {s Q} {i : Int}, (evFrz (.int i) s).W Q = Q (.int i) s) ∧ (∀ {s Q}, (evFrz .non s).W Q = Q .non s) ∧ (∀ {s Q} {b : Bool}, (evFrz (.bl b) s).W Q = Q (.bl b) s) ∧
    (∀ {s Q} {n : Nat} {d : D}, (evMt .append (.ref n) [d] s).W Q = wAp (s.get n) n d s Q) ∧ (∀ {s Q} {n : Nat} {ds : List D} {d : D}, wAp (some (.lst false ds)) n d s Q = (ds.length < 16777216 ∧ Q .non (s.put n (.lst false (ds ++ [d]))))) ∧
    (∀ {s Q} {n : Nat} {y : D}, (evMt .extend (.ref n) [y] s).W Q = wEx (s.get n) (s.items y) n y s Q) ∧ (∀ {s Q} {n : Nat} {ds es : List D} {y : D}, wEx (some (.lst false ds)) (some es) n y s Q = (((ds ++ es).length ≤ 16777216 ∧ notRef n y = true) ∧ Q .non (s.put n (.lst false (ds ++ es))))) ∧
    (∀ {s Q i j}, (evBin .add (.int i) (.int j) s).W Q = Q (.int (i + j)) s) ∧ (∀ {s Q i j}, (evBin .sub (.int i) (.int j) s).W Q = Q (.int (i - j)) s) ∧ (∀ {s Q i j}, (evBin .mul (.int i) (.int j) s).W Q = (mulOk i j = true ∧ Q (.int (i * j)) s)) ∧
    (∀ {s Q i j}, (evBin .fdiv (.int i) (.int j) s).W Q = ((0 < j ∧ j < 1073741824) ∧ Q (.int (i / j)) s)) ∧ (∀ {s Q i j}, (evBin .mod (.int i) (.int j) s).W Q = (0 < j ∧ Q (.int (i % j)) s)) ∧ (∀ {s Q i j}, (evBin .pow (.int i) (.int j) s).W Q = (((0 ≤ j ∧ j ≤ 1000) ∧ i.natAbs < 2 ^ 64) ∧ Q (.int (i ^ j.toNat)) s)) ∧
    (∀ {s Q} {xs ys : List D}, (evBin .add (.tup xs) (.tup ys) s).W Q = ((xs ++ ys).length ≤ 16777216 ∧ Q (.tup (xs ++ ys)) s)) ∧ (∀ {s Q} {xs ys : List D}, (evBin .add (.lst xs) (.lst ys) s).W Q = ((xs ++ ys).length ≤ 16777216 ∧ Q (.lst (xs ++ ys)) s)) ∧
    (∀ {s Q i j}, (evCmp .eq (.int i) (.int j) s).W Q = Q (.bl (decide (i = j))) s) ∧ (∀ {s Q i j}, (evCmp .ne (.int i) (.int j) s).W Q = Q (.bl (!decide (i = j))) s) ∧ (∀ {s Q i j}, (evCmp .lt (.int i) (.int j) s).W Q = Q (.bl (decide (i < j))) s) ∧
    (∀ {s Q i j}, (evCmp .le (.int i) (.int j) s).W Q = Q (.bl (decide (i ≤ j))) s) ∧ (∀ {s Q i j}, (evCmp .gt (.int i) (.int j) s).W Q = Q (.bl (decide (j < i))) s) ∧ (∀ {s Q i j}, (evCmp .ge (.int i) (.int j) s).W Q = Q (.bl (decide (j ≤ i))) s) ∧
    (∀ {s Q d}, (evCmp .is d .non s).W Q = Q (.bl (isNon d)) s) ∧ (∀ {s Q d}, (evCmp .isnt d .non s).W Q = Q (.bl (!isNon d)) s) ∧
    (∀ {s Q} {α : Type} [DecidableEq α] [En α] [Sh α] {a b : α}, (evCmp .eq (enc a) (enc b) s).W Q = Q (.bl (decide (a = b))) s) ∧ (∀ {s Q} {α : Type} [DecidableEq α] [En α] [Sh α] {a b : α}, (evCmp .ne (enc a) (enc b) s).W Q = Q (.bl (!decide (a = b))) s) ∧
    (∀ {s Q} {α : Type} [DecidableEq α] [En α] [Sh α] {a : α} {xs : List α}, (evCmp .isin (enc a) (.lst (xs.map enc)) s).W Q = Q (.bl (isin a xs)) s) ∧ (∀ {s Q} {α : Type} [DecidableEq α] [En α] [Sh α] {a : α} {xs : List α}, (evCmp .notin (enc a) (.lst (xs.map enc)) s).W Q = Q (.bl (!isin a xs)) s) ∧
    (∀ {s Q} {i : Int} {xs : List Int}, (evCmp .isin (.int i) (.lst (xs.map enc)) s).W Q = Q (.bl (isin i xs)) s) ∧ (∀ {s Q} {i : Int} {xs : List Int}, (evCmp .notin (.int i) (.lst (xs.map enc)) s).W Q = Q (.bl (!isin i xs)) s) ∧
    (∀ {s Q} {α : Type} [DecidableEq α] [En α] [Sh α] {xs ys : List α}, (evCmp .eq (.lst (xs.map enc)) (.lst (ys.map enc)) s).W Q = Q (.bl (decide (xs = ys))) s) ∧ (∀ {s Q} {α : Type} [DecidableEq α] [En α] [Sh α] {xs ys : List α}, (evCmp .ne (.lst (xs.map enc)) (.lst (ys.map enc)) s).W Q = Q (.bl (!decide (xs = ys))) s) ∧
    (∀ {s Q} {α : Type} [DecidableEq α] [En α] [Sh α] {xs : List α}, (evCmp .eq (.lst (xs.map enc)) (.lst []) s).W Q = Q (.bl xs.isEmpty) s) ∧ (∀ {s Q} {α : Type} [DecidableEq α] [En α] [Sh α] {xs : List α}, (evCmp .ne (.lst (xs.map enc)) (.lst []) s).W Q = Q (.bl (!xs.isEmpty)) s) ∧
    (∀ {s Q} {α : Type} [DecidableEq α] [En α] [Sh α] [TupE α] {a b : α}, (evCmp .lt (enc a) (enc b) s).W Q = Q (.bl (DatumOrd.lt a b)) s) ∧ (∀ {s Q} {α : Type} [DecidableEq α] [En α] [Sh α] [TupE α] {xs : List α}, (evBi .sorted [.lst (xs.map enc)] s).W Q = Q (.lst ((xs.mergeSort leE).map enc)) s) ∧ (∀ {s Q} {α : Type} [DecidableEq α] [En α] [Sh α] [TupE α] {xs : List α} {vs : List D}, (evBi .sorted [.dic (xs.map enc) vs] s).W Q = Q (.lst ((xs.mergeSort leE).map enc)) s) :=
  ⟨rfl, rfl, rfl, rfl, items_ref, itemsC_lst, walk_ref, walkS_ref, walkC_lst, ty_ref, tyC_lst, tyC_dic, f_ref, f_lstc, f_dicc, f_lst, f_tup, f_dic, f_int, f_non, f_bl, m_app, m_appc, m_ext, m_extc, b_add, b_sub, b_mul, b_fdiv, b_mod, b_pow, b_tup, b_lst, c_eqi, c_nei, c_lti, c_lei, c_gti, c_gei, c_is, c_isnt, c_eq, c_ne, c_in, c_notin, c_ini, c_notini, c_eqL, c_neL, c_eqN, c_neN, c_lt, v_sorted, v_sortK⟩
theorem wX :
    (∀ {s Q i} {ds : List D}, (evIx (.tup ds) (.int i) s).W Q = wAt (L2.atI ds i) id s Q) ∧ (∀ {s Q i} {ds : List D}, (evIx (.lst ds) (.int i) s).W Q = wAt (L2.atI ds i) id s Q) ∧ (∀ {s Q i} {ns : List Int}, (evIx (.inp ns) (.int i) s).W Q = wAt (L2.atI ns i) .int s Q) ∧
    (∀ {s Q} {n : Nat} {k : D}, (evIx (.ref n) k s).W Q = wIxc (s.get n) k s Q) ∧ (∀ {s Q} {b : Bool} {ds : List D} {k : D}, wIxc (some (.lst b ds)) k s Q = (evIx (.lst ds) k s).W Q) ∧ (∀ {s Q} {b : Bool} {ks vs : List D} {k : D}, wIxc (some (.dic b ks vs)) k s Q = (evIx (.dic ks vs) k s).W Q) ∧
    (∀ {s Q} {d : D}, wAt (some d) id s Q = Q d s) ∧ (∀ {s Q} {i : Int}, wAt (some i) .int s Q = Q (.int i) s) ∧
    (∀ {α : Type} {a : α} {ds : List α}, L2.atI (a :: ds) 0 = some a) ∧ (∀ {α : Type} {a b : α} {ds : List α}, L2.atI (a :: b :: ds) 1 = some b) ∧ (∀ {α : Type} {a b e : α} {ds : List α}, L2.atI (a :: b :: e :: ds) 2 = some e) ∧ (∀ {α : Type} {a b e f : α} {ds : List α}, L2.atI (a :: b :: e :: f :: ds) 3 = some f) ∧ (∀ {α : Type} {a b e f g : α} {ds : List α}, L2.atI (a :: b :: e :: f :: g :: ds) 4 = some g) ∧ (∀ {α : Type} {a b e f g h : α} {ds : List α}, L2.atI (a :: b :: e :: f :: g :: h :: ds) 5 = some h) ∧ (∀ {α : Type} {ds : List α} {a : α}, L2.atI (ds ++ [a]) (-1) = some a) ∧
    (∀ {s Q} {ds : List D}, (evBi .len [.tup ds] s).W Q = Q (.int ds.length) s) ∧ (∀ {s Q} {ds : List D}, (evBi .len [.lst ds] s).W Q = Q (.int ds.length) s) ∧ (∀ {s Q} {ns : List Int}, (evBi .len [.inp ns] s).W Q = Q (.int ns.length) s) ∧
    (∀ {s Q i}, (evBi .abs [.int i] s).W Q = Q (.int (if i < 0 then -i else i)) s) ∧ (∀ {s Q i}, (evBi .int [.int i] s).W Q = Q (.int i) s) ∧ (∀ {s Q i j}, (evBi .min2 [.int i, .int j] s).W Q = Q (.int (if j < i then j else i)) s) ∧ (∀ {s Q i j}, (evBi .max2 [.int i, .int j] s).W Q = Q (.int (if i < j then j else i)) s) ∧
    (∀ {s Q} {ds : List D}, (evBi .tuple [.lst ds] s).W Q = Q (.tup ds) s) ∧ (∀ {s Q} {ds : List D}, (evBi .tuple [.tup ds] s).W Q = Q (.tup ds) s) ∧ (∀ {s Q} {ds : List D}, (evBi .list [.tup ds] s).W Q = Q (.lst ds) s) ∧ (∀ {s Q} {ds : List D}, (evBi .list [.lst ds] s).W Q = Q (.lst ds) s) ∧
    (∀ {s Q i j}, (evBi .divmod [.int i, .int j] s).W Q = ((0 < j ∧ j < 1073741824) ∧ Q (.tup [.int (i / j), .int (i % j)]) s)) ∧
    (∀ {s Q} {α : Type} {xs : List α} {h : α → Bool}, (evBi .all [.lst (xs.map fun x => .bl (h x))] s).W Q = Q (.bl (xs.all h)) s) ∧ (∀ {s Q} {α : Type} {xs : List α} {h : α → Bool}, (evBi .any [.lst (xs.map fun x => .bl (h x))] s).W Q = Q (.bl (xs.any h)) s) ∧
    (∀ {s : S} {ds : List D}, s.items (.lst ds) = some ds) ∧ (∀ {s : S} {ds : List D}, s.walk (.tup ds) = some ds) ∧ (∀ {s : S} {ds : List D}, s.walk (.lst ds) = some ds) ∧ (∀ {s : S} {ds : List D}, s.walkS (.tup ds) = some ds) ∧ (∀ {s : S} {ds : List D}, s.walkS (.lst ds) = some ds) ∧
    (∀ {s : S} {i : Int}, s.tyOf (.int i) = some .int) ∧ (∀ {s : S} {ds : List D}, s.tyOf (.tup ds) = some .tup) ∧ (∀ {s : S} {ds : List D}, s.tyOf (.lst ds) = some .lst) ∧ (∀ {s : S} {ks vs : List D}, s.tyOf (.dic ks vs) = some .dic) ∧ (∀ {s : S}, s.tyOf .non = some .non) ∧ (∀ {s : S} {b : Bool}, s.tyOf (.bl b) = some .bl) ∧ (∀ {s : S} {x : Str}, s.tyOf (.str x) = some .str) ∧
    (∀ {ds es : List D}, (isTupD (.tup ds) = isTupD (.tup es)) = True) ∧ (∀ {ds es : List D}, (isTupD (.lst ds) = isTupD (.lst es)) = True) ∧ (∀ {n : Nat} {ds : List D}, (notRef n (.lst ds) = true) = True) ∧
    (isNon .non = true) ∧ (∀ {i : Int}, isNon (.int i) = false) ∧ (∀ {ds : List D}, isNon (.tup ds) = false) ∧ (∀ {b : Bool}, isNon (.bl b) = false) ∧ (∀ {x : Str}, isNon (.str x) = false) ∧ (∀ {ds : List D}, isNon (.lst ds) = false) ∧
    (∀ {s Q} {ds : List D} {lo hi : Option Int}, (evSl (.tup ds) lo hi s).W Q = Q (.tup (cutD ds lo hi)) s) ∧ (∀ {s Q} {ds : List D} {lo hi : Option Int}, (evSl (.lst ds) lo hi s).W Q = Q (.lst (cutD ds lo hi)) s) ∧ (∀ {s Q} {ns : List Int} {lo hi : Option Int}, (evSl (.inp ns) lo hi s).W Q = Q (.lst (cutD (ns.map .int) lo hi)) s) ∧ (∀ {s Q} {ds : List D}, (evRev (.lst ds) s).W Q = Q (.lst ds.reverse) s) :=
  ⟨x_tup, x_lst, x_inp, x_ref, x_reflst, x_refdic, w_atid, rfl, at_0, at_1, at_2, at_3, at_4, at_5, at_last, v_lent, v_lenl, v_leni, v_abs, v_int, v_min2, v_max2, v_tuplel, v_tuplet, v_listt, v_listl, v_divmod, v_allm, v_anym, i_lst, k_tupw, k_lstw, k_tups, k_lsts, y_int, y_tup, y_lst, y_dic, y_non, y_bl, y_str, n_tt, n_ll, n_ref, non_non, non_int, non_tup, non_bl, non_str, non_lst, l_tup, l_lst, l_inp, r_lst⟩
theorem wM :
    (∀ {s : S} {c : Cl}, (s.add c).get s.nx = some c) ∧ (∀ {s : S} {a b : Cl}, ((s.add a).add b).get s.nx = some a) ∧ (∀ {s : S} {a b c : Cl}, (((s.add a).add b).add c).get s.nx = some a) ∧ (∀ {s : S} {a b : Cl}, ((s.add a).add b).get (s.nx + 1) = some b) ∧ (∀ {s : S} {a b c : Cl}, (((s.add a).add b).add c).get (s.nx + 1) = some b) ∧
    (∀ {s : S} {c d : Cl}, (s.add d).put s.nx c = s.add c) ∧ (∀ {s : S} {a b c : Cl}, ((s.add a).add b).put s.nx c = (s.add c).add b) ∧ (∀ {s : S} {a b c d : Cl}, (((s.add a).add b).add c).put s.nx d = ((s.add d).add b).add c) ∧ (∀ {s : S} {a b c : Cl}, ((s.add a).add b).put (s.nx + 1) c = (s.add a).add c) ∧ (∀ {s : S} {a b c d : Cl}, (((s.add a).add b).add c).put (s.nx + 1) d = ((s.add a).add d).add c) ∧
    (∀ {s : S} {c : Cl}, (s.add c).nx = s.nx + 1) ∧ (∀ {s : S} {c : Cl} {n : Nat}, (s.put n c).nx = s.nx) ∧
    (((([] : List D).length : Nat) : Int) = 0) ∧ (∀ {a : D}, (([a].length : Nat) : Int) = 1) ∧ (∀ {a b : D}, (([a, b].length : Nat) : Int) = 2) ∧ (∀ {a b c : D}, (([a, b, c].length : Nat) : Int) = 3) ∧ (∀ {a b c d : D}, (([a, b, c, d].length : Nat) : Int) = 4) ∧ (∀ {a b c d e : D}, (([a, b, c, d, e].length : Nat) : Int) = 5) ∧ (∀ {a b c d e f : D}, (([a, b, c, d, e, f].length : Nat) : Int) = 6) ∧
    ((([] : List D).length ≤ 16777216) = True) ∧ (∀ {a : D}, ([a].length ≤ 16777216) = True) ∧ (∀ {a b : D}, ([a, b].length ≤ 16777216) = True) ∧ (∀ {a b c : D}, ([a, b, c].length ≤ 16777216) = True) ∧ (∀ {a b c d : D}, ([a, b, c, d].length ≤ 16777216) = True) ∧ (∀ {a b c d e : D}, ([a, b, c, d, e].length ≤ 16777216) = True) ∧ (∀ {a b c d e f : D}, ([a, b, c, d, e, f].length ≤ 16777216) = True) ∧
    (∀ {α : Type} {a : α}, ((some a).isSome = true) = True) ∧ (∀ {p : Prop}, (True ∧ p) = p) ∧ (∀ {p : Prop}, (p ∧ True) = p) ∧ (∀ {i : Int}, (enc i : D) = .int i) ∧ (∀ {b : Bool}, (enc b : D) = .bl b) ∧ (∀ {α β : Type} {f : α → β} {l : List α}, (l.map f).length = l.length) ∧ (∀ {α : Type} {x : α} {t : S}, isQ x t x t = True) :=
  ⟨get_add, get_add2, get_add3, get_nx1, get_nx12, add_put, put_add2, put_add3, put_nx1, put_nx12, rfl, rfl, len_nil, len_1, len_2, len_3, len_4, len_5, len_6, le_0, le_1, le_2, le_3, le_4, le_5, le_6, si_some, by simp, by simp, rfl, rfl, by simp, isQ_self⟩
/-- types, truth values -/
theorem wY :
    (Ty.isa .non .non = true) ∧ (Ty.isa .non .bl = false) ∧ (Ty.isa .non .int = false) ∧ (Ty.isa .non .str = false) ∧ (Ty.isa .non .tup = false) ∧ (Ty.isa .non .lst = false) ∧ (Ty.isa .non .dic = false) ∧ (Ty.isa .bl .non = false) ∧ (Ty.isa .bl .bl = true) ∧ (Ty.isa .bl .int = true) ∧ (Ty.isa .bl .str = false) ∧ (Ty.isa .bl .tup = false) ∧ (Ty.isa .bl .lst = false) ∧ (Ty.isa .bl .dic = false) ∧ (Ty.isa .int .non = false) ∧ (Ty.isa .int .bl = false) ∧ (Ty.isa .int .int = true) ∧ (Ty.isa .int .str = false) ∧ (Ty.isa .int .tup = false) ∧ (Ty.isa .int .lst = false) ∧ (Ty.isa .int .dic = false) ∧ (Ty.isa .str .non = false) ∧ (Ty.isa .str .bl = false) ∧ (Ty.isa .str .int = false) ∧ (Ty.isa .str .str = true) ∧ (Ty.isa .str .tup = false) ∧ (Ty.isa .str .lst = false) ∧ (Ty.isa .str .dic = false) ∧ (Ty.isa .tup .non = false) ∧ (Ty.isa .tup .bl = false) ∧ (Ty.isa .tup .int = false) ∧ (Ty.isa .tup .str = false) ∧ (Ty.isa .tup .tup = true) ∧ (Ty.isa .tup .lst = false) ∧ (Ty.isa .tup .dic = false) ∧ (Ty.isa .lst .non = false) ∧ (Ty.isa .lst .bl = false) ∧ (Ty.isa .lst .int = false) ∧ (Ty.isa .lst .str = false) ∧ (Ty.isa .lst .tup = false) ∧ (Ty.isa .lst .lst = true) ∧ (Ty.isa .lst .dic = false) ∧ (Ty.isa .dic .non = false) ∧ (Ty.isa .dic .bl = false) ∧ (Ty.isa .dic .int = false) ∧ (Ty.isa .dic .str = false) ∧ (Ty.isa .dic .tup = false) ∧ (Ty.isa .dic .lst = false) ∧ (Ty.isa .dic .dic = true) ∧
    (∀ {α : Type} {p : α → Bool} {a : α} {l : List α}, (a :: l).any p = (p a || l.any p)) ∧ (∀ {α : Type} {p : α → Bool}, ([] : List α).any p = false) ∧ (∀ {b : Bool}, (true || b) = true) ∧ (∀ {b : Bool}, (b || true) = true) ∧ (∀ {b : Bool}, (false || b) = b) ∧ (∀ {b : Bool}, (b || false) = b) ∧ (∀ {b : Bool}, (true && b) = b) ∧ (∀ {b : Bool}, (b && true) = b) ∧ (∀ {b : Bool}, (false && b) = false) ∧ (∀ {b : Bool}, (b && false) = false) ∧ (((0 : Nat) : Int) = 0) ∧ (((1 : Nat) : Int) = 1) ∧ (((2 : Nat) : Int) = 2) ∧ (((3 : Nat) : Int) = 3) ∧ (((4 : Nat) : Int) = 4) ∧ (((5 : Nat) : Int) = 5) ∧ (((6 : Nat) : Int) = 6) ∧ (((7 : Nat) : Int) = 7) ∧ (((8 : Nat) : Int) = 8) ∧ (((9 : Nat) : Int) = 9) ∧ (((10 : Nat) : Int) = 10) ∧ (((11 : Nat) : Int) = 11) ∧ (((12 : Nat) : Int) = 12) ∧ (((0 : Nat) ≤ 16777216) = True) ∧ (((1 : Nat) ≤ 16777216) = True) ∧ (((2 : Nat) ≤ 16777216) = True) ∧ (((3 : Nat) ≤ 16777216) = True) ∧ (((4 : Nat) ≤ 16777216) = True) ∧ (((5 : Nat) ≤ 16777216) = True) ∧ (((6 : Nat) ≤ 16777216) = True) ∧ (((7 : Nat) ≤ 16777216) = True) ∧ (∀ {h : Decidable True}, @decide True h = true) ∧ (∀ {h : Decidable False}, @decide False h = false) ∧ ((!true) = false) ∧ ((!false) = true) ∧ (∀ {b : Bool}, (!!b) = b) :=
  ⟨rfl, rfl, rfl, rfl, rfl, rfl, rfl, rfl, rfl, rfl, rfl, rfl, rfl, rfl, rfl, rfl, rfl, rfl, rfl, rfl, rfl, rfl, rfl, rfl, rfl, rfl, rfl, rfl, rfl, rfl, rfl, rfl, rfl, rfl, rfl, rfl, rfl, rfl, rfl, rfl, rfl, rfl, rfl, rfl, rfl, rfl, rfl, rfl, rfl, by simp, by simp, by simp, by simp, by simp, by simp, by simp, by simp, by simp, by simp, rfl, rfl, rfl, rfl, rfl, rfl, rfl, rfl, rfl, rfl, rfl, rfl, rfl, by simp, by simp, by simp, by simp, by simp, by simp, by simp, by simp, by simp, by simp, by simp, by simp, by simp⟩
/-- branches whose test is known -/
theorem wB :
    (∀ {c τ s N R K B a b}, brS c τ true a b s N R K B = (evSs c a τ s).W N R K B) ∧
    (∀ {c τ s N R K B a b}, brS c τ false a b s N R K B = (evSs c b τ s).W N R K B) ∧
    (∀ {c τ s Q p e y}, brCh c τ true p e y s Q = (evE c e τ s).W (kCmp2 p y Q)) ∧
    (∀ {c τ s Q p e y}, brCh c τ false p e y s Q = Q (.bl false) s) ∧
    (∀ {c τ s Q b}, brAnd c τ true b s Q = (evE c b τ s).W (kBl Q)) ∧
    (∀ {c τ s Q b}, brAnd c τ false b s Q = Q (.bl false) s) ∧
    (∀ {c τ s Q b}, brOr c τ true b s Q = Q (.bl true) s) ∧
    (∀ {c τ s Q b}, brOr c τ false b s Q = (evE c b τ s).W (kBl Q)) ∧
    (∀ {c τ s Q a b}, brE c τ true a b s Q = (evE c a τ s).W Q) ∧
    (∀ {c τ s Q a b}, brE c τ false a b s Q = (evE c b τ s).W Q) ∧
    (∀ {c τ s e} {P : Option D → S → Prop}, brT c τ true e s P = (evE c e τ s).W (kSome P)) ∧
    (∀ {c τ s e} {P : Option D → S → Prop}, brT c τ false e s P = P none s) ∧
    (∀ {c τ s k v} {P : Option (D × D) → S → Prop}, brK c τ true k v s P = (evE c k τ s).W (kTK2 c τ v P)) ∧
    (∀ {c τ s k v} {P : Option (D × D) → S → Prop}, brK c τ false k v s P = P none s) ∧
    (∀ {s : S} {Q : VQ} {d : D}, wSlot (some (some d)) s Q = Q d s) ∧
    (∀ {c τ s N i o e n}, wAug c (some (some (.int n))) i o e τ s N = (evE c e τ s).W (kAug τ o n i N)) ∧
    (∀ {τ : Tau} {s : S} {N : TQ} {i : Nat} {d : D}, wGf (some (some d)) i τ s N = (evFrz d s).W (kGf τ i N)) ∧
    (∀ {tab : Nat → Option Fd} {wf n f : Nat} {es : MEs} {τ s Q}, wLc tab wf n (some (some (.fn f))) es τ s Q = ((tab f).isSome = true ∧ (evEs (cc tab wf n) es τ s).W (kCall (cc tab wf n) f Q))) ∧
    (∀ {s : S} {Q : VQ} {ts : List Ty} {t : Ty}, wIsi (some t) ts s Q = Q (.bl (ts.any fun u => t.isa u)) s) ∧
    (∀ {s : S} {Q : VQ} {f : Nat} {as : List D} {tab : Nat → Option Fd} {wf n : Nat}, wPerm (cc tab wf n) f (some as) s Q = (callN tab wf n f as s).W Q) ∧
    (∀ {α : Type} {a : α} {s : S} {P : α → S → Prop}, wSome (some a) s P = P a s) :=
  ⟨br_st, br_sf, br_cht, br_chf, br_andt, br_andf, br_ort, br_orf, br_et, br_ef, br_tt, br_tf, br_kt, br_kf, w_slot, w_aug, w_gf, w_lcall, w_isi, w_perm, w_some⟩
end Mi
set_option Elab.async false
set_option linter.all false
set_option maxRecDepth 100000
set_option maxHeartbeats 400000
/-! Pl4m: ranges, pairs. -/
namespace Mi
open PySem PySem.W
open Mi.En (enc)
def up (lo : Int) (n : Nat) : List Int := (List.range n).map fun i => lo + (i : Nat)
theorem up_succ (lo : Int) (n : Nat) : up lo (n + 1) = lo :: up (lo + 1) n := by
  unfold up
  rw [List.range_succ_eq_map, List.map_cons, List.map_map]
  congr 1
  · simp
  · apply List.map_congr_left
    intro i _
    simp
    omega
theorem rangeD_up : ∀ (n : Nat) (lo : Int), rangeD lo n = (up lo n).map enc
  | 0, _ => rfl
  | n + 1, lo => by
    rw [up_succ, List.map_cons, rangeD, rangeD_up n (lo + 1)]
    rfl
theorem mem_up {lo i : Int} {n : Nat} : i ∈ up lo n ↔ lo ≤ i ∧ i < lo + n := by
  unfold up
  simp only [List.mem_map, List.mem_range]
  constructor
  · rintro ⟨k, h, rfl⟩
    omega
  · intro h
    exact ⟨(i - lo).toNat, by omega, by omega⟩
@[simp] theorem up_len {lo : Int} {n : Nat} : (up lo n).length = n := by simp [up]
def enumL {α : Type} : Nat → List α → List (Int × α)
  | _, [] => []
  | k, x :: xs => ((k : Int), x) :: enumL (k + 1) xs
theorem enumD_map {α : Type} (f : α → D) : ∀ (xs : List α) (k : Nat), enumD k (xs.map f) = (enumL k xs).map fun p => .tup [.int p.1, f p.2]
  | [], _ => rfl
  | x :: xs, k => by
    rw [List.map_cons, enumD, enumL, List.map_cons, enumD_map f xs (k + 1)]
theorem enumL_len {α : Type} : ∀ (xs : List α) (k : Nat), (enumL k xs).length = xs.length
  | [], _ => rfl
  | x :: xs, k => by simp [enumL, enumL_len xs]
theorem enum_filter {α : Type} (g : α → Bool) : ∀ (xs : List α) (k : Nat), ((enumL k xs).filter fun q => g q.2).map (·.1) = (up (k : Int) xs.length).filter fun i => match xs[(i - (k : Int)).toNat]? with
    | some t => g t
    | none => false
  | [], _ => rfl
  | x :: xs, k => by
    rw [List.length_cons, up_succ, enumL]
    have ih := enum_filter g xs (k + 1)
    have e0 : (((k : Int) - (k : Int)).toNat) = 0 := by omega
    have et : (up ((k : Int) + 1) xs.length).filter (fun i => match (x :: xs)[(i - (k : Int)).toNat]? with
        | some t => g t
        | none => false) = (up ((k : Int) + 1) xs.length).filter (fun i => match xs[(i - ((k + 1 : Nat) : Int)).toNat]? with
        | some t => g t
        | none => false) := by
      apply List.filter_congr
      intro i hi
      have := mem_up.mp hi
      have e : (i - (k : Int)).toNat = (i - ((k + 1 : Nat) : Int)).toNat + 1 := by omega
      rw [e, List.getElem?_cons_succ]
    have e2 : ((k + 1 : Nat) : Int) = (k : Int) + 1 := by omega
    rw [List.filter_cons, List.filter_cons, et]
    rw [e2] at ih et ⊢
    rw [e0]
    simp only [List.getElem?_cons_zero]
    by_cases h : g x = true
    · rw [if_pos h, if_pos h, List.map_cons, ih]
    · rw [if_neg h, if_neg h, ih]
theorem zipD3_en {α β γ : Type} [DecidableEq α] [En α] [DecidableEq β] [En β] [DecidableEq γ] [En γ] : ∀ (xs : List α) (ys : List β) (zs : List γ), zipD3 (xs.map enc) (ys.map enc) (zs.map enc) = (xs.zip (ys.zip zs)).map fun p => .tup [enc p.1, enc p.2.1, enc p.2.2]
  | [], _, _ => by simp [zipD3]
  | _ :: _, [], _ => by simp [zipD3]
  | _ :: _, _ :: _, [] => by simp [zipD3]
  | x :: xs, y :: ys, z :: zs => by
    simp only [List.map_cons, zipD3, List.zip_cons_cons, zipD3_en xs ys zs]

theorem zipD_en {α β : Type} [DecidableEq α] [En α] [DecidableEq β] [En β] : ∀ (xs : List α) (ys : List β), zipD (xs.map enc) (ys.map enc) = (xs.zip ys).map enc
  | [], _ => rfl
  | _ :: _, [] => rfl
  | x :: xs, y :: ys => by
    simp only [List.map_cons, zipD, List.zip_cons_cons, zipD_en xs ys]
    rfl
theorem enc_pair {α β : Type} [DecidableEq α] [En α] [DecidableEq β] [En β] (p : α × β) : (enc p : D) = .tup [enc p.1, enc p.2] := rfl
theorem enc_tup {α : Type} [DecidableEq α] [En α] (p : Tup α) : (enc p : D) = .tup (p.items.map enc) := rfl
theorem enc_list {α : Type} [DecidableEq α] [En α] (p : List α) : (enc p : D) = .lst (p.map enc) := rfl
end Mi
set_option Elab.async false
set_option linter.all false
set_option maxRecDepth 100000
set_option maxHeartbeats 400000
/-! W5: comprehensions, loops, calls. -/
namespace Mi
open PySem PySem.W
open Mi.En (enc)
section
variable {α β : Type} {f : D → S → Res (Option D)} {s : S} {e : α → D} {h : α → D} {P : List D → S → Prop}
theorem W_map {xs : List α} (h : α → D) (k : ∀ x ∈ xs, (f (e x) s).W (isQ (some (h x)) s)) (q : P (xs.map h) s) : (loopC f (xs.map e) s).W P :=
  Res.W.of (loopC_map fun x hx => (k x hx).eq) q
theorem W_filter {xs : List α} (p : α → Bool) (h : α → D) (k : ∀ x ∈ xs, (f (e x) s).W (isQ (if p x = true then some (h x) else none) s)) (q : P ((xs.filter p).map h) s) : (loopC f (xs.map e) s).W P :=
  Res.W.of (loopC_filter fun x hx => (k x hx).eq) q
theorem W_ex {xs : List α} (I : S → Prop) (G : β → Prop) (g : β → D) (h0 : I s) (k : ∀ x ∈ xs, ∀ s, I s → (f (e x) s).W fun o t => ∃ y, o = some (g y) ∧ I t ∧ G y)
    (q : ∀ (ys : List β) (t : S), ys.length = xs.length → (∀ y ∈ ys, G y) → I t → P (ys.map g) t) : (loopC f (xs.map e) s).W P := by
  have key : ∀ (xs : List α), (∀ x ∈ xs, ∀ s, I s → (f (e x) s).W fun o t => ∃ y, o = some (g y) ∧ I t ∧ G y) → ∀ s, I s → (loopC f (xs.map e) s).W fun r t => ∃ ys : List β, r = ys.map g ∧ ys.length = xs.length ∧ (∀ y ∈ ys, G y) ∧ I t := by
    intro xs
    induction xs with
    | nil => exact fun _ s i => ⟨[], rfl, rfl, (fun _ h => by cases h), i⟩
    | cons x xs ih =>
      intro k s i
      obtain ⟨o, t, h1, y, rfl, h2, h3⟩ := (k x List.mem_cons_self s i).ex
      obtain ⟨r, u, h4, ys, rfl, h5, h6, h7⟩ := (ih (fun z hz => k z (List.mem_cons_of_mem _ hz)) t h2).ex
      refine Res.W.of (a := (y :: ys).map g) (s := u) ?_ ⟨y :: ys, rfl, by simp [h5], fun z hz => ?_, h7⟩
      · rw [List.map_cons, loopC, h1]
        simp only
        rw [h4]
        rfl
      · rcases List.mem_cons.mp hz with rfl | hz
        · exact h3
        · exact h6 z hz
  refine (key xs k s h0).mono ?_
  rintro r t ⟨ys, rfl, h1, h2, h3⟩
  exact q ys t h1 h2 h3
/-- each value by its place -/
theorem W_exF {xs : List α} (I : S → Prop) (G : α → β → Prop) (g : β → D) (h0 : I s) (k : ∀ x ∈ xs, ∀ s, I s → (f (e x) s).W fun o t => ∃ y, o = some (g y) ∧ I t ∧ G x y)
    (q : ∀ (ys : List β) (t : S), ys.length = xs.length → (∀ p ∈ xs.zip ys, G p.1 p.2) → I t → P (ys.map g) t) : (loopC f (xs.map e) s).W P := by
  have key : ∀ (xs : List α), (∀ x ∈ xs, ∀ s, I s → (f (e x) s).W fun o t => ∃ y, o = some (g y) ∧ I t ∧ G x y) → ∀ s, I s → (loopC f (xs.map e) s).W fun r t => ∃ ys : List β, r = ys.map g ∧ ys.length = xs.length ∧ (∀ p ∈ xs.zip ys, G p.1 p.2) ∧ I t := by
    intro xs
    induction xs with
    | nil => exact fun _ s i => ⟨[], rfl, rfl, (fun _ h => by cases h), i⟩
    | cons x xs ih =>
      intro k s i
      obtain ⟨o, t, h1, y, rfl, h2, h3⟩ := (k x List.mem_cons_self s i).ex
      obtain ⟨r, u, h4, ys, rfl, h5, h6, h7⟩ := (ih (fun z hz => k z (List.mem_cons_of_mem _ hz)) t h2).ex
      refine Res.W.of (a := (y :: ys).map g) (s := u) ?_ ⟨y :: ys, rfl, by simp [h5], fun z hz => ?_, h7⟩
      · rw [List.map_cons, loopC, h1]
        simp only
        rw [h4]
        rfl
      · rw [List.zip_cons_cons] at hz
        rcases List.mem_cons.mp hz with rfl | hz
        · exact h3
        · exact h6 z hz
  refine (key xs k s h0).mono ?_
  rintro r t ⟨ys, rfl, h1, h2, h3⟩
  exact q ys t h1 h2 h3
variable {c : Cc} {τ : Tau} {Q : VQ}
theorem W_allC {xs : List α} (p : α → Bool) (k : ∀ x ∈ xs, (f (e x) s).W (isQ (some (.bl (p x))) s)) (q : Q (.bl (xs.all p)) s) : (loopC f (xs.map e) s).W (kCompEnd false (kEs c τ .nil (kBi .all Q))) := by
  refine W_map (fun x => .bl (p x)) k ?_
  simp only [↓wE, ↓wC, wX]
  exact q
theorem W_anyC {xs : List α} (p : α → Bool) (k : ∀ x ∈ xs, (f (e x) s).W (isQ (some (.bl (p x))) s)) (q : Q (.bl (xs.any p)) s) : (loopC f (xs.map e) s).W (kCompEnd false (kEs c τ .nil (kBi .any Q))) := by
  refine W_map (fun x => .bl (p x)) k ?_
  simp only [↓wE, ↓wC, wX]
  exact q
theorem all_tt {γ : Type} {xs : List γ} : (xs.all fun _ => true) = true := by simp
/-- all, where each is -/
theorem W_allT {xs : List α} (k : ∀ x ∈ xs, (f (e x) s).W (isQ (some (.bl true)) s)) (q : Q (.bl true) s) : (loopC f (xs.map e) s).W (kCompEnd false (kEs c τ .nil (kBi .all Q))) :=
  W_allC (fun _ => true) k (by rw [all_tt]; exact q)
theorem filter_map {γ δ : Type} {xs : List α} (p : α → Bool) (h : α → γ) (g : γ → δ) : (xs.filter p).map (fun x => g (h x)) = ((xs.filter p).map h).map g := by rw [List.map_map]; rfl
theorem filter_empty {xs : List α} {p : α → Bool} : (xs.filter p).isEmpty = !xs.any p := by
  induction xs with
  | nil => rfl
  | cons x xs ih =>
    rw [List.filter_cons, List.any_cons]
    cases p x <;> simp [ih]
/-- [.. if ..] == [] -/
theorem W_eqN [DecidableEq β] [En β] [Sh β] {xs : List α} (p : α → Bool) (h : α → β) (k : ∀ x ∈ xs, (f (e x) s).W (isQ (if p x = true then some (enc (h x)) else none) s)) (q : Q (.bl (!xs.any p)) s) : (loopC f (xs.map e) s).W (kCompEnd false (kCmp1 c τ .eq (.lst .nil) Q)) := by
  refine W_filter p (fun x => enc (h x)) k ?_
  rw [filter_map p h enc]
  simp only [↓wE, ↓wC, wV, wM]
  rw [List.isEmpty_map, filter_empty]
  exact q
theorem W_neN [DecidableEq β] [En β] [Sh β] {xs : List α} (p : α → Bool) (h : α → β) (k : ∀ x ∈ xs, (f (e x) s).W (isQ (if p x = true then some (enc (h x)) else none) s)) (q : Q (.bl (xs.any p)) s) : (loopC f (xs.map e) s).W (kCompEnd false (kCmp1 c τ .ne (.lst .nil) Q)) := by
  refine W_filter p (fun x => enc (h x)) k ?_
  rw [filter_map p h enc]
  simp only [↓wE, ↓wC, wV, wM]
  rw [List.isEmpty_map, filter_empty, Bool.not_not]
  exact q
end
section
variable {c : Cc} {τ : Tau} {s : S} {Q : VQ}
/-- a test of a filter -/
theorem brT_if {p q : Bool} {e : ME} {d : D} (hp : p = q) (k : q = true → (evE c e τ s).W (isQ d s)) : brT c τ p e s (isQ (if q = true then some d else none) s) := by
  subst hp
  cases p with
  | true =>
    show (evE c e τ s).W (kSome (isQ (some d) s))
    refine (k rfl).mono ?_
    rintro a t ⟨rfl, rfl⟩
    exact ⟨rfl, rfl⟩
  | false => exact ⟨rfl, rfl⟩
theorem brAnd_pure {p : Bool} (r : Bool) {b : ME} (h : p = true → (evE c b τ s).W (isQ (.bl r) s)) (q : Q (.bl (p && r)) s) : brAnd c τ p b s Q := by
  cases p with
  | true =>
    refine (h rfl).mono ?_
    rintro a t ⟨rfl, rfl⟩
    exact q
  | false => exact q
theorem brOr_pure {p : Bool} (r : Bool) {b : ME} (h : p = false → (evE c b τ s).W (isQ (.bl r) s)) (q : Q (.bl (p || r)) s) : brOr c τ p b s Q := by
  cases p with
  | false =>
    refine (h rfl).mono ?_
    rintro a t ⟨rfl, rfl⟩
    exact q
  | true => exact q
theorem brCh_pure {o : Bool} (r : Bool) {p : Co} {e : ME} {y : D} (h : o = true → (evE c e τ s).W (kCmp2 p y (isQ (.bl r) s))) (q : Q (.bl (o && r)) s) : brCh c τ o p e y s Q := by
  cases o with
  | true =>
    have h := h rfl
    obtain ⟨a, t, e1, e2⟩ := h.ex
    refine Res.W.of e1 ?_
    refine Res.W.mono e2 ?_
    rintro a t ⟨rfl, rfl⟩
    exact q
  | false => exact q
/-- a branch by its test -/
theorem brS_by {p : Bool} {a b : MSs} {N K B : TQ} {R : VQ} (h1 : p = true → (evSs c a τ s).W N R K B) (h2 : p = false → (evSs c b τ s).W N R K B) : brS c τ p a b s N R K B := by
  cases p with
  | true => exact h1 rfl
  | false => exact h2 rfl
theorem brE_by {p : Bool} {a b : ME} (h1 : p = true → (evE c a τ s).W Q) (h2 : p = false → (evE c b τ s).W Q) : brE c τ p a b s Q := by
  cases p with
  | true => exact h1 rfl
  | false => exact h2 rfl
theorem brE_pure {p : Bool} {a b : ME} {x y : D} (h1 : p = true → (evE c a τ s).W (isQ x s)) (h2 : p = false → (evE c b τ s).W (isQ y s)) (q : Q (if p = true then x else y) s) : brE c τ p a b s Q := by
  cases p with
  | true => exact (h1 rfl).mono (by rintro a t ⟨rfl, rfl⟩; exact q)
  | false => exact (h2 rfl).mono (by rintro a t ⟨rfl, rfl⟩; exact q)
end
section
variable {α : Type} {c : Cc} {g : MG} {b : MSs} {e : α → D} {N : TQ} {R : VQ}
theorem W_for_aux {xs : List α} (I : List α → Tau → S → Prop) (k : ∀ pre x post τ s, xs = pre ++ x :: post → I pre τ s → (evG c g (e x) τ s).W fun τ1 s1 => (evSs c b τ1 s1).W (I (pre ++ [x])) R (I (pre ++ [x])) N) (q : ∀ τ s, I xs τ s → N τ s) :
    ∀ (post pre : List α) (τ : Tau) (s : S), xs = pre ++ post → I pre τ s → (loopF (evG c g) (evSs c b) (post.map e) τ s).W N R noT noT
  | [], pre, τ, s, h, i => q τ s (by rw [h, List.append_nil]; exact i)
  | x :: post, pre, τ, s, h, i => by
    obtain ⟨τ1, s1, h1, h2⟩ := (k pre x post τ s h i).ex
    have ih := W_for_aux I k q post (pre ++ [x])
    rw [List.map_cons, loopF, h1]
    show Fl.W (match evSs c b τ1 s1 with | .nx τ2 s2 => _ | .ct τ2 s2 => _ | .bk τ2 s2 => _ | .rt d s2 => _ | .exc x τ2 s2 => _ | .stuck => _) N R noT noT
    cases e1 : evSs c b τ1 s1 with
    | nx τ2 s2 => rw [e1] at h2; exact ih τ2 s2 (by rw [h, List.append_assoc]; rfl) h2
    | ct τ2 s2 => rw [e1] at h2; exact ih τ2 s2 (by rw [h, List.append_assoc]; rfl) h2
    | bk τ2 s2 => rw [e1] at h2; exact h2
    | rt d s2 => rw [e1] at h2; exact h2
    | exc x τ2 s2 => rw [e1] at h2; exact h2
    | stuck => rw [e1] at h2; exact h2
/-- for: I holds of what is behind it -/
theorem W_for {xs : List α} {τ : Tau} {s : S} (I : List α → Tau → S → Prop) (h : I [] τ s) (k : ∀ pre x post τ s, xs = pre ++ x :: post → I pre τ s → (evG c g (e x) τ s).W fun τ1 s1 => (evSs c b τ1 s1).W (I (pre ++ [x])) R (I (pre ++ [x])) N) (q : ∀ τ s, I xs τ s → N τ s) :
    (loopF (evG c g) (evSs c b) (xs.map e) τ s).W N R noT noT := W_for_aux I k q xs [] τ s rfl h
theorem W_whl_aux {t : ME} (I : Nat → Tau → S → Prop) (k : ∀ m τ s, I m τ s → (evE c t τ s).W fun d s1 => ∃ p, d = .bl p ∧ if p = true then (evSs c b τ s1).W (fun τ2 s2 => ∃ m', m' < m ∧ I m' τ2 s2) R (fun τ2 s2 => ∃ m', m' < m ∧ I m' τ2 s2) N else N τ s1) :
    ∀ (f m : Nat) (τ : Tau) (s : S), m < f → I m τ s → (loopW (evE c t) (evSs c b) f τ s).W N R noT noT
  | 0, m, _, _, h, _ => by omega
  | f + 1, m, τ, s, h, i => by
    obtain ⟨d, s1, h1, p, rfl, h2⟩ := (k m τ s i).ex
    have ih := W_whl_aux I k f
    rw [loopW, h1]
    cases p with
    | false => exact h2
    | true =>
      rw [if_pos rfl] at h2
      show Fl.W (match evSs c b τ s1 with | .nx τ2 s2 => _ | .ct τ2 s2 => _ | .bk τ2 s2 => _ | .rt d s2 => _ | .exc x τ2 s2 => _ | .stuck => _) N R noT noT
      cases e1 : evSs c b τ s1 with
      | nx τ2 s2 => rw [e1] at h2; obtain ⟨m', h3, h4⟩ := h2; exact ih m' τ2 s2 (by omega) h4
      | ct τ2 s2 => rw [e1] at h2; obtain ⟨m', h3, h4⟩ := h2; exact ih m' τ2 s2 (by omega) h4
      | bk τ2 s2 => rw [e1] at h2; exact h2
      | rt d s2 => rw [e1] at h2; exact h2
      | exc x τ2 s2 => rw [e1] at h2; exact h2
      | stuck => rw [e1] at h2; exact h2
/-- while: m is what is left at most -/
theorem W_whl {t : ME} {τ : Tau} {s : S} (I : Nat → Tau → S → Prop) (m : Nat) (hm : m < c.wf) (h : I m τ s) (k : ∀ m τ s, I m τ s → (evE c t τ s).W fun d s1 => ∃ p, d = .bl p ∧ if p = true then (evSs c b τ s1).W (fun τ2 s2 => ∃ m', m' < m ∧ I m' τ2 s2) R (fun τ2 s2 => ∃ m', m' < m ∧ I m' τ2 s2) N else N τ s1) :
    wWhl c τ t b s N R := W_whl_aux I k c.wf m τ s hm h
end
/-! ### calls -/
section
variable {tab : Nat → Option Fd} {wf n f : Nat} {ps ns : Nat} {b : MSs} {ds : List D} {s t : S}
theorem call_W {d : D} (ht : tab f = some ⟨ps, ns, b⟩) (hl : ds.length = ps) (W : Wf s) (hd : below s.nx d = true) (h : (evSs (cc tab wf n) b (startT ns ds) s).W (fun _ t => D.non = d ∧ Over s t) (fun x t => x = d ∧ Over s t) noT noT) : callN tab wf (n + 1) f ds s = .ok d s := by
  rw [call_eq ht hl]
  cases e : evSs (cc tab wf n) b (startT ns ds) s with
  | nx τ t =>
    rw [e] at h
    obtain ⟨rfl, o⟩ := h
    simp only [endOf, clean_over W o hd]
  | rt x t =>
    rw [e] at h
    obtain ⟨rfl, o⟩ := h
    simp only [endOf, clean_over W o hd]
  | ct => rw [e] at h; exact h.elim
  | bk => rw [e] at h; exact h.elim
  | exc => rw [e] at h; exact h.elim
  | stuck => rw [e] at h; exact h.elim
/-- hands back some value of a kind; the old part of the state may have moved -/
theorem call_Wex {P : D → S → Prop} (ht : tab f = some ⟨ps, ns, b⟩) (hl : ds.length = ps)
    (h : (evSs (cc tab wf n) b (startT ns ds) s).W (fun _ t => ∃ u, u.nx = s.nx ∧ Wf u ∧ Over u t ∧ P .non u) (fun d t => ∃ u, u.nx = s.nx ∧ Wf u ∧ Over u t ∧ below s.nx d = true ∧ P d u) noT noT) : (callN tab wf (n + 1) f ds s).W P := by
  rw [call_eq ht hl]
  cases e : evSs (cc tab wf n) b (startT ns ds) s with
  | nx τ t =>
    rw [e] at h
    obtain ⟨u, h1, W, o, p⟩ := h
    simp only [endOf]
    rw [← h1, clean_over W o rfl]
    exact p
  | rt x t =>
    rw [e] at h
    obtain ⟨u, h1, W, o, hd, p⟩ := h
    simp only [endOf]
    rw [← h1] at hd ⊢
    rw [clean_over W o hd]
    exact p
  | ct => rw [e] at h; exact h.elim
  | bk => rw [e] at h; exact h.elim
  | exc => rw [e] at h; exact h.elim
  | stuck => rw [e] at h; exact h.elim
/-- hands back a cell of its own -/
theorem call_Wcell {c : Cl} (ht : tab f = some ⟨ps, ns, b⟩) (hl : ds.length = ps) (W : Wf s) (hc : belowC s.nx c = true) (h : (evSs (cc tab wf n) b (startT ns ds) s).W noT (fun x t => ∃ k, x = .ref k ∧ s.nx ≤ k ∧ t.get k = some c ∧ Over s t) noT noT) : callN tab wf (n + 1) f ds s = .ok (.ref s.nx) (s.add c) := by
  rw [call_eq ht hl]
  cases e : evSs (cc tab wf n) b (startT ns ds) s with
  | rt x t =>
    rw [e] at h
    obtain ⟨k, rfl, h1, h2, o⟩ := h
    simp only [endOf, clean_cell W o h1 h2 hc]
  | nx => rw [e] at h; exact h.elim
  | ct => rw [e] at h; exact h.elim
  | bk => rw [e] at h; exact h.elim
  | exc => rw [e] at h; exact h.elim
  | stuck => rw [e] at h; exact h.elim
end
/-- the names at a def's start -/
theorem wT :
    (∀ {n : Nat} {as : List D}, startT n as = as.map some ++ List.replicate (n - as.length) none) ∧ (∀ {a : D}, [a].length = 1) ∧ (∀ {a b : D}, [a, b].length = 2) ∧ (∀ {a b c : D}, [a, b, c].length = 3) ∧ (∀ {a b c d : D}, [a, b, c, d].length = 4) ∧ (∀ {a b c d e : D}, [a, b, c, d, e].length = 5) ∧ (∀ {a b c d e f : D}, [a, b, c, d, e, f].length = 6) ∧ (([] : List D).length = 0) ∧
    (∀ {a : D} {as : List D}, (a :: as).map some = some a :: as.map some) ∧ (([] : List D).map some = []) ∧ (∀ {as : Tau}, ([] : Tau) ++ as = as) ∧ (∀ {a : Option D} {as bs : Tau}, (a :: as) ++ bs = a :: (as ++ bs)) ∧ (∀ {n : Nat} {a : Option D}, List.replicate (n + 1) a = a :: List.replicate n a) ∧ (∀ {a : Option D}, List.replicate 0 a = []) :=
  ⟨rfl, rfl, rfl, rfl, rfl, rfl, rfl, rfl, rfl, rfl, rfl, rfl, rfl, rfl⟩
theorem over_refl {s : S} : Over s s = True := eq_true (Over.refl s)
theorem over_add {s : S} {c : Cl} : Over s (s.add c) = True := eq_true (Over.add (Over.refl s))
theorem over_add2 {s : S} {c d : Cl} : Over s ((s.add c).add d) = True := eq_true (Over.add (Over.add (Over.refl s)))
theorem over_add3 {s : S} {c d e : Cl} : Over s (((s.add c).add d).add e) = True := eq_true (Over.add (Over.add (Over.add (Over.refl s))))
theorem wO : (∀ {s : S}, Over s s = True) ∧ (∀ {s : S} {c : Cl}, Over s (s.add c) = True) ∧ (∀ {s : S} {c d : Cl}, Over s ((s.add c).add d) = True) ∧ (∀ {s : S} {c d e : Cl}, Over s (((s.add c).add d).add e) = True) ∧ (∀ {p : Prop}, (p ∧ True) = p) ∧ (∀ {a : D}, (a = a) = True) := ⟨over_refl, over_add, over_add2, over_add3, by simp, by simp⟩
end Mi
set_option Elab.async false
set_option linter.all false
set_option maxRecDepth 100000
set_option maxHeartbeats 400000
/-! W6: dicts whose keys are of one type. -/
namespace Mi
open PySem PySem.W
open Mi.En (enc)
class Ky (κ : Type) [DecidableEq κ] [En κ] where
  key : κ → NestedKey
  keyT : ∀ a : κ, keyT (enc a) = some (key a)
  inj : ∀ {a b : κ}, key a = key b → a = b
instance : Sh (Int × Tup Int) := ⟨by decide⟩
instance : TupE (Int × Tup Int) := ⟨fun a => ⟨_, rfl⟩, fun a => rfl⟩
instance : Sh (List (Int × Tup Int)) := ⟨by decide⟩
def kP (p : Int × Tup Int) : NestedKey := .tup [.num p.1, .tup (p.2.items.map .num)]
theorem toKeys_ints : ∀ xs : List Int, toKeys (xs.map enc) = some (xs.map .num)
  | [] => rfl
  | x :: xs => by
    rw [List.map_cons, toKeys, toKeys_ints xs]
    rfl
theorem depth_nums : ∀ xs : List Int, NestedKey.depthAll (xs.map .num) ≤ 0
  | [] => by simp [NestedKey.depthAll]
  | x :: xs => by
    have := depth_nums xs
    simp [NestedKey.depthAll, NestedKey.depth]
    omega
theorem keyT_pl (p : Int × Tup Int) : keyT (enc p) = some (kP p) := by
  have e3 : (enc p : D) = .tup [.int p.1, .tup (p.2.items.map enc)] := rfl
  have h1 : toKeys [.int p.1, .tup (p.2.items.map enc)] = some [.num p.1, .tup (p.2.items.map .num)] := by
    simp [toKeys, toKey, toKeys_ints]
  have h2 : (NestedKey.tup [.num p.1, .tup (p.2.items.map .num)]).depth ≤ 8 := by
    have := depth_nums p.2.items
    simp [NestedKey.depth, NestedKey.depthAll]
    omega
  rw [e3]
  simp only [keyT, h1]
  rw [if_pos h2]
  rfl
theorem kP_inj {p q : Int × Tup Int} (h : kP p = kP q) : p = q := by
  obtain ⟨a, ⟨xs⟩⟩ := p
  obtain ⟨b, ⟨ys⟩⟩ := q
  unfold kP at h
  simp at h
  obtain ⟨h1, h2⟩ := h
  have : xs = ys := by
    have := congrArg (List.map fun k : NestedKey => match k with | .num i => i | _ => 0) h2
    simpa [List.map_map, Function.comp_def] using this
  rw [h1, this]
instance : Ky (Int × Tup Int) := ⟨kP, keyT_pl, kP_inj⟩
section
variable {κ β : Type} [DecidableEq κ] [En κ] [Ky κ] {f : β → D} {s : S} {Q : VQ}
def lk (p : κ) : List (κ × β) → Option β
  | [] => none
  | (q, b) :: l => if p = q then some b else lk p l
def kD (l : List (κ × β)) : List D := (l.map (·.1)).map enc
def vD (f : β → D) (l : List (κ × β)) : List D := l.map fun q => f q.2
theorem dget_ky (p : κ) : ∀ l : List (κ × β), dget (Ky.key p) (kD l) (vD f l) = (lk p l).map f
  | [] => rfl
  | (q, b) :: l => by
    show (if keyT (enc q) = some (Ky.key p) then some (f b) else dget (Ky.key p) (kD l) (vD f l)) = _
    rw [Ky.keyT, dget_ky p l, lk]
    by_cases h : p = q
    · subst h
      simp
    · rw [if_neg h, if_neg fun z => h (Ky.inj (Option.some.inj z)).symm]
theorem lookup_isSome {p : κ} : ∀ {l : List (κ × β)}, (lk p l).isSome = decide (p ∈ l.map (·.1))
  | [] => by simp [lk]
  | (q, b) :: l => by
    rw [lk]
    by_cases h : p = q
    · subst h
      simp
    · rw [if_neg h]
      simp only [List.map_cons, List.mem_cons, h, false_or]
      exact lookup_isSome
theorem lookup_out {p : κ} {l : List (κ × β)} (h : p ∉ l.map (·.1)) : lk p l = none := by
  have e : (lk p l).isSome = false := by rw [lookup_isSome]; simpa using h
  cases q : lk p l with
  | none => rfl
  | some x => rw [q] at e; cases e
theorem kd_lookup {p : κ} {b : β} : ∀ {l : List (κ × β)}, (l.map (·.1)).Nodup → (p, b) ∈ l → lk p l = some b
  | [], _, h => by cases h
  | (q, c) :: l, hn, h => by
    rw [List.map_cons, List.nodup_cons] at hn
    rw [lk]
    rcases List.mem_cons.mp h with h | h
    · cases h
      simp
    · have h2 : p ≠ q := fun z => hn.1 (by rw [← z]; exact List.mem_map.mpr ⟨_, h, rfl⟩)
      rw [if_neg h2]
      exact kd_lookup hn.2 h
theorem kd_mem {p : κ} {b : β} : ∀ {l : List (κ × β)}, lk p l = some b → (p, b) ∈ l
  | [], h => by cases h
  | (q, c) :: l, h => by
    rw [lk] at h
    by_cases e : p = q
    · subst e
      simp at h
      subst h
      exact List.mem_cons_self
    · rw [if_neg e] at h
      exact List.mem_cons_of_mem _ (kd_mem h)
theorem lookup_mapK (g : κ → β) {p : κ} : ∀ {ps : List κ}, p ∈ ps → lk p (ps.map fun q => (q, g q)) = some (g p)
  | [], h => by cases h
  | q :: ps, h => by
    rw [List.map_cons, lk]
    by_cases e : p = q
    · subst e
      simp
    · rw [if_neg e]
      exact lookup_mapK g ((List.mem_cons.mp h).resolve_left e)
theorem kD_len {l : List (κ × β)} : (kD l).length = l.length := by simp [kD]
theorem vD_len {l : List (κ × β)} : (vD f l).length = l.length := by simp [vD]
theorem kD_snoc {l : List (κ × β)} {p : κ} {b : β} : kD (l ++ [(p, b)]) = kD l ++ [enc p] := by simp [kD]
theorem vD_snoc {l : List (κ × β)} {p : κ} {b : β} : vD f (l ++ [(p, b)]) = vD f l ++ [f b] := by simp [vD]
theorem dput_new {p : κ} {l : List (κ × β)} {b : β} (h : p ∉ l.map (·.1)) : dput (Ky.key p) (enc p) (f b) (kD l) (vD f l) = (kD (l ++ [(p, b)]), vD f (l ++ [(p, b)])) := by
  unfold dput
  rw [dget_ky, lookup_out h, kD_snoc, vD_snoc]
  rfl
theorem d_in {p : κ} {l : List (κ × β)} : (evCmp .isin (enc p) (.dic (kD l) (vD f l)) s).W Q = Q (.bl (isin p (l.map (·.1)))) s := by
  show Res.W (match (keyT (enc p)).map fun k => (dget k (kD l) (vD f l)).isSome with | some r => .ok (.bl r) s | none => .stuck) Q = _
  rw [Ky.keyT]
  simp only [Option.map_some, dget_ky, Option.isSome_map, lookup_isSome]
  rfl
theorem d_notin {p : κ} {l : List (κ × β)} : (evCmp .notin (enc p) (.dic (kD l) (vD f l)) s).W Q = Q (.bl (!isin p (l.map (·.1)))) s := by
  show Res.W (match (keyT (enc p)).map fun k => (dget k (kD l) (vD f l)).isSome with | some r => .ok (.bl (!r)) s | none => .stuck) Q = _
  rw [Ky.keyT]
  simp only [Option.map_some, dget_ky, Option.isSome_map, lookup_isSome]
  rfl
def wInC (o : Option Cl) (neg : Bool) (d : D) (s : S) (Q : VQ) : Prop := match o with
  | some (.lst _ ds) => (evCmp (if neg then .notin else .isin) d (.lst ds) s).W Q
  | some (.dic _ ks vs) => (evCmp (if neg then .notin else .isin) d (.dic ks vs) s).W Q
  | none => False
theorem in_ref {n : Nat} {d : D} : (evCmp .isin d (.ref n) s).W Q = wInC (s.get n) false d s Q := by
  have e : evCmp .isin d (.ref n) s = match s.isIn d (.ref n) with | some r => .ok (.bl r) s | none => .stuck := rfl
  rw [e]
  unfold S.isIn
  simp only
  cases h : s.get n with
  | none => rfl
  | some c => cases c <;> rfl
theorem notin_ref {n : Nat} {d : D} : (evCmp .notin d (.ref n) s).W Q = wInC (s.get n) true d s Q := by
  have e : evCmp .notin d (.ref n) s = match s.isIn d (.ref n) with | some r => .ok (.bl (!r)) s | none => .stuck := rfl
  rw [e]
  unfold S.isIn
  simp only
  cases h : s.get n with
  | none => rfl
  | some c => cases c <;> rfl
theorem inC_lst {b : Bool} {ds : List D} {d : D} : wInC (some (.lst b ds)) false d s Q = (evCmp .isin d (.lst ds) s).W Q := rfl
theorem inC_dic {b : Bool} {ks vs : List D} {d : D} : wInC (some (.dic b ks vs)) false d s Q = (evCmp .isin d (.dic ks vs) s).W Q := rfl
theorem inC_lstn {b : Bool} {ds : List D} {d : D} : wInC (some (.lst b ds)) true d s Q = (evCmp .notin d (.lst ds) s).W Q := rfl
theorem inC_dicn {b : Bool} {ks vs : List D} {d : D} : wInC (some (.dic b ks vs)) true d s Q = (evCmp .notin d (.dic ks vs) s).W Q := rfl
theorem d_ix {p : κ} {l : List (κ × β)} : (evIx (.dic (kD l) (vD f l)) (enc p) s).W Q = wAt (lk p l) f s Q := by
  rw [x_dic (Ky.keyT p), dget_ky]
  cases lk p l <;> rfl
def wSetD (o : Option Cl) (n : Nat) (k : D) (v : D) (s : S) (P : S → S → Prop) : Prop := match o with
  | some (.dic false ks vs) => match keyT k with
    | some q => ks.length < 16777216 ∧ P (s.put n (.dic false (dput q k v ks vs).1 (dput q k v ks vs).2)) s
    | none => False
  | some (.lst false ds) => match k with
    | .int i => wSome ((L2.ixN ds.length i).map fun j => s.put n (.lst false (ds.set j v))) s P
    | _ => False
  | _ => False
theorem set_ref {n : Nat} {k v : D} {P : S → S → Prop} : wSome (setIx (.ref n) k v s) s P = wSetD (s.get n) n k v s P := by
  cases h : s.get n with
  | none => cases k <;> simp only [setIx, h] <;> rfl
  | some c => cases c with
    | lst b ds => cases b <;> cases k <;> simp only [setIx, h] <;> rfl
    | dic b ks vs =>
      cases b with
      | true => cases k <;> simp only [setIx, h] <;> rfl
      | false =>
        have e : setIx (.ref n) k v s = match keyT k with | some q => (if ks.length < sizeLine then some (s.put n (.dic false (dput q k v ks vs).1 (dput q k v ks vs).2)) else none) | none => none := by
          cases k <;> simp only [setIx, h] <;> rfl
        rw [e]
        show _ = (match keyT k with | some q => ks.length < 16777216 ∧ P (s.put n (.dic false (dput q k v ks vs).1 (dput q k v ks vs).2)) s | none => False)
        cases keyT k with
        | none => rfl
        | some q =>
          show wSome (if ks.length < sizeLine then some _ else none) s P = _
          rw [PySem.sizeLine_eq]
          by_cases h2 : ks.length < 16777216
          · rw [if_pos h2]
            simp only [h2, true_and]
            rfl
          · rw [if_neg h2]
            simp only [h2, false_and]
            rfl
theorem set_new {n : Nat} {p : κ} {b : β} {l : List (κ × β)} {P : S → S → Prop} (h : p ∉ l.map (·.1)) (hl : l.length < 16777216) (q : P (s.put n (.dic false (kD (l ++ [(p, b)])) (vD f (l ++ [(p, b)])))) s) : wSetD (some (.dic false (kD l) (vD f l))) n (enc p) (f b) s P := by
  show (match keyT (enc p) with | some q => _ | none => False)
  rw [Ky.keyT]
  refine ⟨by rw [kD_len]; exact hl, ?_⟩
  rw [dput_new h]
  exact q
theorem set_l0 {n : Nat} {a b v : D} {P : S → S → Prop} : wSetD (some (.lst false [a, b])) n (.int 0) v s P = P (s.put n (.lst false [v, b])) s := rfl
theorem set_l1 {n : Nat} {a b v : D} {P : S → S → Prop} : wSetD (some (.lst false [a, b])) n (.int 1) v s P = P (s.put n (.lst false [a, v])) s := rfl
theorem walk_kD {l : List (κ × β)} {vs : List D} : s.walk (.dic (kD l) vs) = some ((l.map (·.1)).map enc) := rfl
theorem sort_kD [Sh κ] [TupE κ] {l : List (κ × β)} {vs : List D} : (evBi .sorted [.dic (kD l) vs] s).W Q = Q (.lst (((l.map (·.1)).mergeSort leE).map enc)) s := v_sortK
theorem kD_nil : kD ([] : List (κ × β)) = [] := rfl
theorem vD_nil : vD f ([] : List (κ × β)) = [] := rfl
theorem kD_low {m : Nat} {l : List (κ × β)} : belows m (kD l) = true := lows_map m _
theorem vD_low {m : Nat} (hf : ∀ b, below m (f b) = true) : ∀ {l : List (κ × β)}, belows m (vD f l) = true
  | [] => rfl
  | q :: l => by
    show (below m (f q.2) && belows m (vD f l)) = true
    rw [hf, vD_low hf]
    rfl
theorem dic_low {m : Nat} {l : List (κ × β)} (hf : ∀ b, below m (f b) = true) : below m (.dic (kD l) (vD f l)) = true := by
  show (belows m (kD l) && belows m (vD f l)) = true
  rw [kD_low, vD_low hf]
  rfl
theorem dicC_low {m : Nat} {l : List (κ × β)} {z : Bool} (hf : ∀ b, below m (f b) = true) : belowC m (.dic z (kD l) (vD f l)) = true := dic_low hf
variable {α : Type} {e : α → D}
theorem W_dmap {g : D → S → Res (Option (D × D))} {P : List D × List D → S → Prop} {xs : List α} (k : α → κ) (v : α → β) (f : β → D) (hn : (xs.map k).Nodup) (h : ∀ x ∈ xs, (g (e x) s).W (isQ (some (enc (k x), f (v x))) s))
    (q : P (kD (xs.map fun x => (k x, v x)), vD f (xs.map fun x => (k x, v x))) s) : (loopK g (xs.map e) [] [] s).W P := by
  have key : ∀ (post pre : List α), xs = pre ++ post → (∀ x ∈ xs, g (e x) s = .ok (some (enc (k x), f (v x))) s) → loopK g (post.map e) (kD (pre.map fun x => (k x, v x))) (vD f (pre.map fun x => (k x, v x))) s = .ok (kD (xs.map fun x => (k x, v x)), vD f (xs.map fun x => (k x, v x))) s := by
    intro post
    induction post with
    | nil => intro pre hx _; rw [List.append_nil] at hx; subst hx; rfl
    | cons x post ih =>
      intro pre hx hg
      rw [List.map_cons, loopK, hg x (by rw [hx]; simp)]
      simp only
      rw [Ky.keyT]
      simp only
      have hp : k x ∉ (pre.map fun x => (k x, v x)).map (·.1) := by
        rw [hx, List.map_append, List.nodup_append] at hn
        intro hm
        rw [List.map_map] at hm
        exact hn.2.2 (k x) hm (k x) (by simp) rfl
      rw [dput_new hp]
      have e2 : (pre.map fun x => (k x, v x)) ++ [(k x, v x)] = (pre ++ [x]).map fun x => (k x, v x) := by simp
      rw [e2]
      exact ih (pre ++ [x]) (by rw [hx]; simp) hg
  exact Res.W.of (key xs [] rfl fun x hx => (h x hx).eq) q
/-- with a test -/
theorem W_dfilter {g : D → S → Res (Option (D × D))} {P : List D × List D → S → Prop} {xs : List α} (p : α → Bool) (k : α → κ) (v : α → β) (f : β → D) (hn : (xs.map k).Nodup) (h : ∀ x ∈ xs, (g (e x) s).W (isQ (if p x = true then some (enc (k x), f (v x)) else none) s))
    (q : P (kD ((xs.filter p).map fun x => (k x, v x)), vD f ((xs.filter p).map fun x => (k x, v x))) s) : (loopK g (xs.map e) [] [] s).W P := by
  have key : ∀ (post pre : List α), xs = pre ++ post → (∀ x ∈ xs, g (e x) s = .ok (if p x = true then some (enc (k x), f (v x)) else none) s) → loopK g (post.map e) (kD ((pre.filter p).map fun x => (k x, v x))) (vD f ((pre.filter p).map fun x => (k x, v x))) s = .ok (kD ((xs.filter p).map fun x => (k x, v x)), vD f ((xs.filter p).map fun x => (k x, v x))) s := by
    intro post
    induction post with
    | nil => intro pre hx _; rw [List.append_nil] at hx; subst hx; rfl
    | cons x post ih =>
      intro pre hx hg
      rw [List.map_cons, loopK, hg x (by rw [hx]; simp)]
      have ih := ih (pre ++ [x]) (by rw [hx]; simp) hg
      rw [List.filter_append, List.filter_cons] at ih
      by_cases hpx : p x = true
      · rw [if_pos hpx] at ih ⊢
        simp only
        rw [Ky.keyT]
        simp only
        have hp : k x ∉ ((pre.filter p).map fun x => (k x, v x)).map (·.1) := by
          rw [hx, List.map_append, List.nodup_append] at hn
          intro hm
          rw [List.map_map] at hm
          obtain ⟨z, hz, ez⟩ := List.mem_map.mp hm
          exact hn.2.2 (k z) (List.mem_map.mpr ⟨z, (List.mem_filter.mp hz).1, rfl⟩) (k x) (by simp) ez
        rw [dput_new hp]
        simpa using ih
      · rw [if_neg hpx] at ih ⊢
        simpa using ih
  exact Res.W.of (key xs [] rfl fun x hx => (h x hx).eq) q
theorem brK_if {c : Cc} {τ : Tau} {p q : Bool} {ke ve : ME} {x y : D} (hp : p = q) (k : q = true → (evE c ke τ s).W (kTK2 c τ ve (isQ (some (x, y)) s))) : brK c τ p ke ve s (isQ (if q = true then some (x, y) else none) s) := by
  subst hp
  cases p with
  | true => exact k rfl
  | false => exact ⟨rfl, rfl⟩
end
/-- dicts -/
theorem wK :
    (∀ {κ β : Type} [DecidableEq κ] [En κ] [Ky κ] {f : β → D} {s Q} {p : κ} {l : List (κ × β)}, (evCmp .isin (enc p) (.dic (kD l) (vD f l)) s).W Q = Q (.bl (isin p (l.map (·.1)))) s) ∧
    (∀ {κ β : Type} [DecidableEq κ] [En κ] [Ky κ] {f : β → D} {s Q} {p : κ} {l : List (κ × β)}, (evCmp .notin (enc p) (.dic (kD l) (vD f l)) s).W Q = Q (.bl (!isin p (l.map (·.1)))) s) ∧
    (∀ {s Q} {n : Nat} {d : D}, (evCmp .isin d (.ref n) s).W Q = wInC (s.get n) false d s Q) ∧ (∀ {s Q} {n : Nat} {d : D}, (evCmp .notin d (.ref n) s).W Q = wInC (s.get n) true d s Q) ∧
    (∀ {s Q} {b : Bool} {ds : List D} {d : D}, wInC (some (.lst b ds)) false d s Q = (evCmp .isin d (.lst ds) s).W Q) ∧ (∀ {s Q} {b : Bool} {ks vs : List D} {d : D}, wInC (some (.dic b ks vs)) false d s Q = (evCmp .isin d (.dic ks vs) s).W Q) ∧
    (∀ {s Q} {b : Bool} {ds : List D} {d : D}, wInC (some (.lst b ds)) true d s Q = (evCmp .notin d (.lst ds) s).W Q) ∧ (∀ {s Q} {b : Bool} {ks vs : List D} {d : D}, wInC (some (.dic b ks vs)) true d s Q = (evCmp .notin d (.dic ks vs) s).W Q) ∧
    (∀ {κ β : Type} [DecidableEq κ] [En κ] [Ky κ] {f : β → D} {s Q} {p : κ} {l : List (κ × β)}, (evIx (.dic (kD l) (vD f l)) (enc p) s).W Q = wAt (lk p l) f s Q) ∧
    (∀ {s} {n : Nat} {k v : D} {P : S → S → Prop}, wSome (setIx (.ref n) k v s) s P = wSetD (s.get n) n k v s P) ∧
    (∀ {s} {n : Nat} {a b v : D} {P : S → S → Prop}, wSetD (some (.lst false [a, b])) n (.int 0) v s P = P (s.put n (.lst false [v, b])) s) ∧ (∀ {s} {n : Nat} {a b v : D} {P : S → S → Prop}, wSetD (some (.lst false [a, b])) n (.int 1) v s P = P (s.put n (.lst false [a, v])) s) ∧
    (∀ {κ β : Type} [DecidableEq κ] [En κ] [Ky κ] {s : S} {l : List (κ × β)} {vs : List D}, s.walk (.dic (kD l) vs) = some ((l.map (·.1)).map enc)) ∧
    (∀ {κ β : Type} [DecidableEq κ] [En κ] [Ky κ] [Sh κ] [TupE κ] {s Q} {l : List (κ × β)} {vs : List D}, (evBi .sorted [.dic (kD l) vs] s).W Q = Q (.lst (((l.map (·.1)).mergeSort leE).map enc)) s) ∧
    (∀ {α : Type} {d : α} {f : α → D} {s Q}, wAt (some d) f s Q = Q (f d) s) ∧ (∀ {d : D}, id d = d) :=
  ⟨d_in, d_notin, in_ref, notin_ref, inC_lst, inC_dic, inC_lstn, inC_dicn, d_ix, set_ref, set_l0, set_l1, walk_kD, sort_kD, w_at, rfl⟩
end Mi
set_option Elab.async false
set_option linter.all false
set_option maxRecDepth 100000
/-! Tabk86: the defs of k86 in the small language (printed by genlaw.py). -/
namespace Mi.L86
open PySem
/-- is_list(value) -/
def b_is_list : MSs := (.cons (.ret (.isi (.slot 0) [.lst, .tup])) .nil)
/-- is_integer(value) -/
def b_is_integer : MSs := (.cons (.ret (.and (.isi (.slot 0) [.int]) (.no (.isi (.slot 0) [.bl])))) .nil)
/-- is_count(value) -/
def b_is_count : MSs := (.cons (.ret (.and (.call 2 (.cons (.slot 0) .nil)) (.cmp .ge (.slot 0) (.cst (.int 0))))) .nil)
/-- is_position(value, many) -/
def b_is_position : MSs := (.cons (.ret (.and (.call 2 (.cons (.slot 0) .nil)) (.chain .le .lt (.cst (.int 0)) (.slot 0) (.slot 1)))) .nil)
/-- is_least(row, other, one, its) -/
def b_is_least : MSs := (.cons (.ret (.bi .all (.cons (.comp false (.tp (.cons (.nm 2) (.cons (.nm 3) .nil))) (.zip2 (.slot 0) (.slot 1)) .no (.cmp .ge (.slot 2) (.slot 3)) [2, 3]) .nil))) .nil)
/-- outcome_is_right(standings, wants, value, more, want) -/
def b_outcome_is_right : MSs := (.cons (.ifs (.or (.no (.isi (.slot 2) [.tup])) (.or (.cmp .ne (.bi .len (.cons (.slot 2) .nil)) (.cst (.int 2))) (.no (.call 4 (.cons (.ix (.slot 2) (.cst (.int 0))) (.cons (.slot 0) .nil)))))) (.cons (.ret (.cst (.bl false))) .nil) .nil) (.cons (.ifs (.or (.no (.isi (.ix (.slot 2) (.cst (.int 1))) [.tup])) (.cmp .ne (.bi .len (.cons (.ix (.slot 2) (.cst (.int 1))) .nil)) (.bi .len (.cons (.slot 1) .nil)))) (.cons (.ret (.cst (.bl false))) .nil) .nil) (.cons (.ifs (.no (.bi .all (.cons (.comp false (.nm 3) (.it (.ix (.slot 2) (.cst (.int 1)))) .no (.and (.call 2 (.cons (.slot 3) .nil)) (.cmp .le (.bi .abs (.cons (.slot 3) .nil)) (.cst (.int 9)))) [3]) .nil))) (.cons (.ret (.cst (.bl false))) .nil) .nil) (.cons (.ret (.bi .all (.cons (.comp false (.tp (.cons (.nm 4) (.cons (.nm 3) .nil))) (.zip2 (.slot 1) (.ix (.slot 2) (.cst (.int 1)))) .no (.cmp .ge (.bin .add (.slot 4) (.slot 3)) (.cst (.int 0))) [4, 3]) .nil))) .nil))))
/-- wants_are_right(stocks, value, one) -/
def b_wants_are_right : MSs := (.cons (.ifs (.or (.no (.isi (.slot 1) [.tup])) (.cmp .ne (.bi .len (.cons (.slot 1) .nil)) (.slot 0))) (.cons (.ret (.cst (.bl false))) .nil) .nil) (.cons (.ret (.bi .all (.cons (.comp false (.nm 2) (.it (.slot 1)) .no (.and (.call 3 (.cons (.slot 2) .nil)) (.cmp .le (.slot 2) (.cst (.int 9)))) [2]) .nil))) .nil))
/-- step_is_right(standings, stocks, value, one) -/
def b_step_is_right : MSs := (.cons (.ifs (.or (.no (.isi (.slot 2) [.tup])) (.or (.cmp .ne (.bi .len (.cons (.slot 2) .nil)) (.cst (.int 4))) (.or (.no (.isi (.ix (.slot 2) (.cst (.int 0))) [.str])) (.cmp .ne (.ix (.slot 2) (.cst (.int 0))) (.cst (.str "step")))))) (.cons (.ret (.cst (.bl false))) .nil) .nil) (.cons (.ifs (.or (.no (.call 4 (.cons (.ix (.slot 2) (.cst (.int 1))) (.cons (.slot 0) .nil)))) (.no (.call 7 (.cons (.slot 1) (.cons (.ix (.slot 2) (.cst (.int 2))) .nil))))) (.cons (.ret (.cst (.bl false))) .nil) .nil) (.cons (.ifs (.or (.no (.isi (.ix (.slot 2) (.cst (.int 3))) [.tup])) (.no (.chain .le .le (.cst (.int 1)) (.bi .len (.cons (.ix (.slot 2) (.cst (.int 3))) .nil)) (.cst (.int 3))))) (.cons (.ret (.cst (.bl false))) .nil) .nil) (.cons (.ret (.bi .all (.cons (.comp false (.nm 3) (.it (.ix (.slot 2) (.cst (.int 3)))) .no (.call 6 (.cons (.slot 0) (.cons (.ix (.slot 2) (.cst (.int 2))) (.cons (.slot 3) .nil)))) [3]) .nil))) .nil))))
/-- weather_is_right(value, step) -/
def b_weather_is_right : MSs := (.cons (.ifs (.or (.no (.isi (.slot 0) [.tup])) (.or (.cmp .ne (.bi .len (.cons (.slot 0) .nil)) (.cst (.int 4))) (.or (.no (.isi (.ix (.slot 0) (.cst (.int 0))) [.str])) (.cmp .ne (.ix (.slot 0) (.cst (.int 0))) (.cst (.str "weather")))))) (.cons (.ret (.cst (.bl false))) .nil) .nil) (.cons (.ifs (.or (.no (.call 2 (.cons (.ix (.slot 0) (.cst (.int 1))) .nil))) (.no (.chain .le .le (.cst (.int 1)) (.ix (.slot 0) (.cst (.int 1))) (.cst (.int 6))))) (.cons (.ret (.cst (.bl false))) .nil) .nil) (.cons (.ifs (.or (.no (.call 2 (.cons (.ix (.slot 0) (.cst (.int 2))) .nil))) (.no (.chain .le .le (.cst (.int 1)) (.ix (.slot 0) (.cst (.int 2))) (.cst (.int 3))))) (.cons (.ret (.cst (.bl false))) .nil) .nil) (.cons (.ifs (.or (.no (.isi (.ix (.slot 0) (.cst (.int 3))) [.tup])) (.cmp .gt (.bi .len (.cons (.ix (.slot 0) (.cst (.int 3))) .nil)) (.cst (.int 8)))) (.cons (.ret (.cst (.bl false))) .nil) .nil) (.cons (.ret (.bi .all (.cons (.comp false (.nm 1) (.it (.ix (.slot 0) (.cst (.int 3)))) .no (.call 8 (.cons (.ix (.slot 0) (.cst (.int 1))) (.cons (.ix (.slot 0) (.cst (.int 2))) (.cons (.slot 1) .nil)))) [1]) .nil))) .nil)))))
/-- place_within(weather, caps, value, number, cap) -/
def b_place_within : MSs := (.cons (.ifs (.or (.no (.isi (.slot 2) [.tup])) (.or (.cmp .ne (.bi .len (.cons (.slot 2) .nil)) (.cst (.int 2))) (.no (.call 4 (.cons (.ix (.slot 2) (.cst (.int 0))) (.cons (.ix (.slot 0) (.cst (.int 1))) .nil)))))) (.cons (.ret (.cst (.bl false))) .nil) .nil) (.cons (.ifs (.or (.no (.isi (.ix (.slot 2) (.cst (.int 1))) [.tup])) (.cmp .ne (.bi .len (.cons (.ix (.slot 2) (.cst (.int 1))) .nil)) (.bi .len (.cons (.slot 1) .nil)))) (.cons (.ret (.cst (.bl false))) .nil) .nil) (.cons (.ret (.bi .all (.cons (.comp false (.tp (.cons (.nm 3) (.cons (.nm 4) .nil))) (.zip2 (.ix (.slot 2) (.cst (.int 1))) (.slot 1)) .no (.and (.call 3 (.cons (.slot 3) .nil)) (.cmp .le (.slot 3) (.slot 4))) [3, 4]) .nil))) .nil)))
/-- check_weather(weather) -/
def b_check_weather : MSs := (.cons (.ifs (.no (.call 9 (.cons (.slot 0) .nil))) (.cons .never .nil) .nil) .nil)
/-- check_capped(weather, caps) -/
def b_check_capped : MSs := (.cons (.ex (.call 11 (.cons (.slot 0) .nil))) (.cons (.ifs (.no (.call 7 (.cons (.ix (.slot 0) (.cst (.int 2))) (.cons (.slot 1) .nil)))) (.cons .never .nil) .nil) .nil))
/-- check_here(weather, caps, here) -/
def b_check_here : MSs := (.cons (.ex (.call 12 (.cons (.slot 0) (.cons (.slot 1) .nil)))) (.cons (.ifs (.no (.call 10 (.cons (.slot 0) (.cons (.slot 1) (.cons (.slot 2) .nil))))) (.cons .never .nil) .nil) .nil))
/-- check_few(weather, caps, many, cap) -/
def b_check_few : MSs := (.cons (.set 2 (.ix (.slot 0) (.cst (.int 1)))) (.cons (.fors (.nm 3) (.it (.slot 1)) (.cons (.set 2 (.bin .mul (.slot 2) (.bin .add (.slot 3) (.cst (.int 1))))) .nil)) (.cons (.ifs (.cmp .gt (.slot 2) (.cst (.int 600))) (.cons .never .nil) .nil) .nil)))
/-- all_places(weather, caps, rows, cap, longer, row, found, standing, number) -/
def b_all_places : MSs := (.cons (.set 2 (.lst (.cons (.tup .nil) .nil))) (.cons (.fors (.nm 3) (.it (.slot 1)) (.cons (.set 4 (.cell .nil)) (.cons (.fors (.nm 5) (.it (.slot 2)) (.cons (.ex (.mt .extend (.slot 4) (.cons (.comp false (.nm 8) (.rng (.bin .add (.slot 3) (.cst (.int 1)))) .no (.bin .add (.slot 5) (.tup (.cons (.slot 8) .nil))) [8]) .nil))) .nil)) (.cons (.gfrz 4) (.cons (.set 2 (.frz (.slot 4))) .nil))))) (.cons (.set 6 (.cell .nil)) (.cons (.fors (.nm 7) (.rng (.ix (.slot 0) (.cst (.int 1)))) (.cons (.ex (.mt .extend (.slot 6) (.cons (.comp false (.nm 5) (.it (.slot 2)) .no (.tup (.cons (.slot 7) (.cons (.slot 5) .nil))) [5]) .nil))) .nil)) (.cons (.ret (.frz (.slot 6))) .nil)))))
/-- is_let_here(weather, here, step) -/
def b_is_let_here : MSs := (.cons (.ret (.and (.cmp .eq (.ix (.ix (.ix (.slot 0) (.cst (.int 3))) (.slot 2)) (.cst (.int 1))) (.ix (.slot 1) (.cst (.int 0)))) (.call 5 (.cons (.ix (.slot 1) (.cst (.int 1))) (.cons (.ix (.ix (.ix (.slot 0) (.cst (.int 3))) (.slot 2)) (.cst (.int 2))) .nil))))) .nil)
/-- let_here(weather, here, step) -/
def b_let_here : MSs := (.cons (.ret (.comp false (.nm 2) (.rng (.bi .len (.cons (.ix (.slot 0) (.cst (.int 3))) .nil))) (.so (.call 16 (.cons (.slot 0) (.cons (.slot 1) (.cons (.slot 2) .nil))))) (.slot 2) [2])) .nil)
/-- outcomes_at(weather, caps, here, step, found, goal, effects, row, cap, number, more) -/
def b_outcomes_at : MSs := (.cons (.set 4 (.cell .nil)) (.cons (.fors (.tp (.cons (.nm 5) (.cons (.nm 6) .nil))) (.it (.ix (.ix (.ix (.slot 0) (.cst (.int 3))) (.slot 3)) (.cst (.int 3)))) (.cons (.set 7 (.comp false (.tp (.cons (.nm 8) (.cons (.nm 9) (.cons (.nm 10) .nil)))) (.zip3 (.slot 1) (.ix (.slot 2) (.cst (.int 1))) (.slot 6)) .no (.bi .min2 (.cons (.slot 8) (.cons (.bin .add (.slot 9) (.slot 10)) .nil))) [8, 9, 10])) (.cons (.ex (.mt .append (.slot 4) (.cons (.tup (.cons (.slot 5) (.cons (.bi .tuple (.cons (.slot 7) .nil)) .nil))) .nil))) .nil))) (.cons (.ret (.frz (.slot 4))) .nil)))
/-- board_of(weather, caps, found, here, step) -/
def b_board_of : MSs := (.cons (.set 2 .dic0) (.cons (.fors (.nm 3) (.it (.frz (.call 15 (.cons (.slot 0) (.cons (.slot 1) .nil))))) (.cons (.asg (.sub (.slot 2) (.slot 3)) (.comp false (.nm 4) (.it (.frz (.call 17 (.cons (.slot 0) (.cons (.slot 3) .nil))))) .no (.tup (.cons (.slot 4) (.cons (.call 18 (.cons (.slot 0) (.cons (.slot 1) (.cons (.slot 3) (.cons (.slot 4) .nil))))) .nil))) [4])) .nil)) (.cons (.ret (.frz (.slot 2))) .nil)))
/-- is_some_in(goals, found, goal) -/
def b_is_some_in : MSs := (.cons (.ret (.bi .any (.cons (.comp false (.nm 2) (.it (.slot 0)) .no (.cmp .isin (.slot 2) (.slot 1)) [2]) .nil))) .nil)
/-- are_all_in(goals, found, goal) -/
def b_are_all_in : MSs := (.cons (.ret (.bi .all (.cons (.comp false (.nm 2) (.it (.slot 0)) .no (.cmp .isin (.slot 2) (.slot 1)) [2]) .nil))) .nil)
/-- is_rising(value, one, other) -/
def b_is_rising : MSs := (.cons (.ret (.bi .all (.cons (.comp false (.tp (.cons (.nm 1) (.cons (.nm 2) .nil))) (.zip2 (.slot 0) (.sl (.slot 0) (.so (.cst (.int 1))) .no)) .no (.cmp .lt (.ix (.slot 1) (.cst (.int 0))) (.ix (.slot 2) (.cst (.int 0)))) [1, 2]) .nil))) .nil)
/-- are_entries(weather, caps, value, width, one) -/
def b_are_entries : MSs := (.cons (.ifs (.or (.no (.call 1 (.cons (.slot 2) .nil))) (.no (.bi .all (.cons (.comp false (.nm 4) (.it (.slot 2)) .no (.and (.isi (.slot 4) [.tup]) (.cmp .eq (.bi .len (.cons (.slot 4) .nil)) (.slot 3))) [4]) .nil)))) (.cons (.ret (.cst (.bl false))) .nil) .nil) (.cons (.ret (.and (.bi .all (.cons (.comp false (.nm 4) (.it (.slot 2)) .no (.call 10 (.cons (.slot 0) (.cons (.slot 1) (.cons (.ix (.slot 4) (.cst (.int 0))) .nil)))) [4]) .nil)) (.call 25 (.cons (.slot 2) .nil)))) .nil))
/-- check_goal(weather, caps, goal) -/
def b_check_goal : MSs := (.cons (.ifs (.no (.call 10 (.cons (.slot 0) (.cons (.slot 1) (.cons (.slot 2) .nil))))) (.cons .never .nil) .nil) .nil)
/-- check_aimed(weather, caps, goal) -/
def b_check_aimed : MSs := (.cons (.ex (.call 12 (.cons (.slot 0) (.cons (.slot 1) .nil)))) (.cons (.ex (.call 66 (.cons (.slot 0) (.cons (.slot 1) (.cons (.slot 2) .nil))))) (.cons (.ex (.call 13 (.cons (.slot 0) (.cons (.slot 1) .nil)))) .nil)))
/-- is_at_goal(here, goal) -/
def b_is_at_goal : MSs := (.cons (.ret (.and (.cmp .eq (.ix (.slot 0) (.cst (.int 0))) (.ix (.slot 1) (.cst (.int 0)))) (.call 5 (.cons (.ix (.slot 0) (.cst (.int 1))) (.cons (.ix (.slot 1) (.cst (.int 1))) .nil))))) .nil)
/-- sure_in(board, goal, found, number, some, here, step, steps) -/
def b_sure_in : MSs := (.cons (.asg (.tp (.cons (.nm 2) (.cons (.nm 3) .nil))) (.tup (.cons (.dcomp true (.nm 5) (.it (.slot 0)) (.so (.call 68 (.cons (.slot 5) (.cons (.slot 1) .nil)))) (.slot 5) (.tup (.cons (.cst (.int 0)) (.cons (.cst .non) .nil))) [5]) (.cons (.cst (.int 1)) .nil)))) (.cons (.whl (.cst (.bl true)) (.cons (.set 4 (.comp false (.nm 5) (.it (.slot 0)) (.so (.cmp .notin (.slot 5) (.slot 2))) (.tup (.cons (.slot 5) (.cons (.call 70 (.cons (.slot 0) (.cons (.slot 2) (.cons (.slot 5) .nil)))) .nil))) [5])) (.cons (.set 4 (.comp false (.tp (.cons (.nm 5) (.cons (.nm 7) .nil))) (.it (.slot 4)) (.so (.cmp .ne (.slot 7) (.lst .nil))) (.tup (.cons (.slot 5) (.cons (.ix (.slot 7) (.cst (.int 0))) .nil))) [5, 7])) (.cons (.ifs (.cmp .eq (.slot 4) (.lst .nil)) (.cons (.ret (.frz (.slot 2))) .nil) .nil) (.cons (.fors (.tp (.cons (.nm 5) (.cons (.nm 6) .nil))) (.it (.slot 4)) (.cons (.asg (.sub (.slot 2) (.slot 5)) (.tup (.cons (.slot 3) (.cons (.slot 6) .nil)))) .nil)) (.cons (.aug 3 .add (.cst (.int 1))) .nil)))))) .nil))
/-- sure_steps(board, found, here, step, goals) -/
def b_sure_steps : MSs := (.cons (.ret (.comp false (.tp (.cons (.nm 3) (.cons (.nm 4) .nil))) (.it (.ix (.slot 0) (.slot 2))) (.so (.call 22 (.cons (.slot 4) (.cons (.slot 1) .nil)))) (.slot 3) [3, 4])) .nil)
/-- sure_entry_is_right(weather, caps, goal, numbers, entry, here, number, step, goals, other) -/
def b_sure_entry_is_right : MSs := (.cons (.asg (.tp (.cons (.nm 5) (.cons (.nm 6) (.cons (.nm 7) .nil)))) (.slot 4)) (.cons (.ifs (.or (.call 68 (.cons (.slot 5) (.cons (.slot 2) .nil))) (.or (.cmp .is (.slot 7) (.cst .non)) (.cmp .eq (.slot 6) (.cst (.int 0))))) (.cons (.ret (.and (.call 68 (.cons (.slot 5) (.cons (.slot 2) .nil))) (.and (.cmp .is (.slot 7) (.cst .non)) (.cmp .eq (.slot 6) (.cst (.int 0)))))) .nil) .nil) (.cons (.ifs (.or (.no (.call 4 (.cons (.slot 7) (.cons (.bi .len (.cons (.ix (.slot 0) (.cst (.int 3))) .nil)) .nil)))) (.no (.call 16 (.cons (.slot 0) (.cons (.slot 5) (.cons (.slot 7) .nil)))))) (.cons (.ret (.cst (.bl false))) .nil) .nil) (.cons (.set 8 (.call 18 (.cons (.slot 0) (.cons (.slot 1) (.cons (.slot 5) (.cons (.slot 7) .nil)))))) (.cons (.ret (.bi .all (.cons (.comp false (.nm 9) (.it (.slot 8)) .no (.and (.cmp .isin (.slot 9) (.slot 3)) (.cmp .lt (.ix (.slot 3) (.slot 9)) (.slot 6))) [9]) .nil))) .nil)))))
/-- sure_table(weather, caps, goal, found, here) -/
def b_sure_table : MSs := (.cons (.ex (.call 67 (.cons (.slot 0) (.cons (.slot 1) (.cons (.slot 2) .nil))))) (.cons (.set 3 (.call 69 (.cons (.call 19 (.cons (.slot 0) (.cons (.slot 1) .nil))) (.cons (.slot 2) .nil)))) (.cons (.ret (.comp true (.nm 4) (.it (.bi .sorted (.cons (.slot 3) .nil))) .no (.bin .add (.tup (.cons (.slot 4) .nil)) (.ix (.slot 3) (.slot 4))) [4])) .nil)))
/-- is_sure_table(weather, caps, goal, value, numbers, one) -/
def b_is_sure_table : MSs := (.cons (.ex (.call 67 (.cons (.slot 0) (.cons (.slot 1) (.cons (.slot 2) .nil))))) (.cons (.ifs (.or (.no (.call 26 (.cons (.slot 0) (.cons (.slot 1) (.cons (.slot 3) (.cons (.cst (.int 3)) .nil)))))) (.no (.bi .all (.cons (.comp false (.nm 5) (.it (.slot 3)) .no (.call 3 (.cons (.ix (.slot 5) (.cst (.int 1))) .nil)) [5]) .nil)))) (.cons (.ret (.cst (.bl false))) .nil) .nil) (.cons (.set 4 (.dcomp false (.nm 5) (.it (.slot 3)) .no (.ix (.slot 5) (.cst (.int 0))) (.ix (.slot 5) (.cst (.int 1))) [5])) (.cons (.ret (.bi .all (.cons (.comp false (.nm 5) (.it (.slot 3)) .no (.call 71 (.cons (.slot 0) (.cons (.slot 1) (.cons (.slot 2) (.cons (.slot 4) (.cons (.slot 5) .nil)))))) [5]) .nil))) .nil))))
/-- dodge(weather, caps, goal, board, found, here) -/
def b_dodge : MSs := (.cons (.ex (.call 67 (.cons (.slot 0) (.cons (.slot 1) (.cons (.slot 2) .nil))))) (.cons (.set 3 (.call 19 (.cons (.slot 0) (.cons (.slot 1) .nil)))) (.cons (.set 4 (.call 69 (.cons (.slot 3) (.cons (.slot 2) .nil)))) (.cons (.ret (.comp true (.nm 5) (.it (.bi .sorted (.cons (.slot 3) .nil))) (.so (.cmp .notin (.slot 5) (.slot 4))) (.slot 5) [5])) .nil))))
/-- is_dodge(weather, caps, goal, value, here, step, one, other) -/
def b_is_dodge : MSs := (.cons (.ex (.call 67 (.cons (.slot 0) (.cons (.slot 1) (.cons (.slot 2) .nil))))) (.cons (.ifs (.or (.no (.call 1 (.cons (.slot 3) .nil))) (.no (.bi .all (.cons (.comp false (.nm 4) (.it (.slot 3)) .no (.call 10 (.cons (.slot 0) (.cons (.slot 1) (.cons (.slot 4) .nil)))) [4]) .nil)))) (.cons (.ret (.cst (.bl false))) .nil) .nil) (.cons (.ifs (.no (.bi .all (.cons (.comp false (.tp (.cons (.nm 6) (.cons (.nm 7) .nil))) (.zip2 (.slot 3) (.sl (.slot 3) (.so (.cst (.int 1))) .no)) .no (.cmp .lt (.slot 6) (.slot 7)) [6, 7]) .nil))) (.cons (.ret (.cst (.bl false))) .nil) .nil) (.cons (.fors (.nm 4) (.it (.slot 3)) (.cons (.ifs (.call 68 (.cons (.slot 4) (.cons (.slot 2) .nil))) (.cons (.ret (.cst (.bl false))) .nil) .nil) (.cons (.fors (.nm 5) (.it (.frz (.call 17 (.cons (.slot 0) (.cons (.slot 4) .nil))))) (.cons (.ifs (.no (.call 21 (.cons (.call 18 (.cons (.slot 0) (.cons (.slot 1) (.cons (.slot 4) (.cons (.slot 5) .nil))))) (.cons (.slot 3) .nil)))) (.cons (.ret (.cst (.bl false))) .nil) .nil) .nil)) .nil))) (.cons (.ret (.cst (.bl true))) .nil)))))
/-- years_to(weather, caps, here, goal, found) -/
def b_years_to : MSs := (.cons (.ex (.call 54 (.cons (.slot 0) (.cons (.slot 1) (.cons (.slot 2) .nil))))) (.cons (.ex (.call 66 (.cons (.slot 0) (.cons (.slot 1) (.cons (.slot 3) .nil))))) (.cons (.ex (.call 13 (.cons (.slot 0) (.cons (.slot 1) .nil)))) (.cons (.set 4 (.call 69 (.cons (.call 19 (.cons (.slot 0) (.cons (.slot 1) .nil))) (.cons (.slot 3) .nil)))) (.cons (.ret (.ife (.cmp .isin (.slot 2) (.slot 4)) (.ix (.ix (.slot 4) (.slot 2)) (.cst (.int 0))) (.cst .non))) .nil)))))
/-- _law_pot(script, k, cell) -/
def b__law_pot : MSs := (.cons (.set 2 (.ife (.cmp .lt (.slot 1) (.bi .len (.cons (.slot 0) .nil))) (.bi .abs (.cons (.ix (.slot 0) (.slot 1)) .nil)) (.bin .add (.bin .add (.bin .mul (.cst (.int 1783)) (.slot 1)) (.cst (.int 1103))) (.bin .mod (.bi .abs (.cons (.bi .sum (.cons (.sl (.slot 0) .no (.so (.cst (.int 1)))) .nil)) .nil)) (.cst (.int 1000003)))))) (.cons (.ret (.cell (.cons (.bi .max2 (.cons (.cst (.int 0)) (.cons (.bin .sub (.slot 2) (.bin .pow (.cst (.int 10)) (.cst (.int 18)))) .nil))) (.cons (.bin .add (.bin .mod (.bi .int (.cons (.bin .add (.bin .add (.bin .mul (.bin .mod (.bi .int (.cons (.slot 2) .nil)) (.cst (.int 2147483549))) (.cst (.int 40014))) (.bin .mul (.cst (.int 7019)) (.slot 1))) (.cst (.int 1103))) .nil)) (.cst (.int 2147483563))) (.cst (.int 1))) .nil)))) .nil))
/-- _law_draw(pot, many, digit) -/
def b__law_draw : MSs := (.cons (.ifs (.cmp .gt (.ix (.slot 0) (.cst (.int 0))) (.cst (.int 0))) (.cons (.asg (.tp (.cons (.sub (.slot 0) (.cst (.int 0))) (.cons (.nm 2) .nil))) (.bi .divmod (.cons (.ix (.slot 0) (.cst (.int 0))) (.cons (.slot 1) .nil)))) (.cons (.ret (.slot 2)) .nil)) .nil) (.cons (.asg (.sub (.slot 0) (.cst (.int 1))) (.bin .mod (.bi .int (.cons (.bin .add (.bin .mul (.ix (.slot 0) (.cst (.int 1))) (.cst (.int 39373))) (.cst (.int 1103))) .nil)) (.cst (.int 2147483587)))) (.cons (.ret (.bin .mod (.bi .int (.cons (.bin .fdiv (.bin .mod (.bi .int (.cons (.bin .mul (.ix (.slot 0) (.cst (.int 1))) (.ix (.slot 0) (.cst (.int 1)))) .nil)) (.cst (.int 2147483563))) (.cst (.int 19))) .nil)) (.slot 1))) .nil)))
/-- _law_pick(pot, some) -/
def b__law_pick : MSs := (.cons (.ret (.ix (.slot 1) (.call 38 (.cons (.slot 0) (.cons (.bi .len (.cons (.slot 1) .nil)) .nil))))) .nil)
/-- _law_outcome(pot, standings, wants, effects, want) -/
def b__law_outcome : MSs := (.cons (.set 3 (.cell .nil)) (.cons (.fors (.nm 4) (.it (.slot 2)) (.cons (.ex (.mt .append (.slot 3) (.cons (.call 39 (.cons (.slot 0) (.cons (.lst (.cons (.cst (.int 0)) (.cons (.cst (.int 1)) (.cons (.bin .sub (.cst (.int 0)) (.slot 4)) (.cons (.bin .sub (.call 38 (.cons (.slot 0) (.cons (.bin .add (.slot 4) (.cst (.int 4))) .nil))) (.slot 4)) .nil))))) .nil))) .nil))) .nil)) (.cons (.gfrz 3) (.cons (.ret (.tup (.cons (.call 38 (.cons (.slot 0) (.cons (.slot 1) .nil))) (.cons (.bi .tuple (.cons (.slot 3) .nil)) .nil)))) .nil))))
/-- _law_weather(pot, most_standings, most_stocks, most_steps, standings, stocks, steps, spin, wants, outcomes, stock, turn) -/
def b__law_weather : MSs := (.cons (.asg (.tp (.cons (.nm 4) (.cons (.nm 5) (.cons (.nm 6) .nil)))) (.tup (.cons (.bin .add (.cst (.int 1)) (.call 38 (.cons (.slot 0) (.cons (.slot 1) .nil)))) (.cons (.bin .add (.cst (.int 1)) (.call 38 (.cons (.slot 0) (.cons (.slot 2) .nil)))) (.cons (.cell .nil) .nil))))) (.cons (.fors (.nm 7) (.rng (.call 38 (.cons (.slot 0) (.cons (.bin .add (.slot 3) (.cst (.int 1))) .nil)))) (.cons (.set 8 (.bi .tuple (.cons (.comp false (.nm 10) (.rng (.slot 5)) .no (.call 39 (.cons (.slot 0) (.cons (.lst (.cons (.cst (.int 0)) (.cons (.cst (.int 0)) (.cons (.cst (.int 1)) (.cons (.call 38 (.cons (.slot 0) (.cons (.cst (.int 4)) .nil))) .nil))))) .nil))) [10]) .nil))) (.cons (.set 9 (.bi .tuple (.cons (.comp false (.nm 11) (.rng (.bin .add (.cst (.int 1)) (.call 38 (.cons (.slot 0) (.cons (.cst (.int 3)) .nil))))) .no (.call 40 (.cons (.slot 0) (.cons (.slot 4) (.cons (.slot 8) .nil)))) [11]) .nil))) (.cons (.ex (.mt .append (.slot 6) (.cons (.tup (.cons (.cst (.str "step")) (.cons (.call 38 (.cons (.slot 0) (.cons (.slot 4) .nil))) (.cons (.slot 8) (.cons (.slot 9) .nil))))) .nil))) .nil)))) (.cons (.gfrz 6) (.cons (.ret (.tup (.cons (.cst (.str "weather")) (.cons (.slot 4) (.cons (.slot 5) (.cons (.bi .tuple (.cons (.slot 6) .nil)) .nil)))))) .nil))))
/-- _law_caps(pot, weather, stock) -/
def b__law_caps : MSs := (.cons (.ret (.bi .tuple (.cons (.comp false (.nm 2) (.rng (.ix (.slot 1) (.cst (.int 2)))) .no (.call 38 (.cons (.slot 0) (.cons (.ix (.lst (.cons (.cst (.int 6)) (.cons (.cst (.int 5)) (.cons (.cst (.int 3)) .nil)))) (.bin .sub (.ix (.slot 1) (.cst (.int 2))) (.cst (.int 1)))) .nil))) [2]) .nil))) .nil)
/-- _law_places(weather, caps, rows, cap, longer, row, found, standing, number) -/
def b__law_places : MSs := (.cons (.set 2 (.lst (.cons (.tup .nil) .nil))) (.cons (.fors (.nm 3) (.it (.slot 1)) (.cons (.set 4 (.cell .nil)) (.cons (.fors (.nm 5) (.it (.slot 2)) (.cons (.ex (.mt .extend (.slot 4) (.cons (.comp false (.nm 8) (.rng (.bin .add (.slot 3) (.cst (.int 1)))) .no (.bin .add (.slot 5) (.tup (.cons (.slot 8) .nil))) [8]) .nil))) .nil)) (.cons (.gfrz 4) (.cons (.set 2 (.frz (.slot 4))) .nil))))) (.cons (.set 6 (.cell .nil)) (.cons (.fors (.nm 7) (.rng (.ix (.slot 0) (.cst (.int 1)))) (.cons (.ex (.mt .extend (.slot 6) (.cons (.comp false (.nm 5) (.it (.slot 2)) .no (.tup (.cons (.slot 7) (.cons (.slot 5) .nil))) [5]) .nil))) .nil)) (.cons (.ret (.frz (.slot 6))) .nil)))))
/-- _law_is_least(row, other, one, least) -/
def b__law_is_least : MSs := (.cons (.ret (.cmp .eq (.comp false (.tp (.cons (.nm 2) (.cons (.nm 3) .nil))) (.zip2 (.slot 0) (.slot 1)) (.so (.cmp .lt (.slot 2) (.slot 3))) (.slot 2) [2, 3]) (.lst .nil))) .nil)
/-- _law_let(weather, place, at, step) -/
def b__law_let : MSs := (.cons (.ret (.comp false (.tp (.cons (.nm 2) (.cons (.nm 3) .nil))) (.enu (.ix (.slot 0) (.cst (.int 3)))) (.so (.and (.cmp .eq (.ix (.slot 3) (.cst (.int 1))) (.ix (.slot 1) (.cst (.int 0)))) (.call 44 (.cons (.ix (.slot 1) (.cst (.int 1))) (.cons (.ix (.slot 3) (.cst (.int 2))) .nil))))) (.slot 2) [2, 3])) .nil)
/-- _law_comes_out(weather, caps, place, step, found, goal, effects, cap, one, more) -/
def b__law_comes_out : MSs := (.cons (.set 4 (.cell .nil)) (.cons (.fors (.tp (.cons (.nm 5) (.cons (.nm 6) .nil))) (.it (.ix (.ix (.ix (.slot 0) (.cst (.int 3))) (.slot 3)) (.cst (.int 3)))) (.cons (.ex (.mt .append (.slot 4) (.cons (.tup (.cons (.slot 5) (.cons (.bi .tuple (.cons (.comp false (.tp (.cons (.nm 7) (.cons (.nm 8) (.cons (.nm 9) .nil)))) (.zip3 (.slot 1) (.ix (.slot 2) (.cst (.int 1))) (.slot 6)) .no (.bi .min2 (.cons (.slot 7) (.cons (.bin .add (.slot 8) (.slot 9)) .nil))) [7, 8, 9]) .nil)) .nil))) .nil))) .nil)) (.cons (.ret (.frz (.slot 4))) .nil)))
/-- _law_is_at(goal, place) -/
def b__law_is_at : MSs := (.cons (.ret (.and (.cmp .eq (.ix (.slot 1) (.cst (.int 0))) (.ix (.slot 0) (.cst (.int 0)))) (.call 44 (.cons (.ix (.slot 1) (.cst (.int 1))) (.cons (.ix (.slot 0) (.cst (.int 1))) .nil))))) .nil)
/-- _law_sure(weather, caps, goal, places, found, number, own, later, place, fit, one, step) -/
def b__law_sure : MSs := (.cons (.set 3 (.call 43 (.cons (.slot 0) (.cons (.slot 1) .nil)))) (.cons (.set 4 (.comp false (.nm 8) (.it (.slot 3)) (.so (.call 77 (.cons (.slot 2) (.cons (.slot 8) .nil)))) (.tup (.cons (.slot 8) (.cons (.cst (.int 0)) (.cons (.cst .non) .nil)))) [8])) (.cons (.fors (.nm 5) (.rng2 (.cst (.int 1)) (.bin .add (.bi .len (.cons (.slot 3) .nil)) (.cst (.int 1)))) (.cons (.asg (.tp (.cons (.nm 6) (.cons (.nm 7) .nil))) (.tup (.cons (.comp false (.nm 10) (.it (.slot 4)) .no (.ix (.slot 10) (.cst (.int 0))) [10]) (.cons (.lst .nil) .nil)))) (.cons (.fors (.nm 8) (.it (.slot 3)) (.cons (.ifs (.cmp .notin (.slot 8) (.slot 6)) (.cons (.set 9 (.comp false (.nm 11) (.it (.frz (.call 45 (.cons (.slot 0) (.cons (.slot 8) .nil))))) (.so (.cmp .eq (.comp false (.nm 10) (.it (.frz (.call 46 (.cons (.slot 0) (.cons (.slot 1) (.cons (.slot 8) (.cons (.slot 11) .nil))))))) (.so (.cmp .notin (.slot 10) (.slot 6))) (.slot 10) [10]) (.lst .nil))) (.slot 11) [11])) (.cons (.set 7 (.bin .add (.slot 7) (.ife (.cmp .ne (.slot 9) (.lst .nil)) (.lst (.cons (.tup (.cons (.slot 8) (.cons (.slot 5) (.cons (.ix (.slot 9) (.cst (.int 0))) .nil)))) .nil)) (.lst .nil)))) .nil)) .nil) .nil)) (.cons (.ifs (.cmp .eq (.slot 7) (.lst .nil)) (.cons .brk .nil) .nil) (.cons (.set 4 (.bin .add (.slot 4) (.slot 7))) .nil))))) (.cons (.set 6 (.comp false (.nm 10) (.it (.slot 4)) .no (.ix (.slot 10) (.cst (.int 0))) [10])) (.cons (.ret (.tup (.cons (.bi .sorted (.cons (.slot 4) .nil)) (.cons (.comp false (.nm 8) (.it (.slot 3)) (.so (.cmp .notin (.slot 8) (.slot 6))) (.slot 8) [8]) .nil)))) .nil)))))
/-- _law_is_count(value) -/
def b__law_is_count : MSs := (.cons (.ret (.and (.isi (.slot 0) [.int]) (.and (.no (.isi (.slot 0) [.bl])) (.cmp .ge (.slot 0) (.cst (.int 0)))))) .nil)
/-- _law_is_table(weather, caps, goal, places, value, shown, place, number, step, less, one, other, its, way) -/
def b__law_is_table : MSs := (.cons (.set 5 (.comp false (.nm 6) (.it (.slot 3)) .no (.bi .repr (.cons (.slot 6) .nil)) [6])) (.cons (.ifs (.no (.isi (.slot 4) [.lst, .tup])) (.cons (.ret (.cst (.bl false))) .nil) .nil) (.cons (.ifs (.cmp .ne (.comp false (.nm 10) (.it (.slot 4)) (.so (.or (.no (.isi (.slot 10) [.tup])) (.or (.cmp .ne (.bi .len (.cons (.slot 10) .nil)) (.cst (.int 3))) (.or (.cmp .notin (.bi .repr (.cons (.ix (.slot 10) (.cst (.int 0))) .nil)) (.slot 5)) (.no (.call 79 (.cons (.ix (.slot 10) (.cst (.int 1))) .nil))))))) (.slot 10) [10]) (.lst .nil)) (.cons (.ret (.cst (.bl false))) .nil) .nil) (.cons (.ifs (.cmp .ne (.comp false (.tp (.cons (.nm 10) (.cons (.nm 11) .nil))) (.zip2 (.slot 4) (.sl (.slot 4) (.so (.cst (.int 1))) .no)) (.so (.no (.cmp .lt (.ix (.slot 10) (.cst (.int 0))) (.ix (.slot 11) (.cst (.int 0)))))) (.slot 10) [10, 11]) (.lst .nil)) (.cons (.ret (.cst (.bl false))) .nil) .nil) (.cons (.fors (.tp (.cons (.nm 6) (.cons (.nm 7) (.cons (.nm 8) .nil)))) (.it (.slot 4)) (.cons (.ifs (.or (.call 77 (.cons (.slot 2) (.cons (.slot 6) .nil))) (.or (.cmp .eq (.slot 7) (.cst (.int 0))) (.cmp .is (.slot 8) (.cst .non)))) (.cons (.ifs (.or (.no (.call 77 (.cons (.slot 2) (.cons (.slot 6) .nil)))) (.or (.cmp .ne (.slot 7) (.cst (.int 0))) (.cmp .isnt (.slot 8) (.cst .non)))) (.cons (.ret (.cst (.bl false))) .nil) .nil) .nil) (.cons (.set 9 (.comp false (.tp (.cons (.nm 11) (.cons (.nm 12) (.cons (.nm 13) .nil)))) (.it (.slot 4)) (.so (.cmp .lt (.slot 12) (.slot 7))) (.slot 11) [11, 12, 13])) (.cons (.ifs (.or (.no (.call 79 (.cons (.slot 8) .nil))) (.cmp .notin (.slot 8) (.call 45 (.cons (.slot 0) (.cons (.slot 6) .nil))))) (.cons (.ret (.cst (.bl false))) .nil) .nil) (.cons (.ifs (.cmp .ne (.comp false (.nm 10) (.it (.frz (.call 46 (.cons (.slot 0) (.cons (.slot 1) (.cons (.slot 6) (.cons (.slot 8) .nil))))))) (.so (.cmp .notin (.slot 10) (.slot 9))) (.slot 10) [10]) (.lst .nil)) (.cons (.ret (.cst (.bl false))) .nil) .nil) .nil)))) .nil)) (.cons (.ret (.cst (.bl true))) .nil))))))
/-- _law_is_dodge(weather, caps, goal, places, value, shown, place, step, one, other) -/
def b__law_is_dodge : MSs := (.cons (.set 5 (.comp false (.nm 6) (.it (.slot 3)) .no (.bi .repr (.cons (.slot 6) .nil)) [6])) (.cons (.ifs (.or (.no (.isi (.slot 4) [.lst, .tup])) (.cmp .ne (.comp false (.nm 8) (.it (.slot 4)) (.so (.cmp .notin (.bi .repr (.cons (.slot 8) .nil)) (.slot 5))) (.slot 8) [8]) (.lst .nil))) (.cons (.ret (.cst (.bl false))) .nil) .nil) (.cons (.ifs (.or (.cmp .ne (.comp false (.tp (.cons (.nm 8) (.cons (.nm 9) .nil))) (.zip2 (.slot 4) (.sl (.slot 4) (.so (.cst (.int 1))) .no)) (.so (.no (.cmp .lt (.slot 8) (.slot 9)))) (.slot 8) [8, 9]) (.lst .nil)) (.cmp .ne (.comp false (.nm 8) (.it (.slot 4)) (.so (.call 77 (.cons (.slot 2) (.cons (.slot 8) .nil)))) (.slot 8) [8]) (.lst .nil))) (.cons (.ret (.cst (.bl false))) .nil) .nil) (.cons (.fors (.nm 6) (.it (.slot 4)) (.cons (.fors (.nm 7) (.it (.frz (.call 45 (.cons (.slot 0) (.cons (.slot 6) .nil))))) (.cons (.ifs (.cmp .eq (.comp false (.nm 8) (.it (.frz (.call 46 (.cons (.slot 0) (.cons (.slot 1) (.cons (.slot 6) (.cons (.slot 7) .nil))))))) (.so (.cmp .isin (.slot 8) (.slot 4))) (.slot 8) [8]) (.lst .nil)) (.cons (.ret (.cst (.bl false))) .nil) .nil) .nil)) .nil)) (.cons (.ret (.cst (.bl true))) .nil)))))
/-- _law_bent(pot, rows, at, one, spot, odd, bent, some) -/
def b__law_bent : MSs := (.cons (.ifs (.cmp .eq (.slot 1) (.lst .nil)) (.cons (.ret (.call 39 (.cons (.slot 0) (.cons (.lst (.cons (.cst .non) (.cons (.tup .nil) (.cons (.lst (.cons (.tup (.cons (.tup (.cons (.cst (.int 0)) (.cons (.tup (.cons (.cst (.int 0)) .nil)) .nil))) (.cons (.cst (.int 0)) (.cons (.cst .non) .nil)))) .nil)) (.cons (.lst (.cons (.tup (.cons (.cst (.int 0)) (.cons (.tup (.cons (.cst (.int 0)) .nil)) .nil))) .nil)) (.cons (.cst (.int 0)) .nil)))))) .nil)))) .nil) .nil) (.cons (.set 2 (.call 38 (.cons (.slot 0) (.cons (.bi .len (.cons (.slot 1) .nil)) .nil)))) (.cons (.set 3 (.ix (.slot 1) (.slot 2))) (.cons (.set 4 (.call 38 (.cons (.slot 0) (.cons (.bi .len (.cons (.slot 3) .nil)) .nil)))) (.cons (.set 5 (.call 39 (.cons (.slot 0) (.cons (.lst (.cons (.cst .non) (.cons (.cst (.int 0)) (.cons (.cst (.int 1)) (.cons (.cst (.int 2)) (.cons (.cst (.bl true)) (.cons (.cst (.str "0")) (.cons (.tup (.cons (.cst (.int 0)) .nil)) (.cons (.ix (.slot 3) (.slot 4)) .nil))))))))) .nil)))) (.cons (.set 6 (.bin .add (.bin .add (.sl (.slot 1) .no (.so (.slot 2))) (.lst (.cons (.bin .add (.bin .add (.sl (.slot 3) .no (.so (.slot 4))) (.tup (.cons (.slot 5) .nil))) (.sl (.slot 3) (.so (.bin .add (.slot 4) (.cst (.int 1)))) .no)) .nil))) (.sl (.slot 1) (.so (.bin .add (.slot 2) (.cst (.int 1)))) .no))) (.cons (.set 7 (.lst (.cons (.bin .add (.sl (.slot 1) .no (.so (.slot 2))) (.sl (.slot 1) (.so (.bin .add (.slot 2) (.cst (.int 1)))) .no)) (.cons (.bin .add (.slot 1) (.sl (.slot 1) .no (.so (.cst (.int 1))))) (.cons (.rev (.slot 1)) (.cons (.bi .tuple (.cons (.slot 1) .nil)) (.cons (.bin .add (.bin .add (.sl (.slot 1) .no (.so (.slot 2))) (.lst (.cons (.bi .list (.cons (.slot 3) .nil)) .nil))) (.sl (.slot 1) (.so (.bin .add (.slot 2) (.cst (.int 1)))) .no)) (.cons (.cst .non) .nil)))))))) (.cons (.ret (.call 39 (.cons (.slot 0) (.cons (.bin .add (.slot 7) (.lst (.cons (.slot 6) (.cons (.slot 6) (.cons (.slot 6) .nil))))) .nil)))) .nil))))))))
/-- _law_right(pot, weather, caps, shown, places, goal, table, others, told, place, number, step, value, dues, here, left, own, year, at, less, easier, spin, way) -/
def b__law_right : MSs := (.cons (.set 1 (.call 41 (.cons (.slot 0) (.cons (.cst (.int 3)) (.cons (.cst (.int 3)) (.cons (.cst (.int 6)) .nil)))))) (.cons (.asg (.tp (.cons (.nm 2) (.cons (.nm 3) .nil))) (.tup (.cons (.call 42 (.cons (.slot 0) (.cons (.slot 1) .nil))) (.cons (.bi .repr (.cons (.slot 1) .nil)) .nil)))) (.cons (.set 4 (.call 43 (.cons (.slot 1) (.cons (.slot 2) .nil)))) (.cons (.set 5 (.call 39 (.cons (.slot 0) (.cons (.slot 4) .nil)))) (.cons (.asg (.tp (.cons (.nm 6) (.cons (.nm 7) .nil))) (.call 78 (.cons (.slot 1) (.cons (.slot 2) (.cons (.slot 5) .nil))))) (.cons (.set 8 (.lst (.cons (.call 72 (.cons (.slot 1) (.cons (.slot 2) (.cons (.slot 5) .nil)))) (.cons (.call 74 (.cons (.slot 1) (.cons (.slot 2) (.cons (.slot 5) .nil)))) .nil)))) (.cons (.ifs (.cmp .ne (.bi .repr (.cons (.slot 8) .nil)) (.bi .repr (.cons (.lst (.cons (.slot 6) (.cons (.slot 7) .nil))) .nil))) (.cons (.ret (.cst (.bl false))) .nil) .nil) (.cons (.ex (.mt .append (.ix (.slot 8) (.cst (.int 0))) (.cons (.cst .non) .nil))) (.cons (.ex (.mt .append (.ix (.slot 8) (.cst (.int 1))) (.cons (.cst .non) .nil))) (.cons (.ifs (.cmp .ne (.bi .repr (.cons (.lst (.cons (.callK 72 (.cons (.slot 5) (.cons (.slot 2) (.cons (.slot 1) .nil))) [2, 1, 0]) (.cons (.callK 74 (.cons (.slot 5) (.cons (.slot 2) (.cons (.slot 1) .nil))) [2, 1, 0]) .nil))) .nil)) (.bi .repr (.cons (.lst (.cons (.slot 6) (.cons (.slot 7) .nil))) .nil))) (.cons (.ret (.cst (.bl false))) .nil) .nil) (.cons (.fors (.tp (.cons (.nm 9) (.cons (.nm 10) (.cons (.nm 11) .nil)))) (.it (.slot 6)) (.cons (.ifs (.cmp .ne (.bi .repr (.cons (.lst (.cons (.call 76 (.cons (.slot 1) (.cons (.slot 2) (.cons (.slot 9) (.cons (.slot 5) .nil))))) (.cons (.callK 76 (.cons (.slot 5) (.cons (.slot 9) (.cons (.slot 2) (.cons (.slot 1) .nil)))) [3, 2, 1, 0]) .nil))) .nil)) (.bi .repr (.cons (.lst (.cons (.slot 10) (.cons (.slot 10) .nil))) .nil))) (.cons (.ret (.cst (.bl false))) .nil) .nil) .nil)) (.cons (.ifs (.cmp .ne (.comp false (.nm 9) (.it (.slot 7)) (.so (.cmp .isnt (.call 76 (.cons (.slot 1) (.cons (.slot 2) (.cons (.slot 9) (.cons (.slot 5) .nil))))) (.cst .non))) (.slot 9) [9]) (.lst .nil)) (.cons (.ret (.cst (.bl false))) .nil) .nil) (.cons (.fors (.nm 12) (.it (.bin .add (.bin .add (.lst (.cons (.slot 6) (.cons (.slot 7) (.cons (.lst .nil) (.cons (.cst .non) (.cons (.cst (.int 0)) .nil)))))) (.comp false (.nm 21) (.rng (.cst (.int 5))) .no (.call 51 (.cons (.slot 0) (.cons (.slot 6) .nil))) [21])) (.comp false (.nm 21) (.rng (.cst (.int 5))) .no (.call 51 (.cons (.slot 0) (.cons (.slot 7) .nil))) [21]))) (.cons (.set 13 (.lst (.cons (.call 49 (.cons (.slot 1) (.cons (.slot 2) (.cons (.slot 5) (.cons (.slot 4) (.cons (.slot 12) .nil)))))) (.cons (.call 80 (.cons (.slot 1) (.cons (.slot 2) (.cons (.slot 5) (.cons (.slot 4) (.cons (.slot 12) .nil)))))) .nil)))) (.cons (.ifs (.cmp .ne (.bi .repr (.cons (.lst (.cons (.call 73 (.cons (.slot 1) (.cons (.slot 2) (.cons (.slot 5) (.cons (.slot 12) .nil))))) (.cons (.call 75 (.cons (.slot 1) (.cons (.slot 2) (.cons (.slot 5) (.cons (.slot 12) .nil))))) .nil))) .nil)) (.bi .repr (.cons (.slot 13) .nil))) (.cons (.ret (.cst (.bl false))) .nil) .nil) (.cons (.ifs (.cmp .ne (.bi .repr (.cons (.lst (.cons (.callK 73 (.cons (.slot 12) (.cons (.slot 5) (.cons (.slot 2) (.cons (.slot 1) .nil)))) [3, 2, 1, 0]) (.cons (.callK 75 (.cons (.slot 12) (.cons (.slot 5) (.cons (.slot 2) (.cons (.slot 1) .nil)))) [3, 2, 1, 0]) .nil))) .nil)) (.bi .repr (.cons (.slot 13) .nil))) (.cons (.ret (.cst (.bl false))) .nil) .nil) .nil)))) (.cons (.asg (.tp (.cons (.nm 14) (.cons (.nm 15) (.cons (.nm 11) .nil)))) (.call 39 (.cons (.slot 0) (.cons (.slot 6) .nil)))) (.cons (.set 16 (.comp false (.tp (.cons (.nm 9) (.cons (.nm 10) (.cons (.nm 22) .nil)))) (.it (.slot 6)) .no (.slot 9) [9, 10, 22])) (.cons (.fors (.nm 17) (.rng (.slot 15)) (.cons (.ifs (.call 77 (.cons (.slot 5) (.cons (.slot 14) .nil))) (.cons .brk .nil) .nil) (.cons (.set 14 (.call 39 (.cons (.slot 0) (.cons (.call 46 (.cons (.slot 1) (.cons (.slot 2) (.cons (.slot 14) (.cons (.ix (.ix (.slot 6) (.mt .index (.slot 16) (.cons (.slot 14) .nil))) (.cst (.int 2))) .nil))))) .nil)))) .nil))) (.cons (.set 18 (.call 38 (.cons (.slot 0) (.cons (.bi .len (.cons (.slot 2) .nil)) .nil)))) (.cons (.set 19 (.tup (.cons (.ix (.slot 5) (.cst (.int 0))) (.cons (.bin .add (.bin .add (.sl (.ix (.slot 5) (.cst (.int 1))) .no (.so (.slot 18))) (.tup (.cons (.bi .max2 (.cons (.cst (.int 0)) (.cons (.bin .sub (.ix (.ix (.slot 5) (.cst (.int 1))) (.slot 18)) (.cst (.int 1))) .nil))) .nil))) (.sl (.ix (.slot 5) (.cst (.int 1))) (.so (.bin .add (.slot 18) (.cst (.int 1)))) .no)) .nil)))) (.cons (.set 20 (.comp false (.tp (.cons (.nm 9) (.cons (.nm 10) (.cons (.nm 22) .nil)))) (.it (.frz (.call 72 (.cons (.slot 1) (.cons (.slot 2) (.cons (.slot 19) .nil)))))) .no (.slot 9) [9, 10, 22])) (.cons (.ret (.and (.call 77 (.cons (.slot 5) (.cons (.slot 14) .nil))) (.and (.cmp .eq (.comp false (.nm 9) (.it (.slot 16)) (.so (.cmp .notin (.slot 9) (.slot 20))) (.slot 9) [9]) (.lst .nil)) (.cmp .eq (.bi .repr (.cons (.slot 1) .nil)) (.slot 3))))) .nil))))))))))))))))))))
/-- law(script, k) -/
def b_law : MSs := (.cons (.ret (.bi .all (.cons (.comp false (.nm 1) (.rng (.bi .max2 (.cons (.cst (.int 1)) (.cons (.bi .min2 (.cons (.cst (.int 3)) (.cons (.bi .len (.cons (.slot 0) .nil)) .nil))) .nil)))) .no (.call 52 (.cons (.call 37 (.cons (.slot 0) (.cons (.slot 1) .nil))) .nil)) [1]) .nil))) .nil)
def d_is_list : Dd := ⟨1, "is_list", 1, ["value"], ["value"], b_is_list⟩
def d_is_integer : Dd := ⟨2, "is_integer", 2, ["value"], ["value"], b_is_integer⟩
def d_is_count : Dd := ⟨3, "is_count", 3, ["value"], ["value"], b_is_count⟩
def d_is_position : Dd := ⟨4, "is_position", 4, ["value", "many"], ["value", "many"], b_is_position⟩
def d_is_least : Dd := ⟨5, "is_least", 14, ["row", "other"], ["row", "other", "one", "its"], b_is_least⟩
def d_outcome_is_right : Dd := ⟨6, "outcome_is_right", 22, ["standings", "wants", "value"], ["standings", "wants", "value", "more", "want"], b_outcome_is_right⟩
def d_wants_are_right : Dd := ⟨7, "wants_are_right", 23, ["stocks", "value"], ["stocks", "value", "one"], b_wants_are_right⟩
def d_step_is_right : Dd := ⟨8, "step_is_right", 24, ["standings", "stocks", "value"], ["standings", "stocks", "value", "one"], b_step_is_right⟩
def d_weather_is_right : Dd := ⟨9, "weather_is_right", 25, ["value"], ["value", "step"], b_weather_is_right⟩
def d_place_within : Dd := ⟨10, "place_within", 26, ["weather", "caps", "value"], ["weather", "caps", "value", "number", "cap"], b_place_within⟩
def d_check_weather : Dd := ⟨11, "check_weather", 27, ["weather"], ["weather"], b_check_weather⟩
def d_check_capped : Dd := ⟨12, "check_capped", 28, ["weather", "caps"], ["weather", "caps"], b_check_capped⟩
def d_check_here : Dd := ⟨54, "check_here", 29, ["weather", "caps", "here"], ["weather", "caps", "here"], b_check_here⟩
def d_check_few : Dd := ⟨13, "check_few", 30, ["weather", "caps"], ["weather", "caps", "many", "cap"], b_check_few⟩
def d_all_places : Dd := ⟨15, "all_places", 31, ["weather", "caps"], ["weather", "caps", "rows", "cap", "longer", "row", "found", "standing", "number"], b_all_places⟩
def d_is_let_here : Dd := ⟨16, "is_let_here", 32, ["weather", "here", "step"], ["weather", "here", "step"], b_is_let_here⟩
def d_let_here : Dd := ⟨17, "let_here", 33, ["weather", "here"], ["weather", "here", "step"], b_let_here⟩
def d_outcomes_at : Dd := ⟨18, "outcomes_at", 34, ["weather", "caps", "here", "step"], ["weather", "caps", "here", "step", "found", "goal", "effects", "row", "cap", "number", "more"], b_outcomes_at⟩
def d_board_of : Dd := ⟨19, "board_of", 35, ["weather", "caps"], ["weather", "caps", "found", "here", "step"], b_board_of⟩
def d_is_some_in : Dd := ⟨21, "is_some_in", 36, ["goals", "found"], ["goals", "found", "goal"], b_is_some_in⟩
def d_are_all_in : Dd := ⟨22, "are_all_in", 37, ["goals", "found"], ["goals", "found", "goal"], b_are_all_in⟩
def d_is_rising : Dd := ⟨25, "is_rising", 38, ["value"], ["value", "one", "other"], b_is_rising⟩
def d_are_entries : Dd := ⟨26, "are_entries", 39, ["weather", "caps", "value", "width"], ["weather", "caps", "value", "width", "one"], b_are_entries⟩
def d_check_goal : Dd := ⟨66, "check_goal", 41, ["weather", "caps", "goal"], ["weather", "caps", "goal"], b_check_goal⟩
def d_check_aimed : Dd := ⟨67, "check_aimed", 42, ["weather", "caps", "goal"], ["weather", "caps", "goal"], b_check_aimed⟩
def d_is_at_goal : Dd := ⟨68, "is_at_goal", 43, ["here", "goal"], ["here", "goal"], b_is_at_goal⟩
def d_sure_in : Dd := ⟨69, "sure_in", 44, ["board", "goal"], ["board", "goal", "found", "number", "some", "here", "step", "steps"], b_sure_in⟩
def d_sure_steps : Dd := ⟨70, "sure_steps", 45, ["board", "found", "here"], ["board", "found", "here", "step", "goals"], b_sure_steps⟩
def d_sure_entry_is_right : Dd := ⟨71, "sure_entry_is_right", 46, ["weather", "caps", "goal", "numbers", "entry"], ["weather", "caps", "goal", "numbers", "entry", "here", "number", "step", "goals", "other"], b_sure_entry_is_right⟩
def d_sure_table : Dd := ⟨72, "sure_table", 47, ["weather", "caps", "goal"], ["weather", "caps", "goal", "found", "here"], b_sure_table⟩
def d_is_sure_table : Dd := ⟨73, "is_sure_table", 48, ["weather", "caps", "goal", "value"], ["weather", "caps", "goal", "value", "numbers", "one"], b_is_sure_table⟩
def d_dodge : Dd := ⟨74, "dodge", 49, ["weather", "caps", "goal"], ["weather", "caps", "goal", "board", "found", "here"], b_dodge⟩
def d_is_dodge : Dd := ⟨75, "is_dodge", 50, ["weather", "caps", "goal", "value"], ["weather", "caps", "goal", "value", "here", "step", "one", "other"], b_is_dodge⟩
def d_years_to : Dd := ⟨76, "years_to", 51, ["weather", "caps", "here", "goal"], ["weather", "caps", "here", "goal", "found"], b_years_to⟩
def d__law_pot : Dd := ⟨37, "_law_pot", 53, ["script", "k"], ["script", "k", "cell"], b__law_pot⟩
def d__law_draw : Dd := ⟨38, "_law_draw", 54, ["pot", "many"], ["pot", "many", "digit"], b__law_draw⟩
def d__law_pick : Dd := ⟨39, "_law_pick", 55, ["pot", "some"], ["pot", "some"], b__law_pick⟩
def d__law_outcome : Dd := ⟨40, "_law_outcome", 56, ["pot", "standings", "wants"], ["pot", "standings", "wants", "effects", "want"], b__law_outcome⟩
def d__law_weather : Dd := ⟨41, "_law_weather", 57, ["pot", "most_standings", "most_stocks", "most_steps"], ["pot", "most_standings", "most_stocks", "most_steps", "standings", "stocks", "steps", "spin", "wants", "outcomes", "stock", "turn"], b__law_weather⟩
def d__law_caps : Dd := ⟨42, "_law_caps", 58, ["pot", "weather"], ["pot", "weather", "stock"], b__law_caps⟩
def d__law_places : Dd := ⟨43, "_law_places", 59, ["weather", "caps"], ["weather", "caps", "rows", "cap", "longer", "row", "found", "standing", "number"], b__law_places⟩
def d__law_is_least : Dd := ⟨44, "_law_is_least", 60, ["row", "other"], ["row", "other", "one", "least"], b__law_is_least⟩
def d__law_let : Dd := ⟨45, "_law_let", 61, ["weather", "place"], ["weather", "place", "at", "step"], b__law_let⟩
def d__law_comes_out : Dd := ⟨46, "_law_comes_out", 62, ["weather", "caps", "place", "step"], ["weather", "caps", "place", "step", "found", "goal", "effects", "cap", "one", "more"], b__law_comes_out⟩
def d__law_is_at : Dd := ⟨77, "_law_is_at", 63, ["goal", "place"], ["goal", "place"], b__law_is_at⟩
def d__law_sure : Dd := ⟨78, "_law_sure", 64, ["weather", "caps", "goal"], ["weather", "caps", "goal", "places", "found", "number", "own", "later", "place", "fit", "one", "step"], b__law_sure⟩
def d__law_is_count : Dd := ⟨79, "_law_is_count", 65, ["value"], ["value"], b__law_is_count⟩
def d__law_is_table : Dd := ⟨49, "_law_is_table", 66, ["weather", "caps", "goal", "places", "value"], ["weather", "caps", "goal", "places", "value", "shown", "place", "number", "step", "less", "one", "other", "its", "way"], b__law_is_table⟩
def d__law_is_dodge : Dd := ⟨80, "_law_is_dodge", 67, ["weather", "caps", "goal", "places", "value"], ["weather", "caps", "goal", "places", "value", "shown", "place", "step", "one", "other"], b__law_is_dodge⟩
def d__law_bent : Dd := ⟨51, "_law_bent", 68, ["pot", "rows"], ["pot", "rows", "at", "one", "spot", "odd", "bent", "some"], b__law_bent⟩
def d__law_right : Dd := ⟨52, "_law_right", 69, ["pot"], ["pot", "weather", "caps", "shown", "places", "goal", "table", "others", "told", "place", "number", "step", "value", "dues", "here", "left", "own", "year", "at", "less", "easier", "spin", "way"], b__law_right⟩
def d_law : Dd := ⟨53, "law", 70, ["script"], ["script", "k"], b_law⟩
def defs : List Dd := [d_is_list, d_is_integer, d_is_count, d_is_position, d_is_least, d_outcome_is_right, d_wants_are_right, d_step_is_right, d_weather_is_right, d_place_within, d_check_weather, d_check_capped, d_check_here, d_check_few, d_all_places, d_is_let_here, d_let_here, d_outcomes_at, d_board_of, d_is_some_in, d_are_all_in, d_is_rising, d_are_entries, d_check_goal, d_check_aimed, d_is_at_goal, d_sure_in, d_sure_steps, d_sure_entry_is_right, d_sure_table, d_is_sure_table, d_dodge, d_is_dodge, d_years_to, d__law_pot, d__law_draw, d__law_pick, d__law_outcome, d__law_weather, d__law_caps, d__law_places, d__law_is_least, d__law_let, d__law_comes_out, d__law_is_at, d__law_sure, d__law_is_count, d__law_is_table, d__law_is_dodge, d__law_bent, d__law_right, d_law]
def free : List Str := ["abs", "all", "any", "bool", "divmod", "enumerate", "int", "isinstance", "len", "list", "max", "min", "range", "repr", "sorted", "str", "sum", "tuple", "zip"]
def con : List (Str × D) := [("MOST_STANDINGS", .int 6), ("MOST_STOCKS", .int 3), ("MOST_STEPS", .int 8), ("MOST_OUTCOMES", .int 3), ("MOST_NUMBER", .int 9), ("MOST_PLACES", .int 600)]
def kw : Kws := [(72, ["goal", "caps", "weather"], [2, 1, 0]), (74, ["goal", "caps", "weather"], [2, 1, 0]), (76, ["goal", "here", "caps", "weather"], [3, 2, 1, 0]), (73, ["value", "goal", "caps", "weather"], [3, 2, 1, 0]), (75, ["value", "goal", "caps", "weather"], [3, 2, 1, 0])]
abbrev tab : Nat → Option Fd := tabL defs
theorem t_is_list : tab 1 = some ⟨1, 1, b_is_list⟩ := rfl
theorem t_is_integer : tab 2 = some ⟨1, 1, b_is_integer⟩ := rfl
theorem t_is_count : tab 3 = some ⟨1, 1, b_is_count⟩ := rfl
theorem t_is_position : tab 4 = some ⟨2, 2, b_is_position⟩ := rfl
theorem t_is_least : tab 5 = some ⟨2, 4, b_is_least⟩ := rfl
theorem t_outcome_is_right : tab 6 = some ⟨3, 5, b_outcome_is_right⟩ := rfl
theorem t_wants_are_right : tab 7 = some ⟨2, 3, b_wants_are_right⟩ := rfl
theorem t_step_is_right : tab 8 = some ⟨3, 4, b_step_is_right⟩ := rfl
theorem t_weather_is_right : tab 9 = some ⟨1, 2, b_weather_is_right⟩ := rfl
theorem t_place_within : tab 10 = some ⟨3, 5, b_place_within⟩ := rfl
theorem t_check_weather : tab 11 = some ⟨1, 1, b_check_weather⟩ := rfl
theorem t_check_capped : tab 12 = some ⟨2, 2, b_check_capped⟩ := rfl
theorem t_check_here : tab 54 = some ⟨3, 3, b_check_here⟩ := rfl
theorem t_check_few : tab 13 = some ⟨2, 4, b_check_few⟩ := rfl
theorem t_all_places : tab 15 = some ⟨2, 9, b_all_places⟩ := rfl
theorem t_is_let_here : tab 16 = some ⟨3, 3, b_is_let_here⟩ := rfl
theorem t_let_here : tab 17 = some ⟨2, 3, b_let_here⟩ := rfl
theorem t_outcomes_at : tab 18 = some ⟨4, 11, b_outcomes_at⟩ := rfl
theorem t_board_of : tab 19 = some ⟨2, 5, b_board_of⟩ := rfl
theorem t_is_some_in : tab 21 = some ⟨2, 3, b_is_some_in⟩ := rfl
theorem t_are_all_in : tab 22 = some ⟨2, 3, b_are_all_in⟩ := rfl
theorem t_is_rising : tab 25 = some ⟨1, 3, b_is_rising⟩ := rfl
theorem t_are_entries : tab 26 = some ⟨4, 5, b_are_entries⟩ := rfl
theorem t_check_goal : tab 66 = some ⟨3, 3, b_check_goal⟩ := rfl
theorem t_check_aimed : tab 67 = some ⟨3, 3, b_check_aimed⟩ := rfl
theorem t_is_at_goal : tab 68 = some ⟨2, 2, b_is_at_goal⟩ := rfl
theorem t_sure_in : tab 69 = some ⟨2, 8, b_sure_in⟩ := rfl
theorem t_sure_steps : tab 70 = some ⟨3, 5, b_sure_steps⟩ := rfl
theorem t_sure_entry_is_right : tab 71 = some ⟨5, 10, b_sure_entry_is_right⟩ := rfl
theorem t_sure_table : tab 72 = some ⟨3, 5, b_sure_table⟩ := rfl
theorem t_is_sure_table : tab 73 = some ⟨4, 6, b_is_sure_table⟩ := rfl
theorem t_dodge : tab 74 = some ⟨3, 6, b_dodge⟩ := rfl
theorem t_is_dodge : tab 75 = some ⟨4, 8, b_is_dodge⟩ := rfl
theorem t_years_to : tab 76 = some ⟨4, 5, b_years_to⟩ := rfl
theorem t__law_pot : tab 37 = some ⟨2, 3, b__law_pot⟩ := rfl
theorem t__law_draw : tab 38 = some ⟨2, 3, b__law_draw⟩ := rfl
theorem t__law_pick : tab 39 = some ⟨2, 2, b__law_pick⟩ := rfl
theorem t__law_outcome : tab 40 = some ⟨3, 5, b__law_outcome⟩ := rfl
theorem t__law_weather : tab 41 = some ⟨4, 12, b__law_weather⟩ := rfl
theorem t__law_caps : tab 42 = some ⟨2, 3, b__law_caps⟩ := rfl
theorem t__law_places : tab 43 = some ⟨2, 9, b__law_places⟩ := rfl
theorem t__law_is_least : tab 44 = some ⟨2, 4, b__law_is_least⟩ := rfl
theorem t__law_let : tab 45 = some ⟨2, 4, b__law_let⟩ := rfl
theorem t__law_comes_out : tab 46 = some ⟨4, 10, b__law_comes_out⟩ := rfl
theorem t__law_is_at : tab 77 = some ⟨2, 2, b__law_is_at⟩ := rfl
theorem t__law_sure : tab 78 = some ⟨3, 12, b__law_sure⟩ := rfl
theorem t__law_is_count : tab 79 = some ⟨1, 1, b__law_is_count⟩ := rfl
theorem t__law_is_table : tab 49 = some ⟨5, 14, b__law_is_table⟩ := rfl
theorem t__law_is_dodge : tab 80 = some ⟨5, 10, b__law_is_dodge⟩ := rfl
theorem t__law_bent : tab 51 = some ⟨2, 8, b__law_bent⟩ := rfl
theorem t__law_right : tab 52 = some ⟨1, 23, b__law_right⟩ := rfl
theorem t_law : tab 53 = some ⟨1, 2, b_law⟩ := rfl
end Mi.L86
set_option Elab.async false
set_option linter.all false
set_option maxRecDepth 100000
set_option maxHeartbeats 0
/-! Headk86: the head of k86 (printed by genlaw.py). -/
namespace Mi.L86
open PySem PySem.Spec PyProof.Rows L2
def top (i : Nat) : Stmt := PySem.Challenge.pw_neverspent_k86_whole_goals_made_sure_of.main.body.getD i (.Pass ⟨0, 0, 0, 0⟩)
def lw : Lw := ⟨top, defs, free, con, kw⟩
theorem k_is_list : lw.DOk d_is_list := ⟨fun _ _ _ _ _ _ us hl => match us, hl with | [_], _ => rfl, C8.fnScope_by (by kernel_rfl), by kernel_rfl⟩
theorem k_is_integer : lw.DOk d_is_integer := ⟨fun _ _ _ _ _ _ us hl => match us, hl with | [_], _ => rfl, C8.fnScope_by (by kernel_rfl), by kernel_rfl⟩
theorem k_is_count : lw.DOk d_is_count := ⟨fun _ _ _ _ _ _ us hl => match us, hl with | [_], _ => rfl, C8.fnScope_by (by kernel_rfl), by kernel_rfl⟩
theorem k_is_position : lw.DOk d_is_position := ⟨fun _ _ _ _ _ _ us hl => match us, hl with | [_, _], _ => rfl, C8.fnScope_by (by kernel_rfl), by kernel_rfl⟩
theorem k_is_least : lw.DOk d_is_least := ⟨fun _ _ _ _ _ _ us hl => match us, hl with | [_, _], _ => rfl, C8.fnScope_by (by kernel_rfl), by kernel_rfl⟩
theorem k_outcome_is_right : lw.DOk d_outcome_is_right := ⟨fun _ _ _ _ _ _ us hl => match us, hl with | [_, _, _], _ => rfl, C8.fnScope_by (by kernel_rfl), by kernel_rfl⟩
theorem k_wants_are_right : lw.DOk d_wants_are_right := ⟨fun _ _ _ _ _ _ us hl => match us, hl with | [_, _], _ => rfl, C8.fnScope_by (by kernel_rfl), by kernel_rfl⟩
theorem k_step_is_right : lw.DOk d_step_is_right := ⟨fun _ _ _ _ _ _ us hl => match us, hl with | [_, _, _], _ => rfl, C8.fnScope_by (by kernel_rfl), by kernel_rfl⟩
theorem k_weather_is_right : lw.DOk d_weather_is_right := ⟨fun _ _ _ _ _ _ us hl => match us, hl with | [_], _ => rfl, C8.fnScope_by (by kernel_rfl), by kernel_rfl⟩
theorem k_place_within : lw.DOk d_place_within := ⟨fun _ _ _ _ _ _ us hl => match us, hl with | [_, _, _], _ => rfl, C8.fnScope_by (by kernel_rfl), by kernel_rfl⟩
theorem k_check_weather : lw.DOk d_check_weather := ⟨fun _ _ _ _ _ _ us hl => match us, hl with | [_], _ => rfl, C8.fnScope_by (by kernel_rfl), by kernel_rfl⟩
theorem k_check_capped : lw.DOk d_check_capped := ⟨fun _ _ _ _ _ _ us hl => match us, hl with | [_, _], _ => rfl, C8.fnScope_by (by kernel_rfl), by kernel_rfl⟩
theorem k_check_here : lw.DOk d_check_here := ⟨fun _ _ _ _ _ _ us hl => match us, hl with | [_, _, _], _ => rfl, C8.fnScope_by (by kernel_rfl), by kernel_rfl⟩
theorem k_check_few : lw.DOk d_check_few := ⟨fun _ _ _ _ _ _ us hl => match us, hl with | [_, _], _ => rfl, C8.fnScope_by (by kernel_rfl), by kernel_rfl⟩
theorem k_all_places : lw.DOk d_all_places := ⟨fun _ _ _ _ _ _ us hl => match us, hl with | [_, _], _ => rfl, C8.fnScope_by (by kernel_rfl), by kernel_rfl⟩
theorem k_is_let_here : lw.DOk d_is_let_here := ⟨fun _ _ _ _ _ _ us hl => match us, hl with | [_, _, _], _ => rfl, C8.fnScope_by (by kernel_rfl), by kernel_rfl⟩
theorem k_let_here : lw.DOk d_let_here := ⟨fun _ _ _ _ _ _ us hl => match us, hl with | [_, _], _ => rfl, C8.fnScope_by (by kernel_rfl), by kernel_rfl⟩
theorem k_outcomes_at : lw.DOk d_outcomes_at := ⟨fun _ _ _ _ _ _ us hl => match us, hl with | [_, _, _, _], _ => rfl, C8.fnScope_by (by kernel_rfl), by kernel_rfl⟩
theorem k_board_of : lw.DOk d_board_of := ⟨fun _ _ _ _ _ _ us hl => match us, hl with | [_, _], _ => rfl, C8.fnScope_by (by kernel_rfl), by kernel_rfl⟩
theorem k_is_some_in : lw.DOk d_is_some_in := ⟨fun _ _ _ _ _ _ us hl => match us, hl with | [_, _], _ => rfl, C8.fnScope_by (by kernel_rfl), by kernel_rfl⟩
theorem k_are_all_in : lw.DOk d_are_all_in := ⟨fun _ _ _ _ _ _ us hl => match us, hl with | [_, _], _ => rfl, C8.fnScope_by (by kernel_rfl), by kernel_rfl⟩
theorem k_is_rising : lw.DOk d_is_rising := ⟨fun _ _ _ _ _ _ us hl => match us, hl with | [_], _ => rfl, C8.fnScope_by (by kernel_rfl), by kernel_rfl⟩
theorem k_are_entries : lw.DOk d_are_entries := ⟨fun _ _ _ _ _ _ us hl => match us, hl with | [_, _, _, _], _ => rfl, C8.fnScope_by (by kernel_rfl), by kernel_rfl⟩
theorem k_check_goal : lw.DOk d_check_goal := ⟨fun _ _ _ _ _ _ us hl => match us, hl with | [_, _, _], _ => rfl, C8.fnScope_by (by kernel_rfl), by kernel_rfl⟩
theorem k_check_aimed : lw.DOk d_check_aimed := ⟨fun _ _ _ _ _ _ us hl => match us, hl with | [_, _, _], _ => rfl, C8.fnScope_by (by kernel_rfl), by kernel_rfl⟩
theorem k_is_at_goal : lw.DOk d_is_at_goal := ⟨fun _ _ _ _ _ _ us hl => match us, hl with | [_, _], _ => rfl, C8.fnScope_by (by kernel_rfl), by kernel_rfl⟩
theorem k_sure_in : lw.DOk d_sure_in := ⟨fun _ _ _ _ _ _ us hl => match us, hl with | [_, _], _ => rfl, C8.fnScope_by (by kernel_rfl), by kernel_rfl⟩
theorem k_sure_steps : lw.DOk d_sure_steps := ⟨fun _ _ _ _ _ _ us hl => match us, hl with | [_, _, _], _ => rfl, C8.fnScope_by (by kernel_rfl), by kernel_rfl⟩
theorem k_sure_entry_is_right : lw.DOk d_sure_entry_is_right := ⟨fun _ _ _ _ _ _ us hl => match us, hl with | [_, _, _, _, _], _ => rfl, C8.fnScope_by (by kernel_rfl), by kernel_rfl⟩
theorem k_sure_table : lw.DOk d_sure_table := ⟨fun _ _ _ _ _ _ us hl => match us, hl with | [_, _, _], _ => rfl, C8.fnScope_by (by kernel_rfl), by kernel_rfl⟩
theorem k_is_sure_table : lw.DOk d_is_sure_table := ⟨fun _ _ _ _ _ _ us hl => match us, hl with | [_, _, _, _], _ => rfl, C8.fnScope_by (by kernel_rfl), by kernel_rfl⟩
theorem k_dodge : lw.DOk d_dodge := ⟨fun _ _ _ _ _ _ us hl => match us, hl with | [_, _, _], _ => rfl, C8.fnScope_by (by kernel_rfl), by kernel_rfl⟩
theorem k_is_dodge : lw.DOk d_is_dodge := ⟨fun _ _ _ _ _ _ us hl => match us, hl with | [_, _, _, _], _ => rfl, C8.fnScope_by (by kernel_rfl), by kernel_rfl⟩
theorem k_years_to : lw.DOk d_years_to := ⟨fun _ _ _ _ _ _ us hl => match us, hl with | [_, _, _, _], _ => rfl, C8.fnScope_by (by kernel_rfl), by kernel_rfl⟩
theorem k__law_pot : lw.DOk d__law_pot := ⟨fun _ _ _ _ _ _ us hl => match us, hl with | [_, _], _ => rfl, C8.fnScope_by (by kernel_rfl), by kernel_rfl⟩
theorem k__law_draw : lw.DOk d__law_draw := ⟨fun _ _ _ _ _ _ us hl => match us, hl with | [_, _], _ => rfl, C8.fnScope_by (by kernel_rfl), by kernel_rfl⟩
theorem k__law_pick : lw.DOk d__law_pick := ⟨fun _ _ _ _ _ _ us hl => match us, hl with | [_, _], _ => rfl, C8.fnScope_by (by kernel_rfl), by kernel_rfl⟩
theorem k__law_outcome : lw.DOk d__law_outcome := ⟨fun _ _ _ _ _ _ us hl => match us, hl with | [_, _, _], _ => rfl, C8.fnScope_by (by kernel_rfl), by kernel_rfl⟩
theorem k__law_weather : lw.DOk d__law_weather := ⟨fun _ _ _ _ _ _ us hl => match us, hl with | [_, _, _, _], _ => rfl, C8.fnScope_by (by kernel_rfl), by kernel_rfl⟩
theorem k__law_caps : lw.DOk d__law_caps := ⟨fun _ _ _ _ _ _ us hl => match us, hl with | [_, _], _ => rfl, C8.fnScope_by (by kernel_rfl), by kernel_rfl⟩
theorem k__law_places : lw.DOk d__law_places := ⟨fun _ _ _ _ _ _ us hl => match us, hl with | [_, _], _ => rfl, C8.fnScope_by (by kernel_rfl), by kernel_rfl⟩
theorem k__law_is_least : lw.DOk d__law_is_least := ⟨fun _ _ _ _ _ _ us hl => match us, hl with | [_, _], _ => rfl, C8.fnScope_by (by kernel_rfl), by kernel_rfl⟩
theorem k__law_let : lw.DOk d__law_let := ⟨fun _ _ _ _ _ _ us hl => match us, hl with | [_, _], _ => rfl, C8.fnScope_by (by kernel_rfl), by kernel_rfl⟩
theorem k__law_comes_out : lw.DOk d__law_comes_out := ⟨fun _ _ _ _ _ _ us hl => match us, hl with | [_, _, _, _], _ => rfl, C8.fnScope_by (by kernel_rfl), by kernel_rfl⟩
theorem k__law_is_at : lw.DOk d__law_is_at := ⟨fun _ _ _ _ _ _ us hl => match us, hl with | [_, _], _ => rfl, C8.fnScope_by (by kernel_rfl), by kernel_rfl⟩
theorem k__law_sure : lw.DOk d__law_sure := ⟨fun _ _ _ _ _ _ us hl => match us, hl with | [_, _, _], _ => rfl, C8.fnScope_by (by kernel_rfl), by kernel_rfl⟩
theorem k__law_is_count : lw.DOk d__law_is_count := ⟨fun _ _ _ _ _ _ us hl => match us, hl with | [_], _ => rfl, C8.fnScope_by (by kernel_rfl), by kernel_rfl⟩
theorem k__law_is_table : lw.DOk d__law_is_table := ⟨fun _ _ _ _ _ _ us hl => match us, hl with | [_, _, _, _, _], _ => rfl, C8.fnScope_by (by kernel_rfl), by kernel_rfl⟩
theorem k__law_is_dodge : lw.DOk d__law_is_dodge := ⟨fun _ _ _ _ _ _ us hl => match us, hl with | [_, _, _, _, _], _ => rfl, C8.fnScope_by (by kernel_rfl), by kernel_rfl⟩
theorem k__law_bent : lw.DOk d__law_bent := ⟨fun _ _ _ _ _ _ us hl => match us, hl with | [_, _], _ => rfl, C8.fnScope_by (by kernel_rfl), by kernel_rfl⟩
theorem k__law_right : lw.DOk d__law_right := ⟨fun _ _ _ _ _ _ us hl => match us, hl with | [_], _ => rfl, C8.fnScope_by (by kernel_rfl), by kernel_rfl⟩
theorem k_law : lw.DOk d_law := ⟨fun _ _ _ _ _ _ us hl => match us, hl with | [_], _ => rfl, C8.fnScope_by (by kernel_rfl), by kernel_rfl⟩
theorem defs_ok : ∀ d ∈ defs, lw.DOk d := by
  unfold defs
  refine List.forall_mem_cons.mpr ⟨k_is_list, ?_⟩
  refine List.forall_mem_cons.mpr ⟨k_is_integer, ?_⟩
  refine List.forall_mem_cons.mpr ⟨k_is_count, ?_⟩
  refine List.forall_mem_cons.mpr ⟨k_is_position, ?_⟩
  refine List.forall_mem_cons.mpr ⟨k_is_least, ?_⟩
  refine List.forall_mem_cons.mpr ⟨k_outcome_is_right, ?_⟩
  refine List.forall_mem_cons.mpr ⟨k_wants_are_right, ?_⟩
  refine List.forall_mem_cons.mpr ⟨k_step_is_right, ?_⟩
  refine List.forall_mem_cons.mpr ⟨k_weather_is_right, ?_⟩
  refine List.forall_mem_cons.mpr ⟨k_place_within, ?_⟩
  refine List.forall_mem_cons.mpr ⟨k_check_weather, ?_⟩
  refine List.forall_mem_cons.mpr ⟨k_check_capped, ?_⟩
  refine List.forall_mem_cons.mpr ⟨k_check_here, ?_⟩
  refine List.forall_mem_cons.mpr ⟨k_check_few, ?_⟩
  refine List.forall_mem_cons.mpr ⟨k_all_places, ?_⟩
  refine List.forall_mem_cons.mpr ⟨k_is_let_here, ?_⟩
  refine List.forall_mem_cons.mpr ⟨k_let_here, ?_⟩
  refine List.forall_mem_cons.mpr ⟨k_outcomes_at, ?_⟩
  refine List.forall_mem_cons.mpr ⟨k_board_of, ?_⟩
  refine List.forall_mem_cons.mpr ⟨k_is_some_in, ?_⟩
  refine List.forall_mem_cons.mpr ⟨k_are_all_in, ?_⟩
  refine List.forall_mem_cons.mpr ⟨k_is_rising, ?_⟩
  refine List.forall_mem_cons.mpr ⟨k_are_entries, ?_⟩
  refine List.forall_mem_cons.mpr ⟨k_check_goal, ?_⟩
  refine List.forall_mem_cons.mpr ⟨k_check_aimed, ?_⟩
  refine List.forall_mem_cons.mpr ⟨k_is_at_goal, ?_⟩
  refine List.forall_mem_cons.mpr ⟨k_sure_in, ?_⟩
  refine List.forall_mem_cons.mpr ⟨k_sure_steps, ?_⟩
  refine List.forall_mem_cons.mpr ⟨k_sure_entry_is_right, ?_⟩
  refine List.forall_mem_cons.mpr ⟨k_sure_table, ?_⟩
  refine List.forall_mem_cons.mpr ⟨k_is_sure_table, ?_⟩
  refine List.forall_mem_cons.mpr ⟨k_dodge, ?_⟩
  refine List.forall_mem_cons.mpr ⟨k_is_dodge, ?_⟩
  refine List.forall_mem_cons.mpr ⟨k_years_to, ?_⟩
  refine List.forall_mem_cons.mpr ⟨k__law_pot, ?_⟩
  refine List.forall_mem_cons.mpr ⟨k__law_draw, ?_⟩
  refine List.forall_mem_cons.mpr ⟨k__law_pick, ?_⟩
  refine List.forall_mem_cons.mpr ⟨k__law_outcome, ?_⟩
  refine List.forall_mem_cons.mpr ⟨k__law_weather, ?_⟩
  refine List.forall_mem_cons.mpr ⟨k__law_caps, ?_⟩
  refine List.forall_mem_cons.mpr ⟨k__law_places, ?_⟩
  refine List.forall_mem_cons.mpr ⟨k__law_is_least, ?_⟩
  refine List.forall_mem_cons.mpr ⟨k__law_let, ?_⟩
  refine List.forall_mem_cons.mpr ⟨k__law_comes_out, ?_⟩
  refine List.forall_mem_cons.mpr ⟨k__law_is_at, ?_⟩
  refine List.forall_mem_cons.mpr ⟨k__law_sure, ?_⟩
  refine List.forall_mem_cons.mpr ⟨k__law_is_count, ?_⟩
  refine List.forall_mem_cons.mpr ⟨k__law_is_table, ?_⟩
  refine List.forall_mem_cons.mpr ⟨k__law_is_dodge, ?_⟩
  refine List.forall_mem_cons.mpr ⟨k__law_bent, ?_⟩
  refine List.forall_mem_cons.mpr ⟨k__law_right, ?_⟩
  refine List.forall_mem_cons.mpr ⟨k_law, ?_⟩
  exact fun _ h => nomatch h
theorem w_0 : lw.KwOk 72 ["goal", "caps", "weather"] [2, 1, 0] := ⟨d_sure_table, rfl, fun _ _ _ _ _ _ us ws hl hw => match us, hl, hw with | [a0, a1, a2], _, hw => by cases hw; rfl⟩
theorem w_1 : lw.KwOk 74 ["goal", "caps", "weather"] [2, 1, 0] := ⟨d_dodge, rfl, fun _ _ _ _ _ _ us ws hl hw => match us, hl, hw with | [a0, a1, a2], _, hw => by cases hw; rfl⟩
theorem w_2 : lw.KwOk 76 ["goal", "here", "caps", "weather"] [3, 2, 1, 0] := ⟨d_years_to, rfl, fun _ _ _ _ _ _ us ws hl hw => match us, hl, hw with | [a0, a1, a2, a3], _, hw => by cases hw; rfl⟩
theorem w_3 : lw.KwOk 73 ["value", "goal", "caps", "weather"] [3, 2, 1, 0] := ⟨d_is_sure_table, rfl, fun _ _ _ _ _ _ us ws hl hw => match us, hl, hw with | [a0, a1, a2, a3], _, hw => by cases hw; rfl⟩
theorem w_4 : lw.KwOk 75 ["value", "goal", "caps", "weather"] [3, 2, 1, 0] := ⟨d_is_dodge, rfl, fun _ _ _ _ _ _ us ws hl hw => match us, hl, hw with | [a0, a1, a2, a3], _, hw => by cases hw; rfl⟩
theorem lw_ok : lw.Ok := by
  refine ⟨defs_ok, fun f ks perm h => ?_, by unfold lw con; decide⟩
  have h : (f, ks, perm) ∈ kw := h
  unfold kw at h
  simp only [List.mem_cons, Prod.mk.injEq, List.not_mem_nil, or_false] at h
  rcases h with ⟨rfl, rfl, rfl⟩ | ⟨rfl, rfl, rfl⟩ | ⟨rfl, rfl, rfl⟩ | ⟨rfl, rfl, rfl⟩ | ⟨rfl, rfl, rfl⟩
  · exact w_0
  · exact w_1
  · exact w_2
  · exact w_3
  · exact w_4
abbrev R : PySem.W.OpenRow := PySem.W.OpenLaw.row PySem.Challenge.rw_neverspent_k86_whole_goals_made_sure_of
def fa : List He.Fa := lw.fa
def fn : List He.DefD := lw.fn
abbrev hk : PySem.W.Hook := He.hookD 4 fa fn
def ob (s : PySem.W.SharedT) : He.AlD := He.obsDG 4 fa fn (HandSHeadRun.getT s)
theorem ob_eq (s : PySem.W.SharedT) : ob s = hk.obs s.abs := He.obsDG_eq (HandSHeadRun.getT_eq s)
def names : List PySem.Str := (["is_list", "is_integer", "is_count", "is_position", "GroundError", "LimitError", "InvalidCaps", "InvalidWeather", "InvalidGoal", "InvalidHere", "TooMany", "is_least", "MOST_STANDINGS", "MOST_STOCKS", "MOST_STEPS", "MOST_OUTCOMES", "MOST_NUMBER", "MOST_PLACES", "outcome_is_right", "wants_are_right", "step_is_right", "weather_is_right", "place_within", "check_weather", "check_capped", "check_here", "check_few", "all_places", "is_let_here", "let_here"] : List PySem.Str) ++ (["outcomes_at", "board_of", "is_some_in", "are_all_in", "is_rising", "are_entries", "check_goal", "check_aimed", "is_at_goal", "sure_in", "sure_steps", "sure_entry_is_right", "sure_table", "is_sure_table", "dodge", "is_dodge", "years_to", "_law_pot", "_law_draw", "_law_pick", "_law_outcome", "_law_weather", "_law_caps", "_law_places", "_law_is_least", "_law_let", "_law_comes_out", "_law_is_at", "_law_sure", "_law_is_count"] : List PySem.Str) ++ (["_law_is_table", "_law_is_dodge", "_law_bent", "_law_right"] : List PySem.Str)
theorem run (w : World) : HandSHeadRun.RunEq R (PySem.W.view R.prog [70]) hk ob 6000 names w := by
  intro os
  kernel_rfl
end Mi.L86
set_option Elab.async false
set_option linter.all false
set_option maxRecDepth 100000
set_option maxHeartbeats 400000
namespace Mi.L86
open PySem PySem.W
open Mi.En (enc)
/-- an int, not less than 0 -/
def cnt : D → Bool
  | .int i => decide (0 ≤ i)
  | _ => false
/-- an int from 0, below m -/
def pos (m : Int) : D → Bool
  | .int i => decide (0 ≤ i) && decide (i < m)
  | _ => false
def isInt : D → Bool
  | .int _ => true
  | _ => false
def geAll (xs ys : List Int) : Bool := (xs.zip ys).all fun p => decide (p.1 ≥ p.2)
section
variable {wf n : Nat} {s : S}
theorem int_of_ty {s : S} {d : D} (h : s.tyOf d = some .int) : ∃ i, d = .int i := by
  cases d <;> simp [S.tyOf] at h
  · exact ⟨_, rfl⟩
  · split at h <;> simp at h
theorem no_int {s : S} {d : D} {t : Ty} (h : s.tyOf d = some t) (ht : t ≠ .int) : isInt d = false := by
  cases d <;> first | rfl | (simp [S.tyOf] at h; exact absurd h.symm ht)
theorem cnt_no {d : D} (h : isInt d = false) : cnt d = false := by cases d <;> first | rfl | cases h
theorem pos_no {m : Int} {d : D} (h : isInt d = false) : pos m d = false := by cases d <;> first | rfl | cases h
theorem c_is_list (W : Wf s) {d : D} {t : Ty} (h : s.tyOf d = some t) : callN tab wf (n + 1) 1 [d] s = .ok (.bl (decide (t = .lst ∨ t = .tup))) s := by
  refine call_W t_is_list rfl W rfl ?_
  cases t <;> simp only [↓wS, ↓wE, ↓wC, ↓wI, wV, wX, wM, wY, wB, wK, wT, b_is_list, h, wO] <;> rfl
theorem c_is_integer (W : Wf s) {d : D} {t : Ty} (h : s.tyOf d = some t) : callN tab wf (n + 1) 2 [d] s = .ok (.bl (isInt d)) s := by
  refine call_W t_is_integer rfl W rfl ?_
  by_cases ht : t = .int
  · subst ht
    obtain ⟨i, rfl⟩ := int_of_ty h
    simp only [↓wS, ↓wE, ↓wC, ↓wI, wV, wX, wM, wY, wB, wK, wT, b_is_integer, h, wO]
    rfl
  · rw [no_int h ht]
    cases t <;> first | exact absurd rfl ht | simp only [↓wS, ↓wE, ↓wC, ↓wI, wV, wX, wM, wY, wB, wK, wT, b_is_integer, h, wO]
theorem c_is_integerI (W : Wf s) {i : Int} : callN tab wf (n + 1) 2 [.int i] s = .ok (.bl true) s := c_is_integer W rfl
theorem c_is_count (W : Wf s) {d : D} {t : Ty} (h : s.tyOf d = some t) : callN tab wf (n + 2) 3 [d] s = .ok (.bl (cnt d)) s := by
  refine call_W t_is_count rfl W rfl ?_
  simp only [↓wS, ↓wE, ↓wC, ↓wI, wV, wX, wM, wY, wB, wK, wT, b_is_count, c_is_integer W h]
  cases hi : isInt d with
  | false =>
    rw [cnt_no hi]
    simp only [↓wS, ↓wE, ↓wC, ↓wI, wV, wX, wM, wY, wB, wK, wO]
  | true =>
    cases d <;> cases hi
    simp only [↓wS, ↓wE, ↓wC, ↓wI, wV, wX, wM, wY, wB, wK, wO]
    rfl
theorem c_is_countI (W : Wf s) {i : Int} : callN tab wf (n + 2) 3 [.int i] s = .ok (.bl (decide (0 ≤ i))) s := c_is_count W rfl
theorem c_is_position (W : Wf s) {d : D} {t : Ty} {m : Int} (h : s.tyOf d = some t) : callN tab wf (n + 2) 4 [d, .int m] s = .ok (.bl (pos m d)) s := by
  refine call_W t_is_position rfl W rfl ?_
  simp only [↓wS, ↓wE, ↓wC, ↓wI, wV, wX, wM, wY, wB, wK, wT, b_is_position, c_is_integer W h]
  cases hi : isInt d with
  | false =>
    rw [pos_no hi]
    simp only [↓wS, ↓wE, ↓wC, ↓wI, wV, wX, wM, wY, wB, wK, wO]
  | true =>
    cases d <;> cases hi
    simp only [↓wS, ↓wE, ↓wC, ↓wI, wV, wX, wM, wY, wB, wK]
    rename_i i
    refine brCh_pure (decide (i < m)) (fun _ => ?_) ?_
    · simp only [↓wS, ↓wE, ↓wC, ↓wI, wV, wX, wM, wY, wB, wK]
    · simp only [↓wS, ↓wE, ↓wC, ↓wI, wV, wX, wM, wY, wB, wK, wO, pos]
theorem c_is_positionI (W : Wf s) {m i : Int} : callN tab wf (n + 2) 4 [.int i, .int m] s = .ok (.bl (decide (0 ≤ i) && decide (i < m))) s := c_is_position W rfl
theorem c_is_least (W : Wf s) {xs ys : List Int} (hx : xs.length ≤ 64) : callN tab wf (n + 1) 5 [.tup (xs.map enc), .tup (ys.map enc)] s = .ok (.bl (geAll xs ys)) s := by
  refine call_W t_is_least rfl W rfl ?_
  simp only [↓wS, ↓wE, ↓wC, ↓wI, wV, wX, wM, wY, wB, wK, wT, b_is_least, zipD_en]
  refine ⟨by rw [List.length_zip]; omega, W_allC (fun p => decide (p.1 ≥ p.2)) (fun p _ => ?_) ?_⟩
  · simp only [↓wS, ↓wE, ↓wC, ↓wI, wV, wX, wM, wY, wB, wK, enc_pair]
  · simp only [↓wS, ↓wE, ↓wC, ↓wI, wV, wX, wM, wY, wB, wK, wO, geAll]
end
end Mi.L86
set_option Elab.async false
set_option linter.all false
set_option maxRecDepth 100000
set_option maxHeartbeats 400000
namespace Mi.L86
open PySem PySem.W
open Mi.En (enc)
abbrev Pl : Type := Int × Tup Int



structure Stp where
  at_ : Int
  wants : List Int
  outs : List Pl
structure Wea where
  sd : Int
  sk : Int
  steps : List Stp
def eT (xs : List Int) : D := .tup (xs.map enc)
def eS (t : Stp) : D := .tup [.str "step", .int t.at_, eT t.wants, .tup (t.outs.map enc)]
def eW (w : Wea) : D := .tup [.str "weather", .int w.sd, .int w.sk, .tup (w.steps.map eS)]
structure Stp.Ok (sd sk : Int) (t : Stp) : Prop where
  at0 : 0 ≤ t.at_
  at1 : t.at_ < sd
  wl : (t.wants.length : Int) = sk
  wr : ∀ x ∈ t.wants, 0 ≤ x ∧ x ≤ 9
  o1 : 1 ≤ t.outs.length
  o3 : t.outs.length ≤ 3
  og : ∀ p ∈ t.outs, 0 ≤ p.1 ∧ p.1 < sd
  ol : ∀ p ∈ t.outs, (p.2.items.length : Int) = sk
  oe : ∀ p ∈ t.outs, ∀ x ∈ p.2.items, -9 ≤ x ∧ x ≤ 9
  ow : ∀ p ∈ t.outs, ∀ q ∈ t.wants.zip p.2.items, 0 ≤ q.1 + q.2
structure Wea.Ok (w : Wea) : Prop where
  sd1 : 1 ≤ w.sd
  sd6 : w.sd ≤ 6
  sk1 : 1 ≤ w.sk
  sk3 : w.sk ≤ 3
  sl : w.steps.length ≤ 8
  st : ∀ t ∈ w.steps, t.Ok w.sd w.sk
def many (sd : Int) (caps : List Int) : Int := caps.foldl (fun a c => a * (c + 1)) sd
structure CapOk (w : Wea) (caps : List Int) : Prop where
  l : (caps.length : Int) = w.sk
  c : ∀ x ∈ caps, 0 ≤ x ∧ x ≤ 9
  few : many w.sd caps ≤ 600
theorem str_step : PyData.canLay0 (.str "step") = true := by decide +kernel
theorem str_weather : PyData.canLay0 (.str "weather") = true := by decide +kernel
theorem ne_step {s : S} {Q : VQ} : (evCmp .ne (.str "step") (.str "step") s).W Q = Q (.bl false) s := by rw [c_nestr str_step]; rfl
theorem ne_weather {s : S} {Q : VQ} : (evCmp .ne (.str "weather") (.str "weather") s).W Q = Q (.bl false) s := by rw [c_nestr str_weather]; rfl
section
variable {s : S} {Q : VQ} {w : Wea} {t : Stp} {p : Pl}
theorem xW1 : (evIx (eW w) (.int 1) s).W Q = Q (.int w.sd) s := by simp only [↓wS, ↓wE, ↓wC, ↓wI, wV, wX, wM, wY, wB, wK, eW]
theorem xW2 : (evIx (eW w) (.int 2) s).W Q = Q (.int w.sk) s := by simp only [↓wS, ↓wE, ↓wC, ↓wI, wV, wX, wM, wY, wB, wK, eW]
theorem xW3 : (evIx (eW w) (.int 3) s).W Q = Q (.tup (w.steps.map eS)) s := by simp only [↓wS, ↓wE, ↓wC, ↓wI, wV, wX, wM, wY, wB, wK, eW]
theorem xS1 : (evIx (eS t) (.int 1) s).W Q = Q (.int t.at_) s := by simp only [↓wS, ↓wE, ↓wC, ↓wI, wV, wX, wM, wY, wB, wK, eS]
theorem xS2 : (evIx (eS t) (.int 2) s).W Q = Q (eT t.wants) s := by simp only [↓wS, ↓wE, ↓wC, ↓wI, wV, wX, wM, wY, wB, wK, eS]
theorem xS3 : (evIx (eS t) (.int 3) s).W Q = Q (.tup (t.outs.map enc)) s := by simp only [↓wS, ↓wE, ↓wC, ↓wI, wV, wX, wM, wY, wB, wK, eS]
theorem xP0 : (evIx (enc p) (.int 0) s).W Q = Q (.int p.1) s := by rw [enc_pair]; simp only [↓wS, ↓wE, ↓wC, ↓wI, wV, wX, wM, wY, wB, wK]
theorem xP1 : (evIx (enc p) (.int 1) s).W Q = Q (eT p.2.items) s := by rw [enc_pair, enc_tup]; simp only [↓wS, ↓wE, ↓wC, ↓wI, wV, wX, wM, wY, wB, wK, eT]
theorem yP : s.tyOf (enc p) = some .tup := rfl
theorem yT {xs : List Int} : s.tyOf (eT xs) = some .tup := rfl
theorem lenP : (evBi .len [enc p] s).W Q = Q (.int 2) s := rfl
theorem lenT {xs : List Int} : (evBi .len [eT xs] s).W Q = Q (.int xs.length) s := by simp only [↓wS, ↓wE, ↓wC, ↓wI, wV, wX, wM, wY, wB, wK, eT]
theorem kT {xs : List Int} : s.walk (eT xs) = some (xs.map enc) := rfl
theorem kTs {xs : List Int} : s.walkS (eT xs) = some (xs.map enc) := rfl
theorem xStep {i : Int} (h0 : 0 ≤ i) {t : Stp} (ht : w.steps[i.toNat]? = some t) : (evIx (.tup (w.steps.map eS)) (.int i) s).W Q = Q (eS t) s := by
  simp only [↓wS, ↓wE, ↓wC, ↓wI, wV, wX, wM, wY, wB, wK, at_of h0, List.getElem?_map, ht, Option.map_some]
end
/-- what is read off a weather farm -/
theorem wW :
    (∀ {s Q} {w : Wea}, (evIx (eW w) (.int 1) s).W Q = Q (.int w.sd) s) ∧ (∀ {s Q} {w : Wea}, (evIx (eW w) (.int 2) s).W Q = Q (.int w.sk) s) ∧ (∀ {s Q} {w : Wea}, (evIx (eW w) (.int 3) s).W Q = Q (.tup (w.steps.map eS)) s) ∧
    (∀ {s Q} {t : Stp}, (evIx (eS t) (.int 1) s).W Q = Q (.int t.at_) s) ∧ (∀ {s Q} {t : Stp}, (evIx (eS t) (.int 2) s).W Q = Q (eT t.wants) s) ∧ (∀ {s Q} {t : Stp}, (evIx (eS t) (.int 3) s).W Q = Q (.tup (t.outs.map enc)) s) ∧
    (∀ {s Q} {p : Pl}, (evIx (enc p) (.int 0) s).W Q = Q (.int p.1) s) ∧ (∀ {s Q} {p : Pl}, (evIx (enc p) (.int 1) s).W Q = Q (eT p.2.items) s) ∧ (∀ {s} {p : Pl}, S.tyOf s (enc p) = some .tup) ∧ (∀ {s} {xs : List Int}, S.tyOf s (eT xs) = some .tup) ∧
    (∀ {s Q} {p : Pl}, (evBi .len [enc p] s).W Q = Q (.int 2) s) ∧ (∀ {s Q} {xs : List Int}, (evBi .len [eT xs] s).W Q = Q (.int xs.length) s) ∧ (∀ {s} {xs : List Int}, S.walk s (eT xs) = some (xs.map enc)) ∧ (∀ {s} {xs : List Int}, S.walkS s (eT xs) = some (xs.map enc)) ∧ (∀ {xs : List Int}, isTupD (eT xs) = true) :=
  ⟨xW1, xW2, xW3, xS1, xS2, xS3, xP0, xP1, yP, yT, lenP, lenT, kT, kTs, rfl⟩
section
variable {wf n : Nat} {s : S}
theorem c_outcome (W : Wf s) {sd sk : Int} {t : Stp} (h : t.Ok sd sk) {p : Pl} (hp : p ∈ t.outs) (hk : sk ≤ 3) : callN tab wf (n + 3) 6 [.int sd, eT t.wants, enc p] s = .ok (.bl true) s := by
  refine call_W t_outcome_is_right rfl W rfl ?_
  have hl1 := h.wl
  have hl2 := h.ol p hp
  have g := h.og p hp
  have e1 : ((p.2.items.length : Int) = (t.wants.length : Int)) := by omega
  simp only [↓wS, ↓wE, ↓wC, ↓wI, wV, wX, wM, wY, wB, wK, wT, b_outcome_is_right, wW, c_is_positionI W, g.1, g.2, e1, decide_true]
  refine ⟨by omega, W_allT (fun x hx => ?_) ?_⟩
  · have := h.oe p hp x hx
    simp only [↓wS, ↓wE, ↓wC, ↓wI, wV, wX, wM, wY, wB, wK, c_is_integerI W]
    exact ⟨by simp; split <;> omega, rfl⟩
  · simp only [↓wS, ↓wE, ↓wC, ↓wI, wV, wX, wM, wY, wB, wK, zipD_en, wW]
    refine ⟨by rw [List.length_zip]; omega, W_allT (fun q hq => ?_) ?_⟩
    · have := h.ow p hp q hq
      simp only [↓wS, ↓wE, ↓wC, ↓wI, wV, wX, wM, wY, wB, wK, enc_pair, this, decide_true]
    · simp only [↓wS, ↓wE, ↓wC, ↓wI, wV, wX, wM, wY, wB, wK, wO]
theorem c_wants (W : Wf s) {sk : Int} {xs : List Int} (hl : (xs.length : Int) = sk) (hk : sk ≤ 3) (hr : ∀ x ∈ xs, 0 ≤ x ∧ x ≤ 9) : callN tab wf (n + 3) 7 [.int sk, eT xs] s = .ok (.bl true) s := by
  refine call_W t_wants_are_right rfl W rfl ?_
  simp only [↓wS, ↓wE, ↓wC, ↓wI, wV, wX, wM, wY, wB, wK, wT, b_wants_are_right, wW, hl, decide_true]
  refine ⟨by omega, W_allT (fun x hx => ?_) ?_⟩
  · have := hr x hx
    simp only [↓wS, ↓wE, ↓wC, ↓wI, wV, wX, wM, wY, wB, wK, c_is_countI W, this.1, this.2, decide_true]
  · simp only [↓wS, ↓wE, ↓wC, ↓wI, wV, wX, wM, wY, wB, wK, wO]
theorem c_step (W : Wf s) {sd sk : Int} {t : Stp} (h : t.Ok sd sk) (hk : sk ≤ 3) : callN tab wf (n + 4) 8 [.int sd, .int sk, eS t] s = .ok (.bl true) s := by
  refine call_W t_step_is_right rfl W rfl ?_
  have o1 := h.o1
  have o3 := h.o3
  have a1 : (1 : Int) ≤ (t.outs.length : Int) := by omega
  have a2 : (t.outs.length : Int) ≤ 3 := by omega
  simp only [↓wS, ↓wE, ↓wC, ↓wI, wV, wX, wM, wY, wB, wK, wT, b_step_is_right, eS, ne_step, c_is_positionI W, h.at0, h.at1, decide_true, c_wants W h.wl hk h.wr, a1, a2]
  refine ⟨by omega, W_allT (fun p hp => ?_) ?_⟩
  · simp only [↓wS, ↓wE, ↓wC, ↓wI, wV, wX, wM, wY, wB, wK, c_outcome W h hp hk]
  · simp only [↓wS, ↓wE, ↓wC, ↓wI, wV, wX, wM, wY, wB, wK, wO]
theorem c_weather (W : Wf s) {w : Wea} (h : w.Ok) : callN tab wf (n + 5) 9 [eW w] s = .ok (.bl true) s := by
  refine call_W t_weather_is_right rfl W rfl ?_
  have sl := h.sl
  have a : ¬ (8 : Int) < (w.steps.length : Int) := by omega
  simp only [↓wS, ↓wE, ↓wC, ↓wI, wV, wX, wM, wY, wB, wK, wT, b_weather_is_right, eW, ne_weather, c_is_integerI W, h.sd1, h.sd6, h.sk1, h.sk3, decide_true, a, decide_false]
  refine ⟨by omega, W_allT (fun t ht => ?_) ?_⟩
  · simp only [↓wS, ↓wE, ↓wC, ↓wI, wV, wX, wM, wY, wB, wK, c_step W (h.st t ht) h.sk3]
  · simp only [↓wS, ↓wE, ↓wC, ↓wI, wV, wX, wM, wY, wB, wK, wO]
theorem c_check_weather (W : Wf s) {w : Wea} (h : w.Ok) : callN tab wf (n + 6) 11 [eW w] s = .ok .non s := by
  refine call_W t_check_weather rfl W rfl ?_
  simp only [↓wS, ↓wE, ↓wC, ↓wI, wV, wX, wM, wY, wB, wK, wT, b_check_weather, c_weather W h, wO]
theorem c_check_capped (W : Wf s) {w : Wea} (h : w.Ok) {caps : List Int} (hc : CapOk w caps) : callN tab wf (n + 7) 12 [eW w, eT caps] s = .ok .non s := by
  refine call_W t_check_capped rfl W rfl ?_
  simp only [↓wS, ↓wE, ↓wC, ↓wI, wV, wX, wM, wY, wB, wK, wT, b_check_capped, c_check_weather W h, wW, c_wants W hc.l h.sk3 hc.c, wO]
theorem mul_small {i j : Int} (h0 : 0 ≤ j) (h1 : j ≤ 1000) : mulOk i j = true := by
  simp only [mulOk, Bool.or_eq_true, Bool.and_eq_true, decide_eq_true_eq]
  right
  omega
theorem c_check_few (W : Wf s) {w : Wea} {caps : List Int} (hc : CapOk w caps) : callN tab wf (n + 1) 13 [eW w, eT caps] s = .ok .non s := by
  refine call_W t_check_few rfl W rfl ?_
  simp only [↓wS, ↓wE, ↓wC, ↓wI, wV, wX, wM, wY, wB, wK, wT, b_check_few, wW]
  refine W_for (fun pre τ t => ∃ o : Option D, t = s ∧ τ = [some (eW w), some (eT caps), some (.int (many w.sd pre)), o]) ⟨none, rfl, rfl⟩ ?_ ?_
  · rintro pre x post τ t hx ⟨o, rfl, rfl⟩
    have := hc.c x (by rw [hx]; simp)
    simp only [↓wS, ↓wE, ↓wC, ↓wI, wV, wX, wM, wY, wB, wK]
    refine ⟨mul_small (by omega) (by omega), some (.int x), ?_⟩
    simp [many]
  · rintro τ t ⟨o, rfl, rfl⟩
    have hf := hc.few
    have : ¬ (600 < many w.sd caps) := by omega
    simp only [↓wS, ↓wE, ↓wC, ↓wI, wV, wX, wM, wY, wB, wK, this, decide_false, wO]
end
end Mi.L86
set_option Elab.async false
set_option linter.all false
set_option maxRecDepth 100000
set_option maxHeartbeats 400000
namespace Mi.L86
open PySem PySem.W
open Mi.En (enc)
/-! ### places -/
def longer (rows : List (Tup Int)) (c : Int) : List (Tup Int) := rows.flatMap fun r => (up 0 (c + 1).toNat).map fun i => ⟨r.items ++ [i]⟩
def rowsOf (caps : List Int) : List (Tup Int) := caps.foldl longer [⟨[]⟩]
def placesOf (sd : Int) (caps : List Int) : List Pl := (up 0 sd.toNat).flatMap fun st => (rowsOf caps).map fun r => (st, r)
theorem sum_const {α : Type} (k : Nat) : ∀ xs : List α, (xs.map fun _ => k).sum = xs.length * k
  | [] => by simp
  | x :: xs => by
    rw [List.map_cons, List.sum_cons, sum_const k xs, List.length_cons, Nat.succ_mul, Nat.add_comm]
theorem longer_len (rows : List (Tup Int)) (c : Int) : (longer rows c).length = rows.length * (c + 1).toNat := by
  unfold longer
  rw [List.length_flatMap]
  simp [sum_const]
theorem rows_len_le : ∀ (caps : List Int) (rows : List (Tup Int)), (∀ c ∈ caps, 0 ≤ c ∧ c ≤ 9) → (caps.foldl longer rows).length ≤ rows.length * 10 ^ caps.length
  | [], rows, _ => by simp
  | c :: caps, rows, h => by
    have h1 := h c List.mem_cons_self
    have ih := rows_len_le caps (longer rows c) fun d hd => h d (List.mem_cons_of_mem _ hd)
    rw [List.foldl_cons, List.length_cons, Nat.pow_succ]
    refine Nat.le_trans ih ?_
    rw [longer_len]
    have : (c + 1).toNat ≤ 10 := by omega
    calc rows.length * (c + 1).toNat * 10 ^ caps.length ≤ rows.length * 10 * 10 ^ caps.length := Nat.mul_le_mul_right _ (Nat.mul_le_mul_left _ this)
      _ = rows.length * (10 ^ caps.length * 10) := by rw [Nat.mul_assoc, Nat.mul_comm 10]
theorem item_len : ∀ (caps : List Int) (rows : List (Tup Int)) (k : Nat), (∀ r ∈ rows, r.items.length = k) → ∀ r ∈ caps.foldl longer rows, r.items.length = k + caps.length
  | [], rows, k, h => h
  | c :: caps, rows, k, h => by
    rw [List.foldl_cons]
    intro r hr
    have := item_len caps (longer rows c) (k + 1) (fun r hr => by
      unfold longer at hr
      obtain ⟨q, hq, hr⟩ := List.mem_flatMap.mp hr
      obtain ⟨i, _, rfl⟩ := List.mem_map.mp hr
      simp [h q hq]) r hr
    rw [this, List.length_cons]
    omega
theorem rows_le {caps : List Int} (hc : ∀ c ∈ caps, 0 ≤ c ∧ c ≤ 9) {k : Nat} (hl : caps.length ≤ k) : (rowsOf caps).length ≤ 10 ^ k := by
  have h1 := rows_len_le caps [⟨[]⟩] hc
  have h2 : 10 ^ caps.length ≤ 10 ^ k := Nat.pow_le_pow_right (by decide) hl
  have h3 : ([(⟨[]⟩ : Tup Int)]).length = 1 := rfl
  rw [h3] at h1
  unfold rowsOf
  omega
theorem caps_len {w : Wea} (h : w.Ok) {caps : List Int} (hc : CapOk w caps) : caps.length ≤ 3 := by have := hc.l; have := h.sk3; omega
theorem places_len {w : Wea} (h : w.Ok) {caps : List Int} (hc : CapOk w caps) : (placesOf w.sd caps).length ≤ 6000 := by
  have hR := rows_le hc.c (caps_len h hc)
  have hsd := h.sd6
  have hsd1 := h.sd1
  unfold placesOf
  rw [List.length_flatMap]
  simp [sum_const]
  calc w.sd.toNat * (rowsOf caps).length ≤ 6 * 1000 := Nat.mul_le_mul (by omega) hR
    _ = 6000 := rfl
theorem length_le_flatMap {α β : Type} {xs pre post : List α} {f : α → List β} (h : xs = pre ++ post) : (pre.flatMap f).length ≤ (xs.flatMap f).length := by
  rw [h, List.flatMap_append, List.length_append]
  omega
section
variable {wf n : Nat} {s : S}
theorem body_places (W : Wf s) {w : Wea} (h : w.Ok) {caps : List Int} (hc : CapOk w caps) : (evSs (cc tab wf n) b_all_places (startT 9 [eW w, eT caps]) s).W (fun _ t => D.non = .lst ((placesOf w.sd caps).map enc) ∧ Over s t) (fun x t => x = .lst ((placesOf w.sd caps).map enc) ∧ Over s t) noT noT := by
  have hl := caps_len h hc
  simp only [↓wS, ↓wE, ↓wC, ↓wI, wV, wX, wM, wY, wB, wK, wT, b_all_places, wW]
  refine W_for (fun pre τ t => ∃ o3 o4 o5, τ = [some (eW w), some (eT caps), some (.lst ((rowsOf pre).map enc)), o3, o4, o5, none, none, none] ∧ Over s t) ⟨none, none, none, rfl, Over.refl s⟩ ?_ ?_
  · rintro pre c post τ t hx ⟨o3, o4, o5, rfl, ho⟩
    have hcr := hc.c c (by rw [hx]; simp)
    have hpl : pre.length + 1 ≤ caps.length := by rw [hx]; simp
    have hR : (rowsOf pre).length ≤ 10 ^ 2 := rows_le (fun d hd => hc.c d (by rw [hx]; simp [hd])) (by omega)
    have hL : (longer (rowsOf pre) c).length ≤ 1000 := by
      rw [longer_len]
      have h4 : (c + 1).toNat ≤ 10 := by omega
      calc (rowsOf pre).length * (c + 1).toNat ≤ 10 ^ 2 * 10 := Nat.mul_le_mul hR h4
        _ = 1000 := rfl
    simp only [↓wS, ↓wE, ↓wC, ↓wI, wV, wX, wM, wY, wB, wK]
    refine W_for (fun rs τ u => ∃ o5, τ = [some (eW w), some (eT caps), some (.lst ((rowsOf pre).map enc)), some (.int c), some (.ref t.nx), o5, none, none, none] ∧ u = t.add (.lst false ((longer rs c).map enc))) ⟨o5, rfl, rfl⟩ ?_ ?_
    · rintro rs r post2 τ2 u hx2 ⟨o5, rfl, rfl⟩
      have hrl : r.items.length ≤ 2 := by
        have := item_len pre [⟨[]⟩] 0 (fun r hr => by simp at hr; rw [hr]; rfl) r (by show r ∈ rowsOf pre; rw [hx2]; simp)
        omega
      simp only [↓wS, ↓wE, ↓wC, ↓wI, wV, wX, wM, wY, wB, wK, rangeD_up]
      refine ⟨by omega, by rw [up_len]; omega, ?_⟩
      refine W_map (fun i : Int => enc (⟨r.items ++ [i]⟩ : Tup Int)) (fun i hi => ?_) ?_
      · simp only [↓wS, ↓wE, ↓wC, ↓wI, wV, wX, wM, wY, wB, wK, enc_tup]
        refine ⟨by simp; omega, ?_⟩
        simp [isQ]
        rfl
      · have h6 : (longer (rs ++ [r]) c) = longer rs c ++ (up 0 (c + 1).toNat).map fun i => ⟨r.items ++ [i]⟩ := by
          unfold longer
          simp
        have h5 : (longer (rs ++ [r]) c).length ≤ (longer (rowsOf pre) c).length := by
          rw [hx2]
          unfold longer
          exact length_le_flatMap (post := post2) (by simp)
        rw [h6] at h5
        simp at h5
        simp only [↓wS, ↓wE, ↓wC, ↓wI, wV, wX, wM, wY, wB, wK]
        refine ⟨by simp; omega, some (enc r), rfl, ?_⟩
        rw [h6]
        simp [Function.comp_def]
    · rintro τ u ⟨o5, rfl, rfl⟩
      simp only [↓wS, ↓wE, ↓wC, ↓wI, wV, wX, wM, wY, wB, wK]
      rw [show rowsOf (pre ++ [c]) = longer (rowsOf pre) c by unfold rowsOf; rw [List.foldl_append]; rfl]
      exact ⟨_, _, _, rfl, Over.add ho⟩
  · rintro τ t ⟨o3, o4, o5, rfl, ho⟩
    have hR := rows_le hc.c hl
    have hsd := h.sd6
    have hsd1 := h.sd1
    have hP := places_len h hc
    simp only [↓wS, ↓wE, ↓wC, ↓wI, wV, wX, wM, wY, wB, wK, wW, rangeD_up]
    refine ⟨by omega, ?_⟩
    refine W_for (fun rs τ u => ∃ o5 o7, τ = [some (eW w), some (eT caps), some (.lst ((rowsOf caps).map enc)), o3, o4, o5, some (.ref t.nx), o7, none] ∧ u = t.add (.lst false ((rs.flatMap fun st => (rowsOf caps).map fun r => ((st, r) : Pl)).map enc))) ⟨o5, none, rfl, rfl⟩ ?_ ?_
    · rintro rs i post2 τ2 u hx2 ⟨o5, o7, rfl, rfl⟩
      simp only [↓wS, ↓wE, ↓wC, ↓wI, wV, wX, wM, wY, wB, wK]
      refine ⟨by omega, ?_⟩
      refine W_map (fun r : Tup Int => enc ((i, r) : Pl)) (fun r hr => ?_) ?_
      · simp only [↓wS, ↓wE, ↓wC, ↓wI, wV, wX, wM, wY, wB, wK, enc_pair]
      · have h5 : ((rs ++ [i]).flatMap fun st => (rowsOf caps).map fun r => ((st, r) : Pl)).length ≤ (placesOf w.sd caps).length := by
          unfold placesOf
          rw [hx2]
          exact length_le_flatMap (post := post2) (by simp)
        rw [List.flatMap_append] at h5
        simp at h5
        simp only [↓wS, ↓wE, ↓wC, ↓wI, wV, wX, wM, wY, wB, wK]
        refine ⟨by simp; omega, o5, some (.int i), rfl, ?_⟩
        simp [Function.comp_def]
    · rintro τ u ⟨o5, o7, rfl, rfl⟩
      simp only [↓wS, ↓wE, ↓wC, ↓wI, wV, wX, wM, wY, wB, wK]
      exact ⟨rfl, Over.add ho⟩
theorem lst_low {xs : List Pl} {m : Nat} : below m (.lst (xs.map enc)) = true := by
  show belows m (xs.map enc) = true
  exact lows_map m xs
theorem c_all_places (W : Wf s) {w : Wea} (h : w.Ok) {caps : List Int} (hc : CapOk w caps) : callN tab wf (n + 1) 15 [eW w, eT caps] s = .ok (.lst ((placesOf w.sd caps).map enc)) s :=
  call_W t_all_places rfl W lst_low (body_places W h hc)
theorem c_law_places (W : Wf s) {w : Wea} (h : w.Ok) {caps : List Int} (hc : CapOk w caps) : callN tab wf (n + 1) 43 [eW w, eT caps] s = .ok (.lst ((placesOf w.sd caps).map enc)) s :=
  call_W t__law_places rfl W lst_low (body_places W h hc)
end
end Mi.L86
set_option Elab.async false
set_option linter.all false
set_option maxRecDepth 100000
set_option maxHeartbeats 400000
namespace Mi.L86
open PySem PySem.W
open Mi.En (enc)
/-! ### steps that are let; what comes out -/
def stB (t : Stp) (p : Pl) : Bool := decide (t.at_ = p.1) && geAll p.2.items t.wants
def letB (w : Wea) (p : Pl) (i : Int) : Bool := match w.steps[i.toNat]? with
  | some t => stB t p
  | none => false
def letL (w : Wea) (p : Pl) : List Int := (up 0 w.steps.length).filter (letB w p)
def z3 (caps row eff : List Int) : List Int := (caps.zip (row.zip eff)).map fun q => if q.2.1 + q.2.2 < q.1 then q.2.1 + q.2.2 else q.1
def comeL (caps : List Int) (p : Pl) (t : Stp) : List Pl := t.outs.map fun o => (o.1, ⟨z3 caps p.2.items o.2.items⟩)
def comesL (w : Wea) (caps : List Int) (p : Pl) (i : Int) : List Pl := match w.steps[i.toNat]? with
  | some t => comeL caps p t
  | none => []
theorem mem_letL {w : Wea} {p : Pl} {i : Int} : i ∈ letL w p ↔ ∃ t, 0 ≤ i ∧ w.steps[i.toNat]? = some t ∧ stB t p = true := by
  unfold letL
  rw [List.mem_filter, mem_up]
  unfold letB
  constructor
  · rintro ⟨h1, h2⟩
    cases e : w.steps[i.toNat]? with
    | none => rw [e] at h2; cases h2
    | some t => rw [e] at h2; exact ⟨t, h1.1, rfl, h2⟩
  · rintro ⟨t, h0, h1, h2⟩
    have := (List.getElem?_eq_some_iff.mp h1).1
    rw [h1]
    exact ⟨⟨h0, by omega⟩, h2⟩
theorem letL_len (w : Wea) (p : Pl) : (letL w p).length ≤ w.steps.length := by
  have h2 : (letL w p).length ≤ (up 0 w.steps.length).length := List.length_filter_le _ _
  rwa [up_len] at h2
/-- place_within, at a place -/
def within (sd : Int) (caps : List Int) (p : Pl) : Bool := (decide (0 ≤ p.1) && decide (p.1 < sd)) && (decide (p.2.items.length = caps.length) && (p.2.items.zip caps).all fun q => decide (0 ≤ q.1) && decide (q.1 ≤ q.2))
section
variable {wf n : Nat} {s : S}
theorem ints_low {xs : List Int} {m : Nat} : below m (.lst (xs.map enc)) = true := by
  show belows m (xs.map enc) = true
  exact lows_map m xs
theorem c_is_leastT (W : Wf s) {xs ys : List Int} (hx : xs.length ≤ 64) : callN tab wf (n + 1) 5 [eT xs, eT ys] s = .ok (.bl (geAll xs ys)) s := c_is_least W hx
theorem c_is_let (W : Wf s) {w : Wea} {p : Pl} (hp : p.2.items.length ≤ 64) {i : Int} (h0 : 0 ≤ i) {t : Stp} (ht : w.steps[i.toNat]? = some t) : callN tab wf (n + 2) 16 [eW w, enc p, .int i] s = .ok (.bl (stB t p)) s := by
  refine call_W t_is_let_here rfl W rfl ?_
  simp only [↓wS, ↓wE, ↓wC, ↓wI, wV, wX, wM, wY, wB, wK, wT, b_is_let_here, wW, xStep h0 ht]
  refine brAnd_pure (geAll p.2.items t.wants) (fun _ => ?_) ?_
  · simp only [↓wS, ↓wE, ↓wC, ↓wI, wV, wX, wM, wY, wB, wK, wW, xStep h0 ht, c_is_leastT W hp]
  · simp only [↓wS, ↓wE, ↓wC, ↓wI, wV, wX, wM, wY, wB, wK, wO, stB]
theorem c_let_here (W : Wf s) {w : Wea} (h : w.Ok) {p : Pl} (hp : p.2.items.length ≤ 64) : callN tab wf (n + 3) 17 [eW w, enc p] s = .ok (.lst ((letL w p).map enc)) s := by
  have hl := h.sl
  have key : ∀ i ∈ up 0 w.steps.length, callN tab wf (n + 2) 16 [eW w, enc p, .int i] s = .ok (.bl (letB w p i)) s := by
    intro i hi
    have hi := mem_up.mp hi
    have hlt : i.toNat < w.steps.length := by omega
    have ht : w.steps[i.toNat]? = some (w.steps[i.toNat]'hlt) := List.getElem?_eq_getElem hlt
    rw [c_is_let W hp hi.1 ht]
    unfold letB
    rw [ht]
  refine call_W t_let_here rfl W ints_low ?_
  simp only [↓wS, ↓wE, ↓wC, ↓wI, wV, wX, wM, wY, wB, wK, wT, b_let_here, wW, rangeD_up, Int.toNat_natCast]
  refine ⟨by omega, by rw [up_len]; omega, W_filter (letB w p) enc (fun i hi => ?_) ?_⟩
  · simp only [↓wS, ↓wE, ↓wC, ↓wI, wV, wX, wM, wY, wB, wK, key i hi]
    refine brT_if rfl (fun _ => ?_)
    simp only [↓wS, ↓wE, ↓wC, ↓wI, wV, wX, wM, wY, wB, wK]
  · simp only [↓wS, ↓wE, ↓wC, ↓wI, wV, wX, wM, wY, wB, wK]
    exact ⟨rfl, Over.refl s⟩
theorem c_outcomes (W : Wf s) {w : Wea} (h : w.Ok) {caps : List Int} (hc : CapOk w caps) {p : Pl} {i : Int} (h0 : 0 ≤ i) {t : Stp} (ht : w.steps[i.toNat]? = some t) : callN tab wf (n + 1) 18 [eW w, eT caps, enc p, .int i] s = .ok (.lst ((comeL caps p t).map enc)) s := by
  have hok := h.st t (List.mem_of_getElem? ht)
  have hcl := caps_len h hc
  refine call_W t_outcomes_at rfl W lst_low ?_
  simp only [↓wS, ↓wE, ↓wC, ↓wI, wV, wX, wM, wY, wB, wK, wT, b_outcomes_at, wW, xStep h0 ht]
  refine W_for (fun pre τ u => ∃ o5 o6 o7, τ = [some (eW w), some (eT caps), some (enc p), some (.int i), some (.ref s.nx), o5, o6, o7, none, none, none] ∧ u = s.add (.lst false ((pre.map fun o : Pl => ((o.1, ⟨z3 caps p.2.items o.2.items⟩) : Pl)).map enc))) ⟨none, none, none, rfl, rfl⟩ ?_ ?_
  · rintro pre o post τ u hx ⟨o5, o6, o7, rfl, rfl⟩
    have hpl : pre.length < 3 := by
      have := hok.o3
      rw [hx] at this
      simp at this
      omega
    simp only [↓wS, ↓wE, ↓wC, ↓wI, wV, wX, wM, wY, wB, wK, enc_pair, wW, enc_tup, zipD3_en]
    simp only [↓wS, ↓wE, ↓wC, ↓wI, wV, wX, wM, wY, wB, wK, eT, zipD3_en]
    refine ⟨by simp [List.length_zip]; omega, W_map (fun q : Int × Int × Int => enc (if q.2.1 + q.2.2 < q.1 then q.2.1 + q.2.2 else q.1)) (fun q hq => ?_) ?_⟩
    · simp only [↓wS, ↓wE, ↓wC, ↓wI, wV, wX, wM, wY, wB, wK]
    · simp only [↓wS, ↓wE, ↓wC, ↓wI, wV, wX, wM, wY, wB, wK]
      refine ⟨by omega, some (.int o.1), some (.tup (o.2.items.map enc)), some (.lst ((z3 caps p.2.items o.2.items).map enc)), ?_, ?_⟩
      · simp [z3, Function.comp_def, e_int]
      · simp [z3, enc_pair, enc_tup, Function.comp_def, e_int]
  · rintro τ u ⟨o5, o6, o7, rfl, rfl⟩
    simp only [↓wS, ↓wE, ↓wC, ↓wI, wV, wX, wM, wY, wB, wK]
    exact ⟨rfl, Over.add (Over.refl s)⟩
theorem c_law_least (W : Wf s) {xs ys : List Int} (hx : xs.length ≤ 64) : callN tab wf (n + 1) 44 [eT xs, eT ys] s = .ok (.bl (geAll xs ys)) s := by
  refine call_W t__law_is_least rfl W rfl ?_
  simp only [↓wS, ↓wE, ↓wC, ↓wI, wV, wX, wM, wY, wB, wK, wT, b__law_is_least, wW, zipD_en]
  refine ⟨by rw [List.length_zip]; omega, ?_⟩
  refine W_eqN (fun p : Int × Int => decide (p.1 < p.2)) (fun p : Int × Int => p.1) (fun p _ => ?_) ?_
  · simp only [↓wS, ↓wE, ↓wC, ↓wI, wV, wX, wM, wY, wB, wK, enc_pair]
    refine brT_if rfl (fun _ => ?_)
    simp only [↓wS, ↓wE, ↓wC, ↓wI, wV, wX, wM, wY, wB, wK]
  · refine ⟨?_, Over.refl s⟩
    congr 1
    unfold geAll
    rw [Bool.eq_iff_iff]
    simp
theorem c_law_let (W : Wf s) {w : Wea} (h : w.Ok) {p : Pl} (hp : p.2.items.length ≤ 64) : callN tab wf (n + 2) 45 [eW w, enc p] s = .ok (.lst ((letL w p).map enc)) s := by
  refine call_W t__law_let rfl W ints_low ?_
  have hl := h.sl
  simp only [↓wS, ↓wE, ↓wC, ↓wI, wV, wX, wM, wY, wB, wK, wT, b__law_let, wW, enumD_map]
  refine ⟨by rw [enumL_len]; omega, ?_⟩
  refine W_filter (fun q : Int × Stp => stB q.2 p) (fun q : Int × Stp => enc q.1) (fun q hq => ?_) ?_
  · simp only [↓wS, ↓wE, ↓wC, ↓wI, wV, wX, wM, wY, wB, wK, wW]
    refine brAnd_pure (geAll p.2.items q.2.wants) (fun _ => ?_) ?_
    · simp only [↓wS, ↓wE, ↓wC, ↓wI, wV, wX, wM, wY, wB, wK, wW, c_law_least W hp]
    · simp only [↓wS, ↓wE, ↓wC, ↓wI, wV, wX, wM, wY, wB, wK]
      refine brT_if rfl (fun _ => ?_)
      simp only [↓wS, ↓wE, ↓wC, ↓wI, wV, wX, wM, wY, wB, wK]
  · have := enum_filter (fun t => stB t p) w.steps 0
    have e4 : ((enumL 0 w.steps).filter fun q => stB q.2 p).map (fun q => (enc q.1 : D)) = (letL w p).map enc := by
      rw [show ((fun q : Int × Stp => (enc q.1 : D))) = enc ∘ (fun q => q.1) from rfl, ← List.map_map, this]
      congr 1
      unfold letL
      simp
      apply List.filter_congr
      intro i _
      unfold letB
      split <;> rename_i q <;> rw [q]
    rw [e4]
    simp only [↓wS, ↓wE, ↓wC, ↓wI, wV, wX, wM, wY, wB, wK, wO]
theorem c_comes_out (W : Wf s) {w : Wea} (h : w.Ok) {caps : List Int} (hc : CapOk w caps) {p : Pl} {i : Int} (h0 : 0 ≤ i) {t : Stp} (ht : w.steps[i.toNat]? = some t) : callN tab wf (n + 1) 46 [eW w, eT caps, enc p, .int i] s = .ok (.lst ((comeL caps p t).map enc)) s := by
  have hok := h.st t (List.mem_of_getElem? ht)
  have hcl := caps_len h hc
  refine call_W t__law_comes_out rfl W lst_low ?_
  simp only [↓wS, ↓wE, ↓wC, ↓wI, wV, wX, wM, wY, wB, wK, wT, b__law_comes_out, wW, xStep h0 ht]
  refine W_for (fun pre τ u => ∃ o5 o6, τ = [some (eW w), some (eT caps), some (enc p), some (.int i), some (.ref s.nx), o5, o6, none, none, none] ∧ u = s.add (.lst false ((pre.map fun o : Pl => ((o.1, ⟨z3 caps p.2.items o.2.items⟩) : Pl)).map enc))) ⟨none, none, rfl, rfl⟩ ?_ ?_
  · rintro pre o post τ u hx ⟨o5, o6, rfl, rfl⟩
    have hpl : pre.length < 3 := by
      have := hok.o3
      rw [hx] at this
      simp at this
      omega
    simp only [↓wS, ↓wE, ↓wC, ↓wI, wV, wX, wM, wY, wB, wK, enc_pair, wW, enc_tup, zipD3_en]
    simp only [↓wS, ↓wE, ↓wC, ↓wI, wV, wX, wM, wY, wB, wK, eT, zipD3_en]
    refine ⟨by simp [List.length_zip]; omega, W_map (fun q : Int × Int × Int => enc (if q.2.1 + q.2.2 < q.1 then q.2.1 + q.2.2 else q.1)) (fun q hq => ?_) ?_⟩
    · simp only [↓wS, ↓wE, ↓wC, ↓wI, wV, wX, wM, wY, wB, wK]
    · simp only [↓wS, ↓wE, ↓wC, ↓wI, wV, wX, wM, wY, wB, wK]
      refine ⟨by omega, some (.int o.1), some (.tup (o.2.items.map enc)), rfl, ?_⟩
      simp [z3, enc_pair, enc_tup, Function.comp_def, e_int]
  · rintro τ u ⟨o5, o6, rfl, rfl⟩
    simp only [↓wS, ↓wE, ↓wC, ↓wI, wV, wX, wM, wY, wB, wK]
    exact ⟨rfl, Over.add (Over.refl s)⟩
theorem c_within (W : Wf s) {w : Wea} (h : w.Ok) {caps : List Int} (hc : CapOk w caps) {p : Pl} : callN tab wf (n + 3) 10 [eW w, eT caps, enc p] s = .ok (.bl (within w.sd caps p)) s := by
  have hcl := caps_len h hc
  refine call_W t_place_within rfl W rfl ?_
  simp only [↓wS, ↓wE, ↓wC, ↓wI, wV, wX, wM, wY, wB, wK, wT, b_place_within, wW, c_is_positionI W]
  cases h1 : (decide (0 ≤ p.1) && decide (p.1 < w.sd)) with
  | false => simp only [↓wS, ↓wE, ↓wC, ↓wI, wV, wX, wM, wY, wB, wK, wO, within, h1]
  | true =>
    by_cases h2 : p.2.items.length = caps.length
    · simp only [↓wS, ↓wE, ↓wC, ↓wI, wV, wX, wM, wY, wB, wK, wW, h2, zipD_en]
      refine ⟨by rw [List.length_zip]; omega, W_allC (fun q => decide (0 ≤ q.1) && decide (q.1 ≤ q.2)) (fun q _ => ?_) ?_⟩
      · simp only [↓wS, ↓wE, ↓wC, ↓wI, wV, wX, wM, wY, wB, wK, enc_pair, c_is_countI W]
        refine brAnd_pure (decide (q.1 ≤ q.2)) (fun _ => ?_) ?_ <;> simp only [↓wS, ↓wE, ↓wC, ↓wI, wV, wX, wM, wY, wB, wK]
      · simp only [↓wS, ↓wE, ↓wC, ↓wI, wV, wX, wM, wY, wB, wK, wO, within, h1, h2]
    · have h3 : ¬ ((p.2.items.length : Int) = (caps.length : Int)) := by omega
      simp only [↓wS, ↓wE, ↓wC, ↓wI, wV, wX, wM, wY, wB, wK, wW, h3, wO, within, h1, h2]
end
end Mi.L86
set_option Elab.async false
set_option linter.all false
set_option maxRecDepth 100000
set_option maxHeartbeats 400000
namespace Mi.L86
open PySem PySem.W
open Mi.En (enc)
/-! ### the places: which, in what order -/
theorem mem_longer {caps : List Int} : ∀ {rows : List (Tup Int)} {r : Tup Int}, r ∈ caps.foldl longer rows ↔ ∃ r0 ∈ rows, ∃ t : List Int, r.items = r0.items ++ t ∧ t.length = caps.length ∧ (t.zip caps).all (fun q => decide (0 ≤ q.1) && decide (q.1 ≤ q.2)) = true := by
  induction caps with
  | nil =>
    intro rows r
    constructor
    · intro h
      exact ⟨r, h, [], by simp, rfl, rfl⟩
    · rintro ⟨r0, h, t, h1, h2, _⟩
      have : t = [] := List.length_eq_zero_iff.mp h2
      subst this
      rw [List.append_nil] at h1
      have : r = r0 := by cases r; cases r0; simp at h1; simp [h1]
      rw [this]
      exact h
  | cons c caps ih =>
    intro rows r
    rw [List.foldl_cons, ih]
    constructor
    · rintro ⟨r1, h1, t, h2, h3, h4⟩
      unfold longer at h1
      obtain ⟨r0, h5, h6⟩ := List.mem_flatMap.mp h1
      obtain ⟨i, h7, rfl⟩ := List.mem_map.mp h6
      have h7 := mem_up.mp h7
      refine ⟨r0, h5, i :: t, by rw [h2]; simp, by simp [h3], ?_⟩
      rw [List.zip_cons_cons, List.all_cons, h4]
      simp
      omega
    · rintro ⟨r0, h1, t, h2, h3, h4⟩
      cases t with
      | nil => cases h3
      | cons i t =>
        rw [List.zip_cons_cons, List.all_cons] at h4
        simp at h4
        refine ⟨⟨r0.items ++ [i]⟩, ?_, t, by rw [h2]; simp, by simpa using h3, ?_⟩
        · unfold longer
          exact List.mem_flatMap.mpr ⟨r0, h1, List.mem_map.mpr ⟨i, mem_up.mpr (by omega), rfl⟩⟩
        · rw [List.all_eq_true]
          rintro ⟨a, b⟩ hq
          have := h4.2 a b hq
          simp
          omega
theorem mem_rows {caps : List Int} {r : Tup Int} : r ∈ rowsOf caps ↔ r.items.length = caps.length ∧ (r.items.zip caps).all (fun q => decide (0 ≤ q.1) && decide (q.1 ≤ q.2)) = true := by
  unfold rowsOf
  rw [mem_longer]
  constructor
  · rintro ⟨r0, h, t, h1, h2, h3⟩
    rw [List.mem_singleton] at h
    subst h
    rw [h1]
    exact ⟨h2, h3⟩
  · intro ⟨h1, h2⟩
    exact ⟨⟨[]⟩, List.mem_singleton.mpr rfl, r.items, by simp, h1, h2⟩
theorem mem_places {sd : Int} {caps : List Int} {p : Pl} : p ∈ placesOf sd caps ↔ within sd caps p = true := by
  unfold placesOf within
  rw [List.mem_flatMap]
  simp only [Bool.and_eq_true, decide_eq_true_eq]
  constructor
  · rintro ⟨i, hi, hp⟩
    obtain ⟨r, hr, rfl⟩ := List.mem_map.mp hp
    have := mem_up.mp hi
    have hr := mem_rows.mp hr
    exact ⟨⟨this.1, by omega⟩, hr.1, by simpa using hr.2⟩
  · rintro ⟨⟨h1, h2⟩, h3, h4⟩
    refine ⟨p.1, mem_up.mpr ⟨h1, by omega⟩, List.mem_map.mpr ⟨p.2, mem_rows.mpr ⟨h3, by simpa using h4⟩, rfl⟩⟩
theorem listLt_app : ∀ {xs ys : List Int} {i j : Int}, xs.length = ys.length → listLt (xs ++ [i]) (ys ++ [j]) = if xs = ys then decide (i < j) else listLt xs ys
  | [], [], i, j, _ => by
    simp only [List.nil_append, listLt, if_true]
    by_cases h : i = j
    · simp [h]
    · simp [h]
      rfl
  | x :: xs, y :: ys, i, j, h => by
    have ih := listLt_app (i := i) (j := j) (show xs.length = ys.length by simpa using h)
    simp only [List.cons_append, listLt]
    by_cases hx : x = y
    · subst hx
      simp [ih]
    · simp [hx]
theorem pair_flatMap {α β : Type} {R : β → β → Prop} {f : α → List β} : ∀ {xs : List α}, (∀ x ∈ xs, (f x).Pairwise R) → xs.Pairwise (fun x y => ∀ a ∈ f x, ∀ b ∈ f y, R a b) → (xs.flatMap f).Pairwise R
  | [], _, _ => .nil
  | x :: xs, h1, h2 => by
    obtain ⟨h3, h4⟩ := List.pairwise_cons.mp h2
    rw [List.flatMap_cons, List.pairwise_append]
    refine ⟨h1 x List.mem_cons_self, pair_flatMap (fun y hy => h1 y (List.mem_cons_of_mem _ hy)) h4, fun a ha b hb => ?_⟩
    obtain ⟨y, hy, hb⟩ := List.mem_flatMap.mp hb
    exact h3 y hy a ha b hb
theorem up_pair (lo : Int) (n : Nat) : (up lo n).Pairwise fun a b => a < b := by
  unfold up
  rw [List.pairwise_map]
  exact List.pairwise_lt_range.imp fun h => by omega
theorem rows_pair {caps : List Int} : ∀ {rows : List (Tup Int)} (k : Nat), (∀ r ∈ rows, r.items.length = k) → rows.Pairwise (fun a b => listLt a.items b.items = true) → (caps.foldl longer rows).Pairwise fun a b => listLt a.items b.items = true := by
  induction caps with
  | nil => exact fun _ _ h => h
  | cons c caps ih =>
    intro rows k hk hp
    rw [List.foldl_cons]
    refine ih (k + 1) (fun r hr => ?_) ?_
    · unfold longer at hr
      obtain ⟨q, hq, hr⟩ := List.mem_flatMap.mp hr
      obtain ⟨i, _, rfl⟩ := List.mem_map.mp hr
      simp [hk q hq]
    · unfold longer
      refine pair_flatMap (fun r hr => ?_) ?_
      · rw [List.pairwise_map]
        refine (up_pair 0 _).imp fun h => ?_
        rw [listLt_app rfl, if_pos rfl]
        exact decide_eq_true h
      · refine List.Pairwise.imp_of_mem (fun {a b} ha hb h => ?_) hp
        intro x hx y hy
        obtain ⟨i, _, rfl⟩ := List.mem_map.mp hx
        obtain ⟨j, _, rfl⟩ := List.mem_map.mp hy
        rw [listLt_app (by rw [hk a ha, hk b hb])]
        split
        · rename_i e
          exfalso
          have h2 : listLt a.items b.items = true := h
          have e2 : a = b := by cases a; cases b; simp at e; simp [e]
          rw [e2] at h2
          have h3 := lt_irr (α := Tup Int) b
          rw [show DatumOrd.lt b b = listLt b.items b.items from rfl] at h3
          rw [h3] at h2
          cases h2
        · exact h
theorem places_rise (sd : Int) (caps : List Int) : (placesOf sd caps).Pairwise fun a b => DatumOrd.lt a b = true := by
  unfold placesOf
  refine pair_flatMap (fun i _ => ?_) ?_
  · rw [List.pairwise_map]
    refine (rows_pair (caps := caps) 0 (fun r hr => by rw [List.mem_singleton] at hr; subst hr; rfl) (List.pairwise_singleton _ _)).imp fun {a b} h => ?_
    show (if i = i then DatumOrd.lt a b else _) = true
    rw [if_pos rfl]
    exact h
  · refine (up_pair 0 _).imp fun {i j} h => ?_
    intro x hx y hy
    obtain ⟨a, _, rfl⟩ := List.mem_map.mp hx
    obtain ⟨b, _, rfl⟩ := List.mem_map.mp hy
    show (if i = j then DatumOrd.lt a b else DatumOrd.lt i j) = true
    rw [if_neg (by omega)]
    exact decide_eq_true h
theorem places_nodup (sd : Int) (caps : List Int) : (placesOf sd caps).Nodup := (places_rise sd caps).imp fun {a b} h e => by
  subst e
  rw [lt_irr] at h
  cases h
/-- what comes out of a place is a place -/
theorem comes_in {w : Wea} (h : w.Ok) {caps : List Int} (hc : CapOk w caps) {p : Pl} (hp : p ∈ placesOf w.sd caps) {t : Stp} (ht : t ∈ w.steps) (hs : stB t p = true) {q : Pl} (hq : q ∈ comeL caps p t) : q ∈ placesOf w.sd caps := by
  have hok := h.st t ht
  unfold comeL at hq
  obtain ⟨o, ho, rfl⟩ := List.mem_map.mp hq
  rw [mem_places] at hp ⊢
  unfold within at hp ⊢
  simp only [Bool.and_eq_true, decide_eq_true_eq] at hp ⊢
  obtain ⟨⟨h1, h2⟩, h3, h4⟩ := hp
  have hg := hok.og o ho
  refine ⟨hg, ?_, ?_⟩
  · have hol := hok.ol o ho
    have hcl := hc.l
    simp [z3, List.length_zip]
    omega
  · -- place by place
    have hge : geAll p.2.items t.wants = true := by
      unfold stB at hs
      rw [Bool.and_eq_true] at hs
      exact hs.2
    have hol := hok.ol o ho
    have hcl := hc.l
    have hwl := hok.wl
    have hw := hok.ow o ho
    have hcc := hc.c
    have key : ∀ (cs rs es ws : List Int), rs.length = cs.length → es.length = cs.length → ws.length = cs.length → (∀ c ∈ cs, 0 ≤ c) → geAll rs ws = true → (∀ q ∈ ws.zip es, 0 ≤ q.1 + q.2) → ((z3 cs rs es).zip cs).all (fun q => decide (0 ≤ q.1) && decide (q.1 ≤ q.2)) = true := by
      intro cs
      induction cs with
      | nil => intro rs es ws _ _ _ _ _ _; simp
      | cons c cs ih =>
        intro rs es ws l1 l2 l3 hc hge hw
        cases rs with
        | nil => cases l1
        | cons r rs =>
          cases es with
          | nil => cases l2
          | cons e es =>
            cases ws with
            | nil => cases l3
            | cons x ws =>
              have hg2 : x ≤ r ∧ geAll rs ws = true := by simpa [geAll] using hge
              have hw0 := hw (x, e) (by simp)
              have hc0 := hc c (by simp)
              have ih := ih rs es ws (by simpa using l1) (by simpa using l2) (by simpa using l3) (fun d hd => hc d (List.mem_cons_of_mem _ hd)) hg2.2 (fun q hq => hw q (by simp [hq]))
              have ez : z3 (c :: cs) (r :: rs) (e :: es) = (if r + e < c then r + e else c) :: z3 cs rs es := rfl
              rw [ez, List.zip_cons_cons, List.all_cons, ih]
              simp at hw0 ⊢
              split <;> omega
    exact key caps p.2.items o.2.items t.wants h3 (by omega) (by omega) (fun c hc' => (hcc c hc').1) hge hw
/-! ### the board -/
abbrev Row : Type := List (Int × List Pl)
def rowL (w : Wea) (caps : List Int) (p : Pl) : Row := (letL w p).map fun i => (i, comesL w caps p i)
def boardL (w : Wea) (caps : List Int) : List (Pl × Row) := (placesOf w.sd caps).map fun p => (p, rowL w caps p)
def boardD (w : Wea) (caps : List Int) : D := .dic (kD (boardL w caps)) (vD enc (boardL w caps))
theorem place_len {w : Wea} (h : w.Ok) {caps : List Int} (hc : CapOk w caps) {p : Pl} (hp : p ∈ placesOf w.sd caps) : p.2.items.length ≤ 3 := by
  rw [mem_places] at hp
  unfold within at hp
  simp only [Bool.and_eq_true, decide_eq_true_eq] at hp
  have := caps_len h hc
  omega
theorem board_keys (w : Wea) (caps : List Int) : (boardL w caps).map (·.1) = placesOf w.sd caps := by
  unfold boardL
  rw [List.map_map]
  simp [Function.comp_def]
theorem board_at {w : Wea} {caps : List Int} {p : Pl} (h : p ∈ placesOf w.sd caps) : lk p (boardL w caps) = some (rowL w caps p) := lookup_mapK _ h
section
variable {wf n : Nat} {s : S}
theorem c_board (W : Wf s) {w : Wea} (h : w.Ok) {caps : List Int} (hc : CapOk w caps) : callN tab wf (n + 4) 19 [eW w, eT caps] s = .ok (boardD w caps) s := by
  have hlen := places_len h hc
  refine call_W t_board_of rfl W (dic_low fun b => En.low _ b) ?_
  simp only [↓wS, ↓wE, ↓wC, ↓wI, wV, wX, wM, wY, wB, wK, wT, b_board_of, c_all_places (W.add (c := .dic false [] []) rfl) h hc]
  refine W_for (fun pre τ u => ∃ o3, τ = [some (eW w), some (eT caps), some (.ref s.nx), o3, none] ∧ u = s.add (.dic false (kD (pre.map fun p => (p, rowL w caps p))) (vD enc (pre.map fun p => (p, rowL w caps p))))) ⟨none, rfl, rfl⟩ ?_ ?_
  · rintro pre p post τ u hx ⟨o3, rfl, rfl⟩
    have hp : p ∈ placesOf w.sd caps := by rw [hx]; simp
    have hpl := place_len h hc hp
    have Wu : Wf (s.add (.dic false (kD (pre.map fun p => (p, rowL w caps p))) (vD enc (pre.map fun p => (p, rowL w caps p))))) := W.add (dicC_low fun b => En.low _ b)
    have hnd : p ∉ (pre.map fun p => (p, rowL w caps p)).map (·.1) := by
      have hn := places_nodup w.sd caps
      rw [hx, List.nodup_append] at hn
      intro hm
      rw [List.map_map] at hm
      have hm : p ∈ pre := by simpa [Function.comp_def] using hm
      exact hn.2.2 p hm p List.mem_cons_self rfl
    have hl2 : (pre.map fun p => (p, rowL w caps p)).length < 16777216 := by
      have : pre.length ≤ (placesOf w.sd caps).length := by rw [hx]; simp
      simp
      omega
    have hll := letL_len w p
    have hsl := h.sl
    simp only [↓wS, ↓wE, ↓wC, ↓wI, wV, wX, wM, wY, wB, wK, c_let_here Wu h (show p.2.items.length ≤ 64 by omega)]
    refine ⟨by omega, W_map (fun i : Int => D.tup [.int i, .lst ((comesL w caps p i).map enc)]) (fun i hi => ?_) ?_⟩
    · obtain ⟨t, h0, h1, h2⟩ := mem_letL.mp hi
      have e : comesL w caps p i = comeL caps p t := by unfold comesL; rw [h1]
      simp only [↓wS, ↓wE, ↓wC, ↓wI, wV, wX, wM, wY, wB, wK, c_outcomes Wu h hc h0 h1, e]
    · have hrow : (.lst ((letL w p).map fun i : Int => D.tup [.int i, .lst ((comesL w caps p i).map enc)]) : D) = enc (rowL w caps p) := by
        unfold rowL
        rw [enc_list, List.map_map]
        rfl
      simp only [↓wS, ↓wE, ↓wC, ↓wI, wV, wX, wM, wY, wB, wK, hrow]
      refine set_new hnd hl2 ?_
      simp only [↓wS, ↓wE, ↓wC, ↓wI, wV, wX, wM, wY, wB, wK]
      exact ⟨_, rfl, by simp⟩
  · rintro τ u ⟨o3, rfl, rfl⟩
    simp only [↓wS, ↓wE, ↓wC, ↓wI, wV, wX, wM, wY, wB, wK]
    exact ⟨rfl, Over.add (Over.refl s)⟩
end
end Mi.L86
set_option Elab.async false
set_option linter.all false
set_option maxRecDepth 100000
set_option maxHeartbeats 400000
/-! Gr: layer by layer. -/
namespace Mi
section
variable {κ : Type} [DecidableEq κ] (keys : List κ) (lost : List κ → κ → Bool)
def fsts (F : List (κ × Int)) : List κ := F.map (·.1)
def newL (F : List (κ × Int)) : List κ := keys.filter fun p => !isin p (fsts F) && lost (fsts F) p
def grow : Nat → List (κ × Int) → Int → List (κ × Int)
  | 0, F, _ => F
  | k + 1, F, n => if newL keys lost F = [] then F else grow k (F ++ (newL keys lost F).map fun p => (p, n)) (n + 1)
/-- what it comes to -/
def final : List (κ × Int) := grow keys lost (keys.length + 1) [] 0
structure GoodF (F : List (κ × Int)) (n : Int) : Prop where
  nd : (fsts F).Nodup
  sub : ∀ p ∈ fsts F, p ∈ keys
  num : ∀ q ∈ F, 0 ≤ q.2 ∧ q.2 < n
  rank : ∀ q ∈ F, lost (fsts (F.filter fun r => decide (r.2 < q.2))) q.1 = true
  len : n ≤ F.length
variable {keys lost}
theorem fsts_app {F G : List (κ × Int)} : fsts (F ++ G) = fsts F ++ fsts G := by simp [fsts]
theorem fsts_new {xs : List κ} {n : Int} : fsts (xs.map fun p => (p, n)) = xs := by simp [fsts, Function.comp_def]
theorem good_nil : GoodF keys lost [] 0 := ⟨by simp [fsts], by simp [fsts], by simp, by simp, by simp⟩
theorem good_next (hk : keys.Nodup) {F : List (κ × Int)} {n : Int} (g : GoodF keys lost F n) (h0 : 0 ≤ n) (hne : newL keys lost F ≠ []) : GoodF keys lost (F ++ (newL keys lost F).map fun p => (p, n)) (n + 1) := by
  have hfl : ∀ i, i ≤ n → (F ++ (newL keys lost F).map fun p => (p, n)).filter (fun r => decide (r.2 < i)) = F.filter fun r => decide (r.2 < i) := by
    intro i hi
    rw [List.filter_append]
    have : ((newL keys lost F).map fun p => (p, n)).filter (fun r => decide (r.2 < i)) = [] := by
      rw [List.filter_eq_nil_iff]
      intro r hr
      obtain ⟨p, _, rfl⟩ := List.mem_map.mp hr
      simp
      exact hi
    rw [this, List.append_nil]
  refine ⟨?_, ?_, ?_, ?_, ?_⟩
  · rw [fsts_app, fsts_new, List.nodup_append]
    refine ⟨g.nd, hk.filter _, ?_⟩
    intro a ha b hb e
    subst e
    have := (List.mem_filter.mp hb).2
    simp [isin, ha] at this
  · intro p hp
    rw [fsts_app, fsts_new] at hp
    rcases List.mem_append.mp hp with hp | hp
    · exact g.sub p hp
    · exact (List.mem_filter.mp hp).1
  · intro q hq
    rcases List.mem_append.mp hq with hq | hq
    · have := g.num q hq
      omega
    · obtain ⟨p, _, rfl⟩ := List.mem_map.mp hq
      exact ⟨h0, by show n < n + 1; omega⟩
  · intro q hq
    rcases List.mem_append.mp hq with hq | hq
    · rw [hfl q.2 (by have := (g.num q hq).2; omega)]
      exact g.rank q hq
    · obtain ⟨p, hp, rfl⟩ := List.mem_map.mp hq
      rw [hfl n (Int.le_refl _)]
      have e : F.filter (fun r => decide (r.2 < n)) = F := by
        rw [List.filter_eq_self]
        intro r hr
        simpa using (g.num r hr).2
      show lost (fsts (F.filter fun r => decide (r.2 < n))) p = true
      rw [e]
      have := (List.mem_filter.mp hp).2
      rw [Bool.and_eq_true] at this
      exact this.2
  · have h1 := g.len
    have h2 : 1 ≤ (newL keys lost F).length := by
      cases e : newL keys lost F with
      | nil => exact absurd e hne
      | cons => simp
    rw [List.length_append, List.length_map]
    omega
theorem nodup_len : ∀ {xs ys : List κ}, xs.Nodup → (∀ p ∈ xs, p ∈ ys) → xs.length ≤ ys.length
  | [], _, _, _ => Nat.zero_le _
  | x :: xs, ys, h, k => by
    obtain ⟨h1, h2⟩ := List.nodup_cons.mp h
    have h3 := nodup_len (ys := ys.erase x) h2 fun p hp => (List.mem_erase_of_ne (fun z => h1 (by rw [← z]; exact hp))).mpr (k p (List.mem_cons_of_mem _ hp))
    have hx := k x List.mem_cons_self
    rw [List.length_erase_of_mem hx] at h3
    have := List.length_pos_of_mem hx
    simp
    omega
theorem good_len {F : List (κ × Int)} {n : Int} (g : GoodF keys lost F n) : F.length ≤ keys.length := by
  have h1 : (fsts F).length ≤ keys.length := nodup_len g.nd g.sub
  simpa [fsts] using h1
theorem newL_pos {F : List (κ × Int)} (h : newL keys lost F ≠ []) : 1 ≤ (newL keys lost F).length := by
  cases e : newL keys lost F with
  | nil => exact absurd e h
  | cons => simp
theorem grow_spec (hk : keys.Nodup) : ∀ (k : Nat) (F : List (κ × Int)) (n : Int), GoodF keys lost F n → 0 ≤ n → keys.length < k + F.length → newL keys lost (grow keys lost k F n) = [] ∧ ∃ m, 0 ≤ m ∧ GoodF keys lost (grow keys lost k F n) m
  | 0, F, n, g, h0, hl => by have := good_len g; omega
  | k + 1, F, n, g, h0, hl => by
    unfold grow
    by_cases h : newL keys lost F = []
    · rw [if_pos h]
      exact ⟨h, n, h0, g⟩
    · rw [if_neg h]
      have := newL_pos h
      exact grow_spec hk k _ _ (good_next hk g h0 h) (by omega) (by rw [List.length_append, List.length_map]; omega)
/-- enough turns -/
theorem grow_stop {k : Nat} {F : List (κ × Int)} {n : Int} (h : newL keys lost F = []) (hk : 1 ≤ k) : grow keys lost k F n = F := by
  cases k with
  | zero => omega
  | succ k => unfold grow; rw [if_pos h]
theorem grow_step {k : Nat} {F : List (κ × Int)} {n : Int} (h : newL keys lost F ≠ []) : grow keys lost (k + 1) F n = grow keys lost k (F ++ (newL keys lost F).map fun p => (p, n)) (n + 1) := by
  rw [grow, if_neg h]
/-- where a loop stands: so many turns are left -/
structure Turn (keys : List κ) (lost : List κ → κ → Bool) (m : Nat) (F : List (κ × Int)) (n : Int) : Prop where
  g : GoodF keys lost F n
  h0 : 0 ≤ n
  len : keys.length < m + F.length
  fin : grow keys lost m F n = final keys lost
theorem turn_start : Turn keys lost (keys.length + 1) [] 0 := ⟨good_nil, Int.le_refl _, by simp, rfl⟩
theorem turn_end {m : Nat} {F : List (κ × Int)} {n : Int} (t : Turn keys lost m F n) (h : newL keys lost F = []) : F = final keys lost := by
  have := good_len t.g
  have hl := t.len
  rw [← t.fin, grow_stop h (by omega)]
theorem turn_next (hk : keys.Nodup) {m : Nat} {F : List (κ × Int)} {n : Int} (t : Turn keys lost m F n) (h : newL keys lost F ≠ []) : ∃ m', m = m' + 1 ∧ Turn keys lost m' (F ++ (newL keys lost F).map fun p => (p, n)) (n + 1) := by
  have h1 := newL_pos h
  have h2 := good_len t.g
  have h3 := t.len
  cases m with
  | zero => omega
  | succ m => exact ⟨m, rfl, good_next hk t.g t.h0 h, by have := t.h0; omega, by rw [List.length_append, List.length_map]; omega, by rw [← grow_step h]; exact t.fin⟩
theorem final_spec (hk : keys.Nodup) : newL keys lost (final keys lost) = [] ∧ ∃ m, 0 ≤ m ∧ GoodF keys lost (final keys lost) m :=
  grow_spec hk _ _ _ good_nil (Int.le_refl _) (by simp)
theorem final_closed (hk : keys.Nodup) {p : κ} (h : p ∈ keys) (hl : lost (fsts (final keys lost)) p = true) : p ∈ fsts (final keys lost) := by
  have h1 := (final_spec (lost := lost) hk).1
  unfold newL at h1
  rw [List.filter_eq_nil_iff] at h1
  have := h1 p h
  simp [isin, hl] at this
  exact this
theorem final_nodup (hk : keys.Nodup) : (fsts (final keys lost)).Nodup := by
  obtain ⟨_, m, _, g⟩ := final_spec (lost := lost) hk
  exact g.nd
theorem final_sub (hk : keys.Nodup) {p : κ} (h : p ∈ fsts (final keys lost)) : p ∈ keys := by
  obtain ⟨_, m, _, g⟩ := final_spec (lost := lost) hk
  exact g.sub p h
theorem final_num (hk : keys.Nodup) {q : κ × Int} (h : q ∈ final keys lost) : 0 ≤ q.2 := by
  obtain ⟨_, m, _, g⟩ := final_spec (lost := lost) hk
  exact (g.num q h).1
theorem final_lt (hk : keys.Nodup) {q : κ × Int} (h : q ∈ final keys lost) : q.2 < keys.length := by
  obtain ⟨_, m, _, g⟩ := final_spec (lost := lost) hk
  have h1 := (g.num q h).2
  have h2 := g.len
  have h3 := good_len g
  omega
theorem final_rank (hk : keys.Nodup) {q : κ × Int} (h : q ∈ final keys lost) : lost (fsts ((final keys lost).filter fun r => decide (r.2 < q.2))) q.1 = true := by
  obtain ⟨_, m, _, g⟩ := final_spec (lost := lost) hk
  exact g.rank q h
/-- the one that loses less -/
theorem final_le (hk : keys.Nodup) {lost' : List κ → κ → Bool} (h1 : ∀ F p, lost F p = true → p ∈ keys → lost' F p = true) (h2 : ∀ F G p, (∀ q ∈ F, q ∈ G) → lost' F p = true → lost' G p = true) : ∀ p ∈ fsts (final keys lost), p ∈ fsts (final keys lost') := by
  have key : ∀ (i : Nat) (q : κ × Int), q ∈ final keys lost → q.2 < i → q.1 ∈ fsts (final keys lost') := by
    intro i
    induction i with
    | zero => intro q hq hi; have := final_num hk hq; omega
    | succ i ih =>
      intro q hq hi
      have hm : q.1 ∈ keys := final_sub hk (List.mem_map.mpr ⟨q, hq, rfl⟩)
      refine final_closed hk hm ?_
      refine h2 _ _ _ ?_ (h1 _ _ (final_rank hk hq) hm)
      intro r hr
      obtain ⟨x, hx, rfl⟩ := List.mem_map.mp hr
      obtain ⟨hx, hlt⟩ := List.mem_filter.mp hx
      simp at hlt
      exact ih x hx (by omega)
  intro p hp
  obtain ⟨q, hq, rfl⟩ := List.mem_map.mp hp
  have := final_num hk hq
  exact key (q.2.toNat + 1) q hq (by omega)
end
end Mi
set_option Elab.async false
set_option linter.all false
set_option maxRecDepth 100000
set_option maxHeartbeats 400000
namespace Mi.L86
open PySem PySem.W
open Mi.En (enc)
/-! ### places, counted; among places -/
theorem longer_len2 {rows : List (Tup Int)} {c : Int} (h : 0 ≤ c) : ((longer rows c).length : Int) = rows.length * (c + 1) := by
  rw [longer_len, Int.natCast_mul]
  congr 1
  omega
theorem many_rows : ∀ (caps : List Int) (rows : List (Tup Int)) (sd : Int), (∀ c ∈ caps, 0 ≤ c) → sd * ((caps.foldl longer rows).length : Int) = caps.foldl (fun a c => a * (c + 1)) (sd * (rows.length : Int))
  | [], rows, sd, _ => rfl
  | c :: caps, rows, sd, h => by
    rw [List.foldl_cons, List.foldl_cons, many_rows caps _ sd fun d hd => h d (List.mem_cons_of_mem _ hd), longer_len2 (h c List.mem_cons_self), Int.mul_assoc]
theorem places_many {w : Wea} (h : w.Ok) {caps : List Int} (hc : CapOk w caps) : ((placesOf w.sd caps).length : Int) = many w.sd caps := by
  have e : ((placesOf w.sd caps).length : Int) = w.sd * ((rowsOf caps).length : Int) := by
    unfold placesOf
    rw [List.length_flatMap]
    simp [sum_const]
    have := h.sd1
    congr 1
    omega
  rw [e]
  unfold rowsOf many
  rw [many_rows caps _ _ fun c hc' => (hc.c c hc').1]
  simp
theorem places_600 {w : Wea} (h : w.Ok) {caps : List Int} (hc : CapOk w caps) : (placesOf w.sd caps).length ≤ 600 := by
  have := places_many h hc
  have := hc.few
  omega
abbrev anyIn : List Pl → List Pl → Bool := fun gs F => gs.any fun p => isin p F
abbrev allIn : List Pl → List Pl → Bool := fun gs F => gs.all fun p => isin p F
theorem sort_places (w : Wea) (caps : List Int) : (placesOf w.sd caps).mergeSort leE = placesOf w.sd caps := sort_unique (List.Perm.refl _) (places_rise _ _)
def Has (s : S) (d : D) (F : List Pl) : Prop := ∀ (p : Pl) (Q : VQ), (evCmp .isin (enc p) d s).W Q = Q (.bl (isin p F)) s
theorem has_lst {s : S} {F : List Pl} : Has s (.lst (F.map enc)) F := fun p Q => c_in
theorem has_dic {s : S} {β : Type} {f : β → D} {l : List (Pl × β)} : Has s (.dic (kD l) (vD f l)) (l.map (·.1)) := fun p Q => d_in
theorem has_ref {s : S} {n : Nat} {b : Bool} {β : Type} {f : β → D} {l : List (Pl × β)} (h : s.get n = some (.dic b (kD l) (vD f l))) : Has s (.ref n) (l.map (·.1)) := fun p Q => by
  rw [in_ref, h]
  exact d_in
structure IsL (f : Nat) (isl : List Pl → List Pl → Bool) : Prop where
  has : (tab f).isSome = true
  run : ∀ {wf n : Nat} {s : S} {gs : List Pl} {d : D} {F : List Pl}, Wf s → Has s d F → gs.length ≤ 64 → callN tab wf (n + 1) f [.lst (gs.map enc), d] s = .ok (.bl (isl gs F)) s
theorem isl_any : IsL 21 fun gs F => gs.any fun p => isin p F := ⟨rfl, fun {wf n s gs d F} W h hl => by
  refine call_W t_is_some_in rfl W rfl ?_
  simp only [↓wS, ↓wE, ↓wC, ↓wI, wV, wX, wM, wY, wB, wK, wT, b_is_some_in]
  refine ⟨by omega, W_anyC (fun p => isin p F) (fun p _ => ?_) ?_⟩
  · simp only [↓wS, ↓wE, ↓wC, ↓wI, wV, wX, wM, wY, wB, wK, h p]
  · simp only [↓wS, ↓wE, ↓wC, ↓wI, wV, wX, wM, wY, wB, wK, wO]⟩
theorem isl_all : IsL 22 fun gs F => gs.all fun p => isin p F := ⟨rfl, fun {wf n s gs d F} W h hl => by
  refine call_W t_are_all_in rfl W rfl ?_
  simp only [↓wS, ↓wE, ↓wC, ↓wI, wV, wX, wM, wY, wB, wK, wT, b_are_all_in]
  refine ⟨by omega, W_allC (fun p => isin p F) (fun p _ => ?_) ?_⟩
  · simp only [↓wS, ↓wE, ↓wC, ↓wI, wV, wX, wM, wY, wB, wK, h p]
  · simp only [↓wS, ↓wE, ↓wC, ↓wI, wV, wX, wM, wY, wB, wK, wO]⟩
theorem comes_len {w : Wea} (h : w.Ok) {caps : List Int} {p : Pl} {i : Int} : (comesL w caps p i).length ≤ 3 := by
  unfold comesL
  split
  · rename_i t ht
    have := (h.st t (List.mem_of_getElem? ht)).o3
    simpa [comeL] using this
  · simp
theorem row_len {w : Wea} (h : w.Ok) {caps : List Int} {p : Pl} : (rowL w caps p).length ≤ 8 := by
  have := letL_len w p
  have := h.sl
  simp [rowL]
  omega
theorem row_goals {w : Wea} (h : w.Ok) {caps : List Int} {p : Pl} {r : Int × List Pl} (hr : r ∈ rowL w caps p) : r.2.length ≤ 64 := by
  obtain ⟨i, _, rfl⟩ := List.mem_map.mp hr
  have := comes_len h (caps := caps) (p := p) (i := i)
  show (comesL w caps p i).length ≤ 64
  omega
theorem letL_comes {w : Wea} (h : w.Ok) {p : Pl} {i : Int} (hi : i ∈ letL w p) : ∃ t, 0 ≤ i ∧ w.steps[i.toNat]? = some t ∧ stB t p = true ∧ ∀ caps, comesL w caps p i = comeL caps p t := by
  obtain ⟨t, h0, h1, h2⟩ := mem_letL.mp hi
  exact ⟨t, h0, h1, h2, fun caps => by unfold comesL; rw [h1]⟩
theorem within_len {sd : Int} {caps : List Int} {p : Pl} (h : within sd caps p = true) : p.2.items.length = caps.length := by
  unfold within at h
  simp only [Bool.and_eq_true, decide_eq_true_eq] at h
  exact h.2.1
end Mi.L86
set_option Elab.async false
set_option linter.all false
set_option maxRecDepth 100000
set_option maxHeartbeats 400000
namespace Mi.L86
open PySem PySem.W
open Mi.En (enc)
/-! ### places from which one is sure to come to the goal -/
instance {α β : Type} [DecidableEq α] [En α] [DecidableEq β] [En β] : TupE (α × β) := ⟨fun a => ⟨_, rfl⟩, fun a => rfl⟩
instance : Sh (Pl × Int) := ⟨by decide⟩
def atG (goal p : Pl) : Bool := decide (p.1 = goal.1) && geAll p.2.items goal.2.items
def sureP (w : Wea) (caps : List Int) (goal : Pl) (F : List Pl) (p : Pl) : Bool := atG goal p || (rowL w caps p).any fun r => allIn r.2 F
def sureF (w : Wea) (caps : List Int) (goal : Pl) : List (Pl × Int) := final (placesOf w.sd caps) (sureP w caps goal)
def stepsIn (w : Wea) (caps : List Int) (F : List Pl) (p : Pl) : List Int := ((rowL w caps p).filter fun r => allIn r.2 F).map (·.1)
def wayIn (w : Wea) (caps : List Int) (F : List Pl) (p : Pl) : Int := (stepsIn w caps F p).headD 0
abbrev NW : Type := Int × Option Int
def oD : Option Int → D
  | none => .non
  | some i => .int i
def dNW (x : NW) : D := .tup [.int x.1, oD x.2]
def lessF (F : List (Pl × Int)) (n : Int) : List Pl := fsts (F.filter fun r => decide (r.2 < n))
def nwOf (w : Wea) (caps : List Int) (F : List (Pl × Int)) (q : Pl × Int) : NW := (q.2, if q.2 = 0 then none else some (wayIn w caps (lessF F q.2) q.1))
def foundL (w : Wea) (caps : List Int) (F : List (Pl × Int)) : List (Pl × NW) := F.map fun q => (q.1, nwOf w caps F q)
def sureL (w : Wea) (caps : List Int) (goal : Pl) : List (Pl × NW) := foundL w caps (sureF w caps goal)
theorem found_keys (w : Wea) (caps : List Int) (F : List (Pl × Int)) : (foundL w caps F).map (·.1) = fsts F := by
  unfold foundL fsts
  rw [List.map_map]
  rfl
theorem found_len (w : Wea) (caps : List Int) (F : List (Pl × Int)) : (foundL w caps F).length = F.length := List.length_map _
theorem found_next {w : Wea} {caps : List Int} {F : List (Pl × Int)} {n : Int} (hF : ∀ q ∈ F, 0 ≤ q.2 ∧ q.2 < n) (new : List Pl) : foundL w caps (F ++ new.map fun p => (p, n)) = foundL w caps F ++ new.map fun p => (p, ((n, if n = 0 then none else some (wayIn w caps (fsts F) p)) : NW)) := by
  have hfl : ∀ i, i ≤ n → (F ++ new.map fun p => (p, n)).filter (fun r => decide (r.2 < i)) = F.filter fun r => decide (r.2 < i) := by
    intro i hi
    rw [List.filter_append]
    have : (new.map fun p => (p, n)).filter (fun r => decide (r.2 < i)) = [] := by
      rw [List.filter_eq_nil_iff]
      intro r hr
      obtain ⟨p, _, rfl⟩ := List.mem_map.mp hr
      simp
      exact hi
    rw [this, List.append_nil]
  unfold foundL
  rw [List.map_append]
  congr 1
  · apply List.map_congr_left
    intro q hq
    unfold nwOf lessF
    rw [hfl q.2 (by have := (hF q hq).2; omega)]
  · rw [List.map_map]
    apply List.map_congr_left
    intro p _
    show (p, nwOf w caps _ (p, n)) = _
    unfold nwOf lessF
    rw [hfl n (Int.le_refl _)]
    have e : F.filter (fun r => decide (r.2 < n)) = F := by
      rw [List.filter_eq_self]
      intro r hr
      simpa using (hF r hr).2
    show (p, ((n, if n = 0 then none else some (wayIn w caps (fsts (F.filter fun r => decide (r.2 < n))) p)) : NW)) = _
    rw [e]
theorem row_ne {w : Wea} (h : w.Ok) {caps : List Int} {p : Pl} {r : Int × List Pl} (hr : r ∈ rowL w caps p) : r.2 ≠ [] := by
  obtain ⟨i, hi, rfl⟩ := List.mem_map.mp hr
  obtain ⟨t, h0, h1, h2, h3⟩ := letL_comes h hi
  have ho := (h.st t (List.mem_of_getElem? h1)).o1
  intro z
  have z : comesL w caps p i = [] := z
  rw [h3] at z
  have := congrArg List.length z
  simp [comeL] at this
  rw [this] at ho
  simp at ho
theorem ge_self : ∀ xs : List Int, geAll xs xs = true
  | [] => rfl
  | x :: xs => by
    have := ge_self xs
    unfold geAll at this ⊢
    rw [List.zip_cons_cons, List.all_cons, this]
    simp
theorem at_self (p : Pl) : atG p p = true := by unfold atG; rw [ge_self]; simp
theorem sure_start {w : Wea} (h : w.Ok) {caps : List Int} {goal : Pl} : newL (placesOf w.sd caps) (sureP w caps goal) [] = (placesOf w.sd caps).filter (atG goal) := by
  unfold newL
  apply List.filter_congr
  intro p _
  have e : (rowL w caps p).any (fun r => allIn r.2 []) = false := by
    rw [List.any_eq_false]
    intro r hr z
    have hne := row_ne h hr
    cases e : r.2 with
    | nil => exact hne e
    | cons g gs =>
      rw [e] at z
      simp [isin] at z
  show (!isin p [] && (atG goal p || (rowL w caps p).any fun r => allIn r.2 [])) = atG goal p
  rw [e]
  simp [isin]
theorem steps_mem {w : Wea} {caps : List Int} {F : List Pl} {p : Pl} {i : Int} : i ∈ stepsIn w caps F p ↔ i ∈ letL w p ∧ ∀ q ∈ comesL w caps p i, q ∈ F := by
  unfold stepsIn
  rw [List.mem_map]
  constructor
  · rintro ⟨r, hr, rfl⟩
    obtain ⟨hr, ha⟩ := List.mem_filter.mp hr
    obtain ⟨j, hj, rfl⟩ := List.mem_map.mp hr
    exact ⟨hj, fun q hq => isin_iff.mp (List.all_eq_true.mp ha q hq)⟩
  · rintro ⟨h1, h2⟩
    exact ⟨(i, comesL w caps p i), List.mem_filter.mpr ⟨List.mem_map.mpr ⟨i, h1, rfl⟩, List.all_eq_true.mpr fun q hq => isin_iff.mpr (h2 q hq)⟩, rfl⟩
theorem steps_any {w : Wea} {caps : List Int} {F : List Pl} {p : Pl} : (rowL w caps p).any (fun r => allIn r.2 F) = !(stepsIn w caps F p).isEmpty := by
  unfold stepsIn
  rw [List.isEmpty_map, filter_empty, Bool.not_not]
theorem way_mem {w : Wea} {caps : List Int} {F : List Pl} {p : Pl} (h : stepsIn w caps F p ≠ []) : wayIn w caps F p ∈ stepsIn w caps F p := by
  unfold wayIn
  cases e : stepsIn w caps F p with
  | nil => exact absurd e h
  | cons a as => exact List.mem_cons_self
theorem steps_len {w : Wea} (h : w.Ok) {caps : List Int} {F : List Pl} {p : Pl} : (stepsIn w caps F p).length ≤ 8 := by
  unfold stepsIn
  rw [List.length_map]
  exact Nat.le_trans (List.length_filter_le _ _) (row_len h)
section
variable {wf n : Nat} {s : S}
theorem c_is_at (W : Wf s) {goal p : Pl} (hp : p.2.items.length ≤ 64) : callN tab wf (n + 2) 68 [enc p, enc goal] s = .ok (.bl (atG goal p)) s := by
  refine call_W t_is_at_goal rfl W rfl ?_
  simp only [↓wS, ↓wE, ↓wC, ↓wI, wV, wX, wM, wY, wB, wK, wT, b_is_at_goal, enc_pair]
  refine brAnd_pure (geAll p.2.items goal.2.items) (fun _ => ?_) ?_
  · simp only [↓wS, ↓wE, ↓wC, ↓wI, wV, wX, wM, wY, wB, wK, show (enc p.2 : D) = eT p.2.items from rfl, show (enc goal.2 : D) = eT goal.2.items from rfl, c_is_leastT W hp]
  · simp only [↓wS, ↓wE, ↓wC, ↓wI, wV, wX, wM, wY, wB, wK, wO, atG]
theorem c_law_at (W : Wf s) {goal p : Pl} (hp : p.2.items.length ≤ 64) : callN tab wf (n + 2) 77 [enc goal, enc p] s = .ok (.bl (atG goal p)) s := by
  refine call_W t__law_is_at rfl W rfl ?_
  simp only [↓wS, ↓wE, ↓wC, ↓wI, wV, wX, wM, wY, wB, wK, wT, b__law_is_at, enc_pair]
  refine brAnd_pure (geAll p.2.items goal.2.items) (fun _ => ?_) ?_
  · simp only [↓wS, ↓wE, ↓wC, ↓wI, wV, wX, wM, wY, wB, wK, show (enc p.2 : D) = eT p.2.items from rfl, show (enc goal.2 : D) = eT goal.2.items from rfl, c_law_least W hp]
  · simp only [↓wS, ↓wE, ↓wC, ↓wI, wV, wX, wM, wY, wB, wK, wO, atG]
theorem c_sure_steps (W : Wf s) {w : Wea} (h : w.Ok) {caps : List Int} {p : Pl} (hp : p ∈ placesOf w.sd caps) {d : D} {F : List Pl} (hd : Has s d F) : callN tab wf (n + 2) 70 [boardD w caps, d, enc p] s = .ok (.lst ((stepsIn w caps F p).map enc)) s := by
  refine call_W t_sure_steps rfl W (lows_map _ _) ?_
  have hrl := row_len h (caps := caps) (p := p)
  simp only [↓wS, ↓wE, ↓wC, ↓wI, wV, wX, wM, wY, wB, wK, wT, b_sure_steps]
  rw [boardD]
  simp only [↓wS, ↓wE, ↓wC, ↓wI, wV, wX, wM, wY, wB, wK, board_at hp, enc_list]
  refine ⟨by omega, W_filter (fun r : Int × List Pl => allIn r.2 F) (fun r => D.int r.1) (fun r hr => ?_) ?_⟩
  · simp only [↓wS, ↓wE, ↓wC, ↓wI, wV, wX, wM, wY, wB, wK, enc_pair, enc_list]
    rw [isl_all.run W hd (row_goals h hr)]
    simp only [↓wS, ↓wE, ↓wC, ↓wI, wV, wX, wM, wY, wB, wK]
    exact brT_if rfl fun _ => by simp only [↓wS, ↓wE, ↓wC, ↓wI, wV, wX, wM, wY, wB, wK]
  · have e : ((rowL w caps p).filter fun r => allIn r.2 F).map (fun r => D.int r.1) = (stepsIn w caps F p).map enc := by unfold stepsIn; rw [List.map_map]; rfl
    rw [e]
    simp only [↓wS, ↓wE, ↓wC, ↓wI, wV, wX, wM, wY, wB, wK, wO]
theorem dNW_low {m : Nat} (x : NW) : below m (dNW x) = true := by
  obtain ⟨a, b⟩ := x
  cases b <;> rfl
theorem c_sure_in (W : Wf s) (hwf : 602 ≤ wf) {w : Wea} (h : w.Ok) {caps : List Int} (hc : CapOk w caps) {goal : Pl} (hg : goal ∈ placesOf w.sd caps) : callN tab wf (n + 3) 69 [boardD w caps, enc goal] s = .ok (.dic (kD (sureL w caps goal)) (vD dNW (sureL w caps goal))) s := by
  have hP := places_600 h hc
  have hk := places_nodup w.sd caps
  have h00 := newL_pos (keys := placesOf w.sd caps) (lost := sureP w caps goal) (F := []) (by
    rw [sure_start h]
    intro z
    have : goal ∈ (placesOf w.sd caps).filter (atG goal) := List.mem_filter.mpr ⟨hg, at_self goal⟩
    rw [z] at this
    cases this)
  have hne : newL (placesOf w.sd caps) (sureP w caps goal) [] ≠ [] := fun z => by rw [z] at h00; cases h00
  obtain ⟨m1, hm1, T1⟩ := turn_next hk (turn_start (keys := placesOf w.sd caps) (lost := sureP w caps goal)) hne
  have hF1 : foundL w caps ([] ++ (newL (placesOf w.sd caps) (sureP w caps goal) []).map fun p => (p, (0 : Int))) = ((placesOf w.sd caps).filter (atG goal)).map fun p => (p, ((0, none) : NW)) := by
    rw [found_next (F := []) (n := 0) (fun q hq => by cases hq), sure_start h]
    rfl
  refine call_W t_sure_in rfl W (dic_low fun b => dNW_low b) ?_
  simp only [↓wS, ↓wE, ↓wC, ↓wI, wV, wX, wM, wY, wB, wK, wT, b_sure_in, boardD, board_keys]
  refine ⟨by omega, W_dfilter (atG goal) (fun p => p) (fun _ => ((0, none) : NW)) dNW (by simpa using hk) (fun p hp => ?_) ?_⟩
  · have hpl := place_len h hc hp
    simp only [↓wS, ↓wE, ↓wC, ↓wI, wV, wX, wM, wY, wB, wK, c_is_at W (goal := goal) (p := p) (by omega)]
    exact brK_if rfl fun _ => by simp only [↓wS, ↓wE, ↓wC, ↓wI, wV, wX, wM, wY, wB, wK]; exact ⟨rfl, rfl⟩
  rw [← hF1]
  simp only [↓wS, ↓wE, ↓wC, ↓wI, wV, wX, wM, wY, wB, wK]
  refine W_whl (fun m τ t => ∃ (F : List (Pl × Int)) (k : Int) (o4 o5 o6 : Option D), Turn (placesOf w.sd caps) (sureP w caps goal) m F k ∧ 1 ≤ k ∧ (∀ p ∈ placesOf w.sd caps, atG goal p = true → p ∈ fsts F) ∧ τ = [some (boardD w caps), some (enc goal), some (.ref s.nx), some (.int k), o4, o5, o6, none] ∧ t = s.add (.dic false (kD (foundL w caps F)) (vD dNW (foundL w caps F)))) m1 (show _ < wf by omega) ⟨_, 1, none, none, none, T1, Int.le_refl _, fun p hp ha => ?_, rfl, rfl⟩ ?_
  · rw [List.nil_append, fsts_new, sure_start h]
    exact List.mem_filter.mpr ⟨hp, ha⟩
  rintro m τ t ⟨F, k, o4, o5, o6, T, hk1, hat, rfl, rfl⟩
  have hFl := good_len T.g
  have hfl := found_len w caps F
  have hfk := found_keys w caps F
  have Wt : Wf (s.add (.dic false (kD (foundL w caps F)) (vD dNW (foundL w caps F)))) := W.add (dicC_low fun b => dNW_low b)
  have hHas : Has (s.add (.dic false (kD (foundL w caps F)) (vD dNW (foundL w caps F)))) (.ref s.nx) (fsts F) := by
    rw [← hfk]
    exact has_ref get_add
  simp only [↓wS, ↓wE, ↓wC, ↓wI, wV, wX, wM, wY, wB, wK]
  refine ⟨true, rfl, ?_⟩
  rw [if_pos rfl]
  simp only [↓wS, ↓wE, ↓wC, ↓wI, wV, wX, wM, wY, wB, wK, boardD, board_keys]
  refine ⟨by omega, W_filter (fun p => !isin p (fsts F)) (fun p => D.tup [enc p, .lst ((stepsIn w caps (fsts F) p).map enc)]) (fun p hp => ?_) ?_⟩
  · simp only [↓wS, ↓wE, ↓wC, ↓wI, wV, wX, wM, wY, wB, wK, hfk]
    refine brT_if rfl fun _ => ?_
    simp only [↓wS, ↓wE, ↓wC, ↓wI, wV, wX, wM, wY, wB, wK]
    rw [show D.dic (kD (boardL w caps)) (vD enc (boardL w caps)) = boardD w caps from rfl, c_sure_steps Wt h hp hHas]
    simp only [↓wS, ↓wE, ↓wC, ↓wI, wV, wX, wM, wY, wB, wK]
  simp only [↓wS, ↓wE, ↓wC, ↓wI, wV, wX, wM, wY, wB, wK]
  have hl2 : ((placesOf w.sd caps).filter fun p => !isin p (fsts F)).length ≤ (placesOf w.sd caps).length := List.length_filter_le _ _
  refine ⟨by omega, W_filter (fun p => !(stepsIn w caps (fsts F) p).isEmpty) (fun p => (enc ((p, wayIn w caps (fsts F) p) : Pl × Int) : D)) (fun p hp => ?_) ?_⟩
  · simp only [↓wS, ↓wE, ↓wC, ↓wI, wV, wX, wM, wY, wB, wK]
    refine brT_if rfl fun hne => ?_
    obtain ⟨a, as, e⟩ : ∃ a as, stepsIn w caps (fsts F) p = a :: as := by
      cases e : stepsIn w caps (fsts F) p with
      | nil => rw [e] at hne; cases hne
      | cons a as => exact ⟨a, as, rfl⟩
    have e2 : wayIn w caps (fsts F) p = a := by unfold wayIn; rw [e]; rfl
    rw [e, e2]
    simp only [↓wS, ↓wE, ↓wC, ↓wI, wV, wX, wM, wY, wB, wK, List.map_cons]
    exact ⟨rfl, rfl⟩
  have hnew : ((placesOf w.sd caps).filter fun p => !isin p (fsts F)).filter (fun p => !(stepsIn w caps (fsts F) p).isEmpty) = newL (placesOf w.sd caps) (sureP w caps goal) F := by
    unfold newL
    rw [List.filter_filter]
    apply List.filter_congr
    intro p hp
    rw [← steps_any, Bool.and_comm]
    unfold sureP
    cases e : isin p (fsts F) with
    | true => rfl
    | false =>
      have : atG goal p = false := by
        cases ea : atG goal p with
        | false => rfl
        | true =>
          have := hat p hp ea
          rw [isin_not] at e
          exact absurd this e
      rw [this]
      rfl
  have hmap : ((newL (placesOf w.sd caps) (sureP w caps goal) F).map fun p => (enc ((p, wayIn w caps (fsts F) p) : Pl × Int) : D)) = ((newL (placesOf w.sd caps) (sureP w caps goal) F).map fun p => (p, wayIn w caps (fsts F) p)).map enc := by
    rw [List.map_map]
    rfl
  rw [hnew, hmap]
  simp only [↓wS, ↓wE, ↓wC, ↓wI, wV, wX, wM, wY, wB, wK]
  refine brS_by (fun he => ?_) (fun he => ?_)
  · have he : newL (placesOf w.sd caps) (sureP w caps goal) F = [] := by simpa using he
    have := turn_end T he
    simp only [↓wS, ↓wE, ↓wC, ↓wI, wV, wX, wM, wY, wB, wK]
    rw [this]
    exact ⟨rfl, Over.add (Over.refl s)⟩
  · have he : newL (placesOf w.sd caps) (sureP w caps goal) F ≠ [] := by
      intro z
      rw [z] at he
      cases he
    obtain ⟨m', hm, T'⟩ := turn_next hk T he
    simp only [↓wS, ↓wE, ↓wC, ↓wI, wV, wX, wM, wY, wB, wK]
    rw [← hmap]
    refine W_for (fun pre τ u => ∃ o4 o5 o6, τ = [some (boardD w caps), some (enc goal), some (.ref s.nx), some (.int k), o4, o5, o6, none] ∧ u = s.add (.dic false (kD (foundL w caps F ++ pre.map fun p => (p, ((k, some (wayIn w caps (fsts F) p)) : NW)))) (vD dNW (foundL w caps F ++ pre.map fun p => (p, ((k, some (wayIn w caps (fsts F) p)) : NW)))))) ⟨_, _, _, rfl, by simp⟩ ?_ ?_
    · rintro pre p post τ u hx ⟨o4, o5, o6, rfl, rfl⟩
      have hpk : p ∉ (foundL w caps F ++ pre.map fun p => (p, ((k, some (wayIn w caps (fsts F) p)) : NW))).map (·.1) := by
        have h1 : p ∈ newL (placesOf w.sd caps) (sureP w caps goal) F := by rw [hx]; simp
        have h2 := (List.mem_filter.mp h1).2
        have h3 : (newL (placesOf w.sd caps) (sureP w caps goal) F).Nodup := hk.filter _
        rw [hx, List.nodup_append] at h3
        intro hm
        rw [List.map_append] at hm
        rcases List.mem_append.mp hm with hm | hm
        · rw [hfk] at hm
          simp [isin, hm] at h2
        · rw [List.map_map] at hm
          have hm : p ∈ pre := by simpa [Function.comp_def] using hm
          exact h3.2.2 p hm p List.mem_cons_self rfl
      have hlen : (foundL w caps F ++ pre.map fun p => (p, ((k, some (wayIn w caps (fsts F) p)) : NW))).length < 16777216 := by
        have h1 : (newL (placesOf w.sd caps) (sureP w caps goal) F).length ≤ (placesOf w.sd caps).length := List.length_filter_le _ _
        rw [hx] at h1
        simp at h1 ⊢
        omega
      simp only [↓wS, ↓wE, ↓wC, ↓wI, wV, wX, wM, wY, wB, wK, enc_pair]
      refine set_new (f := dNW) (b := (k, some (wayIn w caps (fsts F) p))) hpk hlen ?_
      simp only [↓wS, ↓wE, ↓wC, ↓wI, wV, wX, wM, wY, wB, wK]
      exact ⟨_, _, _, rfl, by simp⟩
    · rintro τ u ⟨o4, o5, o6, rfl, rfl⟩
      simp only [↓wS, ↓wE, ↓wC, ↓wI, wV, wX, wM, wY, wB, wK]
      refine ⟨m', by omega, _, _, _, _, _, T', by omega, fun p hp ha => ?_, rfl, ?_⟩
      · rw [fsts_app]
        exact List.mem_append.mpr (.inl (hat p hp ha))
      · have hz : ¬ k = 0 := by omega
        rw [found_next (fun q hq => T.g.num q hq)]
        simp only [hz, if_false]
end
end Mi.L86
set_option Elab.async false
set_option linter.all false
set_option maxRecDepth 100000
set_option maxHeartbeats 400000
namespace Mi.L86
open PySem PySem.W
open Mi.En (enc)
/-! ### told sure places, dodges, years -/
def nwAt (w : Wea) (caps : List Int) (goal p : Pl) : NW := (lk p (sureL w caps goal)).getD (0, none)
def sureK (w : Wea) (caps : List Int) (goal : Pl) : List Pl := (placesOf w.sd caps).filter fun p => isin p (fsts (sureF w caps goal))
def restS (w : Wea) (caps : List Int) (goal : Pl) : List Pl := (placesOf w.sd caps).filter fun p => !isin p (fsts (sureF w caps goal))
def toldS (w : Wea) (caps : List Int) (goal : Pl) : List (Pl × NW) := (sureK w caps goal).map fun p => (p, nwAt w caps goal p)
def rdS (u : Pl × NW) : D := .tup [enc u.1, .int u.2.1, oD u.2.2]
def yearsD (w : Wea) (caps : List Int) (goal p : Pl) : D := if isin p (fsts (sureF w caps goal)) = true then .int (nwAt w caps goal p).1 else .non
theorem perm_nodup {α : Type} [DecidableEq α] : ∀ {xs ys : List α}, xs.Nodup → ys.Nodup → (∀ a, a ∈ xs ↔ a ∈ ys) → xs.Perm ys
  | [], ys, _, _, h => by
    cases ys with
    | nil => exact .nil
    | cons y ys => exact absurd ((h y).mpr List.mem_cons_self) (by simp)
  | x :: xs, ys, hx, hy, h => by
    obtain ⟨h1, h2⟩ := List.nodup_cons.mp hx
    have hm : x ∈ ys := (h x).mp List.mem_cons_self
    refine .trans (.cons x (perm_nodup (ys := ys.erase x) h2 (hy.erase x) fun a => ?_)) (List.perm_cons_erase hm).symm
    constructor
    · intro ha
      have : a ≠ x := fun z => h1 (by rw [← z]; exact ha)
      exact (List.mem_erase_of_ne this).mpr ((h a).mp (List.mem_cons_of_mem _ ha))
    · intro ha
      have hax : a ≠ x := fun z => by rw [z] at ha; exact (hy.not_mem_erase) ha
      have := (h a).mpr ((List.mem_erase_of_ne hax).mp ha)
      exact (List.mem_cons.mp this).resolve_left hax
theorem sort_sure (w : Wea) (caps : List Int) (goal : Pl) : (fsts (sureF w caps goal)).mergeSort leE = sureK w caps goal := by
  refine sort_unique ?_ ((places_rise _ _).filter _)
  refine perm_nodup (final_nodup (places_nodup _ _)) ((places_nodup _ _).filter _) fun a => ?_
  unfold sureK
  rw [List.mem_filter, isin_iff]
  exact ⟨fun h => ⟨final_sub (places_nodup _ _) h, h⟩, fun h => h.2⟩
theorem sureL_keys (w : Wea) (caps : List Int) (goal : Pl) : (sureL w caps goal).map (·.1) = fsts (sureF w caps goal) := found_keys _ _ _
theorem mem_sureK {w : Wea} {caps : List Int} {goal p : Pl} : p ∈ sureK w caps goal ↔ p ∈ fsts (sureF w caps goal) := by
  unfold sureK
  rw [List.mem_filter, isin_iff]
  exact ⟨fun h => h.2, fun h => ⟨final_sub (places_nodup _ _) h, h⟩⟩
theorem mem_restS {w : Wea} {caps : List Int} {goal p : Pl} : p ∈ restS w caps goal ↔ p ∈ placesOf w.sd caps ∧ p ∉ fsts (sureF w caps goal) := by
  unfold restS
  rw [List.mem_filter, isin_neg]
theorem nw_at {w : Wea} {caps : List Int} {goal p : Pl} (h : p ∈ fsts (sureF w caps goal)) : lk p (sureL w caps goal) = some (nwAt w caps goal p) := by
  unfold nwAt
  have := lookup_isSome (p := p) (l := sureL w caps goal)
  cases e : lk p (sureL w caps goal) with
  | some x => rfl
  | none =>
    rw [e, sureL_keys] at this
    simp [h] at this
theorem nw_mem {w : Wea} {caps : List Int} {goal : Pl} {q : Pl × Int} (h : q ∈ sureF w caps goal) : nwAt w caps goal q.1 = nwOf w caps (sureF w caps goal) q := by
  have hm : (q.1, nwOf w caps (sureF w caps goal) q) ∈ sureL w caps goal := List.mem_map.mpr ⟨q, h, rfl⟩
  have e := kd_lookup (by rw [sureL_keys]; exact final_nodup (places_nodup _ _)) hm
  unfold nwAt
  rw [e]
  rfl
theorem rdS_low {m : Nat} (u : Pl × NW) : below m (rdS u) = true := by
  obtain ⟨p, a, b⟩ := u
  show (below m (enc p) && (true && (below m (oD b) && true))) = true
  rw [En.low]
  cases b <;> rfl
theorem rdSs_low {m : Nat} : ∀ us : List (Pl × NW), belows m (us.map rdS) = true
  | [] => rfl
  | u :: us => by
    show (below m (rdS u) && belows m (us.map rdS)) = true
    rw [rdS_low, rdSs_low us]
    rfl
section
variable {wf n : Nat} {s : S}
theorem c_check_goal (W : Wf s) {w : Wea} (h : w.Ok) {caps : List Int} (hc : CapOk w caps) {p : Pl} (hp : p ∈ placesOf w.sd caps) : callN tab wf (n + 4) 66 [eW w, eT caps, enc p] s = .ok .non s := by
  refine call_W t_check_goal rfl W rfl ?_
  simp only [↓wS, ↓wE, ↓wC, ↓wI, wV, wX, wM, wY, wB, wK, wT, b_check_goal, c_within W h hc, mem_places.mp hp, wO]
theorem c_check_aimed (W : Wf s) {w : Wea} (h : w.Ok) {caps : List Int} (hc : CapOk w caps) {p : Pl} (hp : p ∈ placesOf w.sd caps) : callN tab wf (n + 8) 67 [eW w, eT caps, enc p] s = .ok .non s := by
  refine call_W t_check_aimed rfl W rfl ?_
  simp only [↓wS, ↓wE, ↓wC, ↓wI, wV, wX, wM, wY, wB, wK, wT, b_check_aimed, c_check_capped W h hc, c_check_goal (n := n + 3) W h hc hp, c_check_few W hc, wO]
theorem c_check_here (W : Wf s) {w : Wea} (h : w.Ok) {caps : List Int} (hc : CapOk w caps) {p : Pl} (hp : p ∈ placesOf w.sd caps) : callN tab wf (n + 8) 54 [eW w, eT caps, enc p] s = .ok .non s := by
  refine call_W t_check_here rfl W rfl ?_
  simp only [↓wS, ↓wE, ↓wC, ↓wI, wV, wX, wM, wY, wB, wK, wT, b_check_here, c_check_capped W h hc, c_within W h hc, mem_places.mp hp, wO]
theorem c_sure_table (W : Wf s) (hwf : 602 ≤ wf) {w : Wea} (h : w.Ok) {caps : List Int} (hc : CapOk w caps) {goal : Pl} (hg : goal ∈ placesOf w.sd caps) : callN tab wf (n + 9) 72 [eW w, eT caps, enc goal] s = .ok (.ref s.nx) (s.add (.lst false ((toldS w caps goal).map rdS))) := by
  have hP := places_600 h hc
  have hL : (sureK w caps goal).length ≤ (placesOf w.sd caps).length := List.length_filter_le _ _
  refine call_Wcell t_sure_table rfl W (rdSs_low _) ?_
  simp only [↓wS, ↓wE, ↓wC, ↓wI, wV, wX, wM, wY, wB, wK, wT, b_sure_table, c_check_aimed W h hc hg, c_board W h hc, c_sure_in (n := n + 5) W hwf h hc hg, sureL_keys, sort_sure]
  refine ⟨by omega, W_map (fun p => rdS (p, nwAt w caps goal p)) (fun p hp => ?_) ?_⟩
  · simp only [↓wS, ↓wE, ↓wC, ↓wI, wV, wX, wM, wY, wB, wK, nw_at (mem_sureK.mp hp), dNW]
    exact ⟨by simp, rfl, rfl⟩
  · simp only [↓wS, ↓wE, ↓wC, ↓wI, wV, wX, wM, wY, wB, wK]
    refine ⟨_, rfl, Nat.le_refl _, ?_, Over.add (Over.refl s)⟩
    rw [get_add]
    unfold toldS
    rw [List.map_map]
    rfl
theorem c_dodge (W : Wf s) (hwf : 602 ≤ wf) {w : Wea} (h : w.Ok) {caps : List Int} (hc : CapOk w caps) {goal : Pl} (hg : goal ∈ placesOf w.sd caps) : callN tab wf (n + 9) 74 [eW w, eT caps, enc goal] s = .ok (.ref s.nx) (s.add (.lst false ((restS w caps goal).map enc))) := by
  have hP := places_600 h hc
  refine call_Wcell t_dodge rfl W (lows_map _ _) ?_
  simp only [↓wS, ↓wE, ↓wC, ↓wI, wV, wX, wM, wY, wB, wK, wT, b_dodge, c_check_aimed W h hc hg, c_board W h hc, c_sure_in (n := n + 5) W hwf h hc hg, sureL_keys]
  simp only [↓wS, ↓wE, ↓wC, ↓wI, wV, wX, wM, wY, wB, wK, boardD, board_keys, sort_places]
  refine ⟨by omega, W_filter (fun p => !isin p (fsts (sureF w caps goal))) enc (fun p hp => ?_) ?_⟩
  · simp only [↓wS, ↓wE, ↓wC, ↓wI, wV, wX, wM, wY, wB, wK, sureL_keys]
    exact brT_if rfl fun _ => by simp only [↓wS, ↓wE, ↓wC, ↓wI, wV, wX, wM, wY, wB, wK]
  · simp only [↓wS, ↓wE, ↓wC, ↓wI, wV, wX, wM, wY, wB, wK]
    exact ⟨_, rfl, Nat.le_refl _, get_add, Over.add (Over.refl s)⟩
theorem c_years_to (W : Wf s) (hwf : 602 ≤ wf) {w : Wea} (h : w.Ok) {caps : List Int} (hc : CapOk w caps) {goal p : Pl} (hg : goal ∈ placesOf w.sd caps) (hp : p ∈ placesOf w.sd caps) : callN tab wf (n + 9) 76 [eW w, eT caps, enc p, enc goal] s = .ok (yearsD w caps goal p) s := by
  refine call_W t_years_to rfl W (by unfold yearsD; split <;> rfl) ?_
  simp only [↓wS, ↓wE, ↓wC, ↓wI, wV, wX, wM, wY, wB, wK, wT, b_years_to, c_check_here W h hc hp, c_check_goal (n := n + 4) W h hc hg, c_check_few W hc, c_board W h hc, c_sure_in (n := n + 5) W hwf h hc hg, sureL_keys]
  refine brE_pure (x := .int (nwAt w caps goal p).1) (y := .non) (fun hi => ?_) (fun _ => by simp only [↓wS, ↓wE, ↓wC, ↓wI, wV, wX, wM, wY, wB, wK]) ?_
  · simp only [↓wS, ↓wE, ↓wC, ↓wI, wV, wX, wM, wY, wB, wK, nw_at (isin_iff.mp hi), dNW]
  · simp only [↓wS, ↓wE, ↓wC, ↓wI, wV, wX, wM, wY, wB, wK, wO, yearsD]
end
end Mi.L86
set_option Elab.async false
set_option linter.all false
set_option maxRecDepth 100000
set_option maxHeartbeats 400000
/-! Rp: what repr gives: how long, and that places' texts differ. -/
namespace Mi
open PySem PySem.W PyProof.Rows
open Mi.En (enc)
def tx (x : Str) : List Nat := x.cps.toList
theorem tx_ext {x y : Str} (h : tx x = tx y) : x = y := by
  cases x; cases y
  simp [tx] at h
  simp [h]
theorem tx_app (x y : Str) : tx (x ++ y) = tx x ++ tx y := by
  show (x.cps ++ y.cps).toList = _
  rw [Array.toList_append]
  rfl
theorem tx_len (x : Str) : (tx x).length = x.length := by
  show x.cps.toList.length = x.cps.size
  simp
def itx (i : Int) : List Nat := tx (Str.ofString (toString i))
theorem itx_sign (i : Int) : ∀ c ∈ itx i, c = 45 ∨ (48 ≤ c ∧ c ≤ 57) := by
  intro c hc
  by_cases h : c = 45
  · exact .inl h
  · refine .inr ?_
    by_cases h2 : c < 48 ∨ 57 < c
    · exact absurd hc (int_text_free' c ⟨h, h2⟩ i)
    · omega
theorem itx_inj {i j : Int} (h : itx i = itx j) : i = j := by
  unfold itx tx at h
  rw [signs_ofString, signs_ofString] at h
  have h2 : (toString i).toList = (toString j).toList := by
    have inj : ∀ (a b : List Char), a.map Char.toNat = b.map Char.toNat → a = b := by
      intro a
      induction a with
      | nil => intro b hb; cases b with | nil => rfl | cons => cases hb
      | cons x a ih =>
        intro b hb
        cases b with
        | nil => cases hb
        | cons y b =>
          simp only [List.map_cons, List.cons.injEq] at hb
          have : x = y := by
            apply Char.ext
            apply UInt32.toNat.inj
            exact hb.1
          rw [this, ih b hb.2]
    exact inj _ _ h
  rw [Int.toString_eq_repr, Int.toString_eq_repr] at h2
  exact Int.repr_injective (String.ext h2)
theorem itx_ne (i : Int) : itx i ≠ [] := by
  unfold itx tx
  rw [signs_ofString]
  intro h
  have h : (toString i).toList = [] := by simpa using h
  rw [Int.toString_eq_repr, Int.repr_eq_if] at h
  split at h
  · rw [Nat.toList_repr] at h
    exact Nat.toDigits_ne_nil h
  · rw [String.toList_append] at h
    have := (List.append_eq_nil_iff.mp h).1
    cases this
def isSg (c : Nat) : Prop := c = 45 ∨ (48 ≤ c ∧ c ≤ 57)
theorem cut_sg {u v r r' : List Nat} {c d : Nat} (hu : ∀ x ∈ u, isSg x) (hv : ∀ x ∈ v, isSg x) (hc : ¬ isSg c) (hd : ¬ isSg d) (h : u ++ c :: r = v ++ d :: r') : u = v ∧ c :: r = d :: r' := by
  induction u generalizing v with
  | nil =>
    cases v with
    | nil => exact ⟨rfl, h⟩
    | cons y v =>
      simp only [List.nil_append, List.cons_append, List.cons.injEq] at h
      exact absurd (by rw [h.1]; exact hv y List.mem_cons_self) hc
  | cons x u ih =>
    cases v with
    | nil =>
      simp only [List.nil_append, List.cons_append, List.cons.injEq] at h
      exact absurd (by rw [← h.1]; exact hu x List.mem_cons_self) hd
    | cons y v =>
      simp only [List.cons_append, List.cons.injEq] at h
      obtain ⟨rfl, h⟩ := h
      obtain ⟨rfl, h2⟩ := ih (fun z hz => hu z (List.mem_cons_of_mem _ hz)) (fun z hz => hv z (List.mem_cons_of_mem _ hz)) h
      exact ⟨rfl, h2⟩
/-- a tuple's text, from its second item on -/
def tailT : List Int → List Nat
  | [] => [41]
  | y :: r => 44 :: 32 :: (itx y ++ tailT r)
theorem sg41 : ¬ isSg 41 := by unfold isSg; omega
theorem sg44 : ¬ isSg 44 := by unfold isSg; omega
theorem tailT_head (xs : List Int) : ∃ c r, tailT xs = c :: r ∧ ¬ isSg c := by
  cases xs with
  | nil => exact ⟨41, [], rfl, sg41⟩
  | cons y r => exact ⟨44, _, rfl, sg44⟩
theorem tailT_inj : ∀ {xs ys : List Int} {u v : List Nat}, tailT xs ++ u = tailT ys ++ v → xs = ys ∧ u = v
  | [], [], u, v, h => ⟨rfl, by simpa [tailT] using h⟩
  | [], y :: ys, u, v, h => by simp [tailT] at h
  | x :: xs, [], u, v, h => by simp [tailT] at h
  | x :: xs, y :: ys, u, v, h => by
    simp only [tailT, List.cons_append, List.append_assoc, List.cons.injEq, true_and] at h
    obtain ⟨c, r, e1, h1⟩ := tailT_head xs
    obtain ⟨d, r', e2, h2⟩ := tailT_head ys
    have h3 := h
    rw [e1, e2] at h3
    simp only [List.cons_append] at h3
    obtain ⟨e, h4⟩ := cut_sg (itx_sign x) (itx_sign y) h1 h2 h3
    have hx := itx_inj e
    subst hx
    obtain ⟨rfl, h6⟩ := tailT_inj (List.append_cancel_left h)
    exact ⟨rfl, h6⟩
def tupT : List Int → List Nat
  | [] => [40, 41]
  | [x] => 40 :: (itx x ++ [44, 41])
  | x :: y :: r => 40 :: (itx x ++ tailT (y :: r))
theorem tx_comma : tx (", " : Str) = [44, 32] := by decide +kernel
theorem join_tail : ∀ (x : Int) (xs : List Int), tx (Str.join ", " ((x :: xs).map fun n => ((toString n : String) : Str))) ++ [41] = itx x ++ tailT xs
  | x, [] => rfl
  | x, y :: r => by
    have ih := join_tail y r
    show tx (((toString x : String) : Str) ++ ", " ++ Str.join ", " ((y :: r).map fun n => ((toString n : String) : Str))) ++ [41] = _
    rw [tx_app, tx_app, tx_comma, List.append_assoc, ih]
    simp [itx, tailT]
theorem shown_tup (xs : List Int) : tx (PyData.shown (.tuple (xs.map .int))) = tupT xs := by
  simp only [PyData.shown, PyData.shownAll_ints]
  unfold tupleText
  cases xs with
  | nil => decide +kernel
  | cons x xs =>
    cases xs with
    | nil =>
      show tx (("(" : Str) ++ ((toString x : String) : Str) ++ ((",)" : String) : Str)) = _
      rw [tx_app, tx_app, show tx ("(" : Str) = [40] by decide +kernel, show tx (((",)" : String) : Str)) = [44, 41] by decide +kernel]
      rfl
    | cons y r =>
      have hl : (((x :: y :: r).map fun n => ((toString n : String) : Str)).length == 1) = false := by simp
      rw [hl]
      simp only [Bool.false_eq_true, if_false]
      rw [tx_app, tx_app, show tx ("(" : Str) = [40] by decide +kernel, show tx (((")" : String) : Str)) = [41] by decide +kernel, List.append_assoc, join_tail]
      rfl
theorem shown_pl (p : Int × Tup Int) : tx (PyData.shown (Datum.toD p)) = 40 :: (itx p.1 ++ (44 :: 32 :: (tupT p.2.items ++ [41]))) := by
  have e : (Datum.toD p : PyData) = .tuple [.int p.1, .tuple (p.2.items.map .int)] := rfl
  rw [e]
  have h2 := shown_tup p.2.items
  simp only [PyData.shown, PyData.shownAll] at h2 ⊢
  unfold tupleText
  show tx (("(" : Str) ++ (((toString p.1 : String) : Str) ++ ", " ++ tupleText (PyData.shownAll (p.2.items.map .int))) ++ ((")" : String) : Str)) = _
  rw [tx_app, tx_app, tx_app, tx_app, h2, tx_comma, show tx ("(" : Str) = [40] by decide +kernel, show tx (((")" : String) : Str)) = [41] by decide +kernel]
  simp [itx]
theorem tupT_inj {xs ys : List Int} {u v : List Nat} (h : tupT xs ++ 41 :: u = tupT ys ++ 41 :: v) : xs = ys := by
  have sg_head : ∀ (x : Int) {r : List Nat} {l : List Nat}, itx x ++ r = 41 :: l → False := by
    intro x r l h
    cases e : itx x with
    | nil => exact itx_ne x e
    | cons c s =>
      rw [e] at h
      simp only [List.cons_append, List.cons.injEq] at h
      have := itx_sign x c (by rw [e]; simp)
      omega
  match xs, ys, h with
  | [], [], _ => rfl
  | [], [y], h => simp [tupT] at h; exact (sg_head y h.symm).elim
  | [], y :: z :: r, h => simp [tupT] at h; exact (sg_head y h.symm).elim
  | [x], [], h => simp [tupT] at h; exact (sg_head x h).elim
  | x :: z :: r, [], h => simp [tupT] at h; exact (sg_head x h).elim
  | [x], [y], h =>
    simp [tupT] at h
    obtain ⟨e, _⟩ := cut_sg (itx_sign x) (itx_sign y) sg44 sg44 h
    rw [itx_inj e]
  | [x], y :: z :: r, h =>
    simp [tupT, tailT] at h
    obtain ⟨_, h⟩ := cut_sg (itx_sign x) (itx_sign y) sg44 sg44 h
    simp at h
  | x :: z :: r, [y], h =>
    simp [tupT, tailT] at h
    obtain ⟨_, h⟩ := cut_sg (itx_sign x) (itx_sign y) sg44 sg44 h
    simp at h
  | x :: z :: r, y :: z' :: r', h =>
    simp only [tupT, List.cons_append, List.append_assoc, List.cons.injEq, true_and] at h
    have h3 := h
    simp only [tailT, List.cons_append] at h3
    obtain ⟨e, _⟩ := cut_sg (itx_sign x) (itx_sign y) sg44 sg44 h3
    have hx := itx_inj e
    subst hx
    have h4 := List.append_cancel_left h
    rw [(tailT_inj h4).1]
theorem shown_pl_inj {p q : Int × Tup Int} (h : PyData.shown (Datum.toD p) = PyData.shown (Datum.toD q)) : p = q := by
  have h := congrArg tx h
  rw [shown_pl, shown_pl] at h
  simp only [List.cons.injEq, true_and] at h
  obtain ⟨e, h⟩ := cut_sg (itx_sign p.1) (itx_sign q.1) sg44 sg44 h
  have h1 := itx_inj e
  simp only [List.cons.injEq, true_and] at h
  have h2 := tupT_inj h
  obtain ⟨a, ⟨xs⟩⟩ := p
  obtain ⟨b, ⟨ys⟩⟩ := q
  simp at h1 h2
  rw [h1, h2]
theorem tup_ne_pl (xs : List Int) (p : Int × Tup Int) : PyData.shown (.tuple (xs.map .int)) ≠ PyData.shown (Datum.toD p) := by
  intro h
  have h := congrArg tx h
  rw [shown_pl, shown_tup] at h
  match xs, h with
  | [], h =>
    simp only [tupT, List.cons.injEq, true_and] at h
    cases e : itx p.1 with
    | nil => exact itx_ne _ e
    | cons c s =>
      rw [e] at h
      simp only [List.cons_append, List.cons.injEq] at h
      have := itx_sign p.1 c (by rw [e]; simp)
      omega
  | [x], h =>
    simp only [tupT, List.cons.injEq, true_and] at h
    obtain ⟨_, h⟩ := cut_sg (itx_sign x) (itx_sign p.1) sg44 sg44 h
    simp at h
  | x :: y :: r, h =>
    have e2 : ∃ l, tupT p.2.items ++ [41] = 40 :: l := by
      cases p.2.items with
      | nil => exact ⟨_, rfl⟩
      | cons a l => cases l <;> exact ⟨_, rfl⟩
    obtain ⟨l, e2⟩ := e2
    rw [e2] at h
    simp only [tupT, tailT, List.cons.injEq, true_and] at h
    obtain ⟨_, h⟩ := cut_sg (itx_sign x) (itx_sign p.1) sg44 sg44 h
    simp only [List.cons.injEq, true_and] at h
    cases e : itx y with
    | nil => exact itx_ne _ e
    | cons c s =>
      rw [e] at h
      simp only [List.cons_append, List.cons.injEq] at h
      have := itx_sign y c (by rw [e]; simp)
      omega
/-- a text that does not open as a tuple's -/
theorem head_ne_pl {x : Str} {c : Nat} {l : List Nat} (h : tx x = c :: l) (hc : c ≠ 40) (p : Int × Tup Int) : x ≠ PyData.shown (Datum.toD p) := by
  intro z
  have z := congrArg tx z
  rw [shown_pl, h] at z
  simp at z
  exact hc z.1
/-! ### how long -/
structure Fit (n d : Nat) (p : PyData) : Prop where
  sh : p.showable = true
  nd : p.hasDict = false
  ln : p.shown.length ≤ n
  dp : p.depth ≤ d
  ok : PyData.strOk p.shown = true
theorem strOk_tx {x : Str} (h : ∀ c ∈ tx x, c < 1114112) : PyData.strOk x = true := by
  unfold PyData.strOk
  rw [Array.all_eq_true']
  intro c hc
  simpa using h c (by simpa [tx] using hc)
theorem tx_of {x : Str} (h : PyData.strOk x = true) : ∀ c ∈ tx x, c < 1114112 := by
  unfold PyData.strOk at h
  rw [Array.all_eq_true'] at h
  intro c hc
  simpa using h c (by simpa [tx] using hc)
theorem strOk_app {x y : Str} (hx : PyData.strOk x = true) (hy : PyData.strOk y = true) : PyData.strOk (x ++ y) = true := strOk_tx fun c hc => by
  rw [tx_app] at hc
  rcases List.mem_append.mp hc with hc | hc
  · exact tx_of hx c hc
  · exact tx_of hy c hc
theorem strOk_join : ∀ {xs : List Str}, (∀ x ∈ xs, PyData.strOk x = true) → PyData.strOk (Str.join ", " xs) = true
  | [], _ => by decide +kernel
  | [x], h => h x List.mem_cons_self
  | x :: y :: r, h => strOk_app (strOk_app (h x List.mem_cons_self) (by decide +kernel)) (strOk_join fun z hz => h z (List.mem_cons_of_mem _ hz))
theorem join_len_le {m : Nat} : ∀ {xs : List Str}, (∀ x ∈ xs, x.length ≤ m) → (Str.join ", " xs).length ≤ xs.length * (m + 2)
  | [], _ => Nat.zero_le _
  | [x], h => by
    have := h x List.mem_cons_self
    show x.length ≤ 1 * (m + 2)
    omega
  | x :: y :: r, h => by
    have h1 := h x List.mem_cons_self
    have ih := join_len_le (m := m) (xs := y :: r) fun z hz => h z (List.mem_cons_of_mem _ hz)
    show (x ++ ", " ++ Str.join ", " (y :: r)).length ≤ _
    rw [← tx_len, tx_app, tx_app, List.length_append, List.length_append, tx_len, tx_len, tx_len]
    have : (", " : Str).length = 2 := by decide +kernel
    rw [this]
    rw [List.length_cons, Nat.succ_mul]
    omega
theorem shownAll_map : ∀ ps : List PyData, PyData.shownAll ps = ps.map PyData.shown
  | [] => rfl
  | p :: ps => by rw [PyData.shownAll, shownAll_map ps]; rfl
theorem showableAll_of : ∀ {ps : List PyData}, (∀ p ∈ ps, p.showable = true) → PyData.showableAll ps = true
  | [], _ => rfl
  | p :: ps, h => by rw [PyData.showableAll, h p List.mem_cons_self, showableAll_of fun q hq => h q (List.mem_cons_of_mem _ hq)]; rfl
theorem hasDictAll_of : ∀ {ps : List PyData}, (∀ p ∈ ps, p.hasDict = false) → PyData.hasDictAll ps = false
  | [], _ => rfl
  | p :: ps, h => by rw [PyData.hasDictAll, h p List.mem_cons_self, hasDictAll_of fun q hq => h q (List.mem_cons_of_mem _ hq)]; rfl
theorem depthAll_of {d : Nat} : ∀ {ps : List PyData}, (∀ p ∈ ps, p.depth ≤ d) → PyData.depthAll ps ≤ d
  | [], _ => by simp [PyData.depthAll]
  | p :: ps, h => by
    have h1 := h p List.mem_cons_self
    have h2 := depthAll_of (d := d) fun q hq => h q (List.mem_cons_of_mem _ hq)
    simp only [PyData.depthAll]
    omega
variable {n d k m : Nat} {ps : List PyData}
theorem Fit.list (h : ∀ p ∈ ps, Fit n d p) (hl : ps.length ≤ k) (hm : k * (n + 2) + 2 ≤ m) : Fit m (d + 1) (.list ps) := by
  have hs : ∀ x ∈ ps.map PyData.shown, x.length ≤ n := fun x hx => by obtain ⟨p, hp, rfl⟩ := List.mem_map.mp hx; exact (h p hp).ln
  have e : PyData.shown (.list ps) = ("[" : Str) ++ Str.join ", " (ps.map PyData.shown) ++ "]" := by
    rw [PyData.shown, shownAll_map, listText_eq_join]
  refine ⟨?_, ?_, ?_, ?_, ?_⟩
  · rw [PyData.showable]; exact showableAll_of fun p hp => (h p hp).sh
  · rw [PyData.hasDict]; exact hasDictAll_of fun p hp => (h p hp).nd
  · rw [e, ← tx_len, tx_app, tx_app, List.length_append, List.length_append, tx_len, tx_len, tx_len]
    have h1 := join_len_le hs
    have : ("[" : Str).length = 1 := by decide +kernel
    have : ("]" : Str).length = 1 := by decide +kernel
    have h3 : ps.length * (n + 2) ≤ k * (n + 2) := Nat.mul_le_mul_right _ hl
    rw [List.length_map] at h1
    omega
  · have := depthAll_of fun p hp => (h p hp).dp
    simp only [PyData.depth]
    omega
  · rw [e]
    exact strOk_app (strOk_app (by decide +kernel) (strOk_join fun x hx => by obtain ⟨p, hp, rfl⟩ := List.mem_map.mp hx; exact (h p hp).ok)) (by decide +kernel)
theorem Fit.tup (h : ∀ p ∈ ps, Fit n d p) (hl : ps.length ≤ k) (hm : k * (n + 2) + 3 ≤ m) : Fit m (d + 1) (.tuple ps) := by
  have hs : ∀ x ∈ ps.map PyData.shown, x.length ≤ n := fun x hx => by obtain ⟨p, hp, rfl⟩ := List.mem_map.mp hx; exact (h p hp).ln
  have e : PyData.shown (.tuple ps) = ("(" : Str) ++ Str.join ", " (ps.map PyData.shown) ++ (if (ps.map PyData.shown).length == 1 then ",)" else ")" : String) := by
    rw [PyData.shown, shownAll_map]
    rfl
  refine ⟨?_, ?_, ?_, ?_, ?_⟩
  · rw [PyData.showable]; exact showableAll_of fun p hp => (h p hp).sh
  · rw [PyData.hasDict]; exact hasDictAll_of fun p hp => (h p hp).nd
  · rw [e, ← tx_len, tx_app, tx_app, List.length_append, List.length_append, tx_len, tx_len, tx_len]
    have h1 := join_len_le hs
    have : ("(" : Str).length = 1 := by decide +kernel
    have : (((if (ps.map PyData.shown).length == 1 then ",)" else ")" : String) : Str)).length ≤ 2 := by split <;> decide +kernel
    have h3 : ps.length * (n + 2) ≤ k * (n + 2) := Nat.mul_le_mul_right _ hl
    rw [List.length_map] at h1
    omega
  · have := depthAll_of fun p hp => (h p hp).dp
    simp only [PyData.depth]
    omega
  · rw [e]
    exact strOk_app (strOk_app (by decide +kernel) (strOk_join fun x hx => by obtain ⟨p, hp, rfl⟩ := List.mem_map.mp hx; exact (h p hp).ok)) (by split <;> decide +kernel)
theorem Fit.mono {n' d' : Nat} {p : PyData} (h : Fit n d p) (hn : n ≤ n') (hd : d ≤ d') : Fit n' d' p := ⟨h.sh, h.nd, Nat.le_trans h.ln hn, Nat.le_trans h.dp hd, h.ok⟩
theorem Fit.int {i : Int} (h : i.natAbs < 10 ^ 20) : Fit 21 0 (.int i) := by
  have hlog : i.natAbs.log2 < 1920 := by
    have : i.natAbs < 2 ^ 1920 := Nat.lt_trans h (by decide +kernel)
    by_cases z : i.natAbs = 0
    · rw [z]; decide
    · exact (Nat.log2_lt z).mpr this
  refine ⟨?_, rfl, ?_, Nat.zero_le _, ?_⟩
  · rw [PyData.showable]; simpa using hlog
  · have h1 := int_text_length_le10 (a := i) (k := 20) (by decide) h
    show (Str.ofString (toString i)).length ≤ 21
    rw [← tx_len]
    unfold tx
    rw [signs_ofString, List.length_map]
    simpa [String.length_toList] using h1
  · exact strOk_tx fun c hc => by
      have := itx_sign i c hc
      omega
theorem Fit.bool (b : Bool) : Fit 5 0 (.bool b) := by
  refine ⟨rfl, rfl, ?_, Nat.zero_le _, ?_⟩ <;> cases b <;> decide +kernel
theorem Fit.none : Fit 4 0 .none := ⟨rfl, rfl, by decide +kernel, Nat.zero_le _, by decide +kernel⟩
theorem v_repr {s : S} {Q : VQ} {x : D} {p : PyData} (h : s.py x = some p) (f : Fit 16777216 64 p) : (evBi .repr [x] s).W Q = Q (.str p.shown) s := by
  have h1 := f.ln
  have h2 := f.dp
  show Res.W (match s.py x with | some p => if (p.showable && !p.hasDict && decide (p.depth ≤ 64) && decide (p.shown.length ≤ sizeLine)) = true then .ok (.str p.shown) s else .stuck | none => .stuck) Q = _
  rw [h]
  simp only [f.sh, f.nd, h2, PySem.sizeLine_eq, h1, decide_true, Bool.not_false, Bool.and_self, if_true]
  rfl
theorem c_eqs {s : S} {Q : VQ} {x y : Str} (hx : PyData.strOk x = true) (hy : PyData.strOk y = true) : (evCmp .eq (.str x) (.str y) s).W Q = Q (.bl (decide (x = y))) s := by
  have h1 : s.py (.str x) = some (.str x) := rfl
  have h2 : s.py (.str y) = some (.str y) := rfl
  have h3 : SeqAt.shaped (.str x) = true := by unfold SeqAt.shaped; rw [show PyData.canLay0 (.str x) = PyData.strOk x from rfl, hx]; rfl
  have h4 : SeqAt.shaped (.str y) = true := by unfold SeqAt.shaped; rw [show PyData.canLay0 (.str y) = PyData.strOk y from rfl, hy]; rfl
  have h5 : PyData.eqv (.str x) (.str y) = decide (x = y) := by simp [PyData.eqv]; rw [Bool.eq_iff_iff]; simp
  simp only [evCmp, S.eqv, h1, h2, h3, h4, h5, Bool.and_self, if_true]
  rfl
theorem c_nes {s : S} {Q : VQ} {x y : Str} (hx : PyData.strOk x = true) (hy : PyData.strOk y = true) : (evCmp .ne (.str x) (.str y) s).W Q = Q (.bl (!decide (x = y))) s := by
  have h1 : s.py (.str x) = some (.str x) := rfl
  have h2 : s.py (.str y) = some (.str y) := rfl
  have h3 : SeqAt.shaped (.str x) = true := by unfold SeqAt.shaped; rw [show PyData.canLay0 (.str x) = PyData.strOk x from rfl, hx]; rfl
  have h4 : SeqAt.shaped (.str y) = true := by unfold SeqAt.shaped; rw [show PyData.canLay0 (.str y) = PyData.strOk y from rfl, hy]; rfl
  have h5 : PyData.eqv (.str x) (.str y) = decide (x = y) := by simp [PyData.eqv]; rw [Bool.eq_iff_iff]; simp
  simp only [evCmp, S.eqv, h1, h2, h3, h4, h5, Bool.and_self, if_true]
  rfl
/-- a text among texts -/
theorem c_inStr {s : S} {x : Str} {ys : List Str} (hx : PyData.strOk x = true) (hy : ∀ y ∈ ys, PyData.strOk y = true) : s.isIn (.str x) (.lst (ys.map .str)) = some (isin x ys) := by
  have h1 : s.py (.str x) = some (.str x) := rfl
  have h2 : s.pys (ys.map .str) = some (ys.map .str) := by
    clear hy
    induction ys with
    | nil => rfl
    | cons y ys ih =>
      show toPys _ _ = _
      rw [List.map_cons, toPys]
      rw [show toPys (s.look 4) (ys.map D.str) = some (ys.map .str) from ih]
      rfl
  have h3 : SeqAt.shaped (.str x) = true := by unfold SeqAt.shaped; rw [show PyData.canLay0 (.str x) = PyData.strOk x from rfl, hx]; rfl
  have h4 : SeqAt.shaped (.list (ys.map .str)) = true := by
    unfold SeqAt.shaped
    have e1 : PyData.canLay0 (.list (ys.map .str)) = true := by
      show PyData.canLayAll0 _ = true
      clear h2
      induction ys with
      | nil => rfl
      | cons y ys ih =>
        rw [List.map_cons, PyData.canLayAll0, show PyData.canLay0 (.str y) = PyData.strOk y from rfl, hy y List.mem_cons_self, ih fun z hz => hy z (List.mem_cons_of_mem _ hz)]
        rfl
    have e2 : PyData.depth (.list (ys.map .str)) ≤ 64 := by
      have := depthAll_of (d := 0) (ps := ys.map .str) fun p hp => by obtain ⟨y, _, rfl⟩ := List.mem_map.mp hp; exact Nat.le_refl _
      simp only [PyData.depth]
      omega
    rw [e1, decide_eq_true e2]
    rfl
  have h5 : ((ys.map PyData.str).any fun z => PyData.eqv z (.str x)) = isin x ys := by
    rw [List.any_map]
    rw [Bool.eq_iff_iff, isin_iff]
    simp [PyData.eqv]
  simp only [S.isIn, h1, h2, h3, h4, h5, Bool.and_self, if_true]
theorem c_instr {s : S} {Q : VQ} {x : Str} {ys : List Str} (hx : PyData.strOk x = true) (hy : ∀ y ∈ ys, PyData.strOk y = true) : (evCmp .isin (.str x) (.lst (ys.map .str)) s).W Q = Q (.bl (isin x ys)) s := by
  simp only [evCmp, c_inStr hx hy]
  rfl
theorem c_notinstr {s : S} {Q : VQ} {x : Str} {ys : List Str} (hx : PyData.strOk x = true) (hy : ∀ y ∈ ys, PyData.strOk y = true) : (evCmp .notin (.str x) (.lst (ys.map .str)) s).W Q = Q (.bl (!isin x ys)) s := by
  simp only [evCmp, c_inStr hx hy]
  rfl
/-- repr(a) != repr(b), the same -/
theorem c_neself {s : S} {Q : VQ} {x : Str} (hx : PyData.strOk x = true) : (evCmp .ne (.str x) (.str x) s).W Q = Q (.bl false) s := by
  rw [c_nes hx hx]
  simp
end Mi
set_option Elab.async false
set_option linter.all false
set_option maxRecDepth 100000
set_option maxHeartbeats 400000
/-! Vl: values that are nearly tables. -/
namespace Mi
open PySem PySem.W PyProof.Rows
open Mi.En (enc)
/-- a part of a row -/
inductive Pt where
  | int (i : Int) | non | bl (b : Bool) | str (x : Str) | tup (xs : List Int) | pl (p : Int × Tup Int)
namespace Pt
def d : Pt → D
  | .int i => .int i
  | .non => .non
  | .bl b => .bl b
  | .str x => .str x
  | .tup xs => .tup (xs.map enc)
  | .pl p => enc p
def y : Pt → PyData
  | .int i => .int i
  | .non => .none
  | .bl b => .bool b
  | .str x => .str x
  | .tup xs => .tuple (xs.map .int)
  | .pl p => Datum.toD p
def ty : Pt → Ty
  | .int _ => .int
  | .non => .non
  | .bl _ => .bl
  | .str _ => .str
  | .tup _ => .tup
  | .pl _ => .tup
def Ok (q : Pt) : Prop := PyData.canLay0 q.y = true
theorem lay_int (i : Int) : Ok (.int i) := rfl
theorem lay_non : Ok .non := rfl
theorem lay_bl (b : Bool) : Ok (.bl b) := rfl
theorem lay_str {x : Str} (h : PyData.strOk x = true) : Ok (.str x) := by
  show PyData.canLay0 (.str x) = true
  rw [PyData.canLay0]
  exact h
theorem lay_pl (p : Int × Tup Int) : Ok (.pl p) := En.lay p
theorem lay_tup (xs : List Int) : Ok (.tup xs) := by
  show PyData.canLayAll0 (xs.map PyData.int) = true
  exact lays_map (α := Int) xs
theorem depth (q : Pt) : q.y.depth ≤ 4 := by
  cases q with
  | tup xs =>
    have := depthAll_of (d := 0) (ps := xs.map PyData.int) fun p hp => by obtain ⟨x, _, rfl⟩ := List.mem_map.mp hp; exact Nat.le_refl _
    simp only [y, PyData.depth]
    omega
  | pl p => exact Nat.le_trans (Datum.depth_le p) (by decide)
  | _ => exact Nat.zero_le _
theorem py {q : Pt} (lk : Nat → Option PyData) : toPy lk q.d = some q.y := by
  cases q with
  | tup xs =>
    show (toPys lk (xs.map enc)).map PyData.tuple = _
    rw [toPys_map]
    rfl
  | pl p => exact En.py lk p
  | _ => rfl
theorem low {q : Pt} (n : Nat) : below n q.d = true := by
  cases q with
  | tup xs => exact lows_map n xs
  | pl p => exact En.low n p
  | _ => rfl
theorem tyOf {q : Pt} {s : S} : s.tyOf q.d = some q.ty := by cases q <;> rfl
def int? : Pt → Option Int
  | .int i => some i
  | _ => none
def pl? : Pt → Option (Int × Tup Int)
  | .pl p => some p
  | _ => none
end Pt
theorem pys_pts (lk : Nat → Option PyData) : ∀ qs : List Pt, toPys lk (qs.map Pt.d) = some (qs.map Pt.y)
  | [] => rfl
  | q :: qs => by rw [List.map_cons, toPys, Pt.py, pys_pts lk qs]; rfl
theorem lows_pts (n : Nat) : ∀ qs : List Pt, belows n (qs.map Pt.d) = true
  | [] => rfl
  | q :: qs => by rw [List.map_cons, belows, Pt.low, lows_pts n qs]; rfl
theorem lays_pts : ∀ {qs : List Pt}, (∀ q ∈ qs, q.Ok) → PyData.canLayAll0 (qs.map Pt.y) = true
  | [], _ => rfl
  | q :: qs, h => by rw [List.map_cons, PyData.canLayAll0, (show PyData.canLay0 q.y = true from h q List.mem_cons_self), lays_pts fun z hz => h z (List.mem_cons_of_mem _ hz)]; rfl
structure Rw where
  lst : Bool
  parts : List Pt
namespace Rw
def d (r : Rw) : D := match r.lst with
  | true => .lst (r.parts.map Pt.d)
  | false => .tup (r.parts.map Pt.d)
def y (r : Rw) : PyData := match r.lst with
  | true => .list (r.parts.map Pt.y)
  | false => .tuple (r.parts.map Pt.y)
def Ok (r : Rw) : Prop := (∀ q ∈ r.parts, q.Ok) ∧ r.parts.length ≤ 8 ∧ ∀ q, r.parts.head? = some q → Fit 1000 4 q.y
theorem py {r : Rw} (lk : Nat → Option PyData) : toPy lk r.d = some r.y := by
  obtain ⟨b, qs⟩ := r
  cases b with
  | true => show (toPys lk (qs.map Pt.d)).map PyData.list = _; rw [pys_pts]; rfl
  | false => show (toPys lk (qs.map Pt.d)).map PyData.tuple = _; rw [pys_pts]; rfl
theorem low {r : Rw} (n : Nat) : below n r.d = true := by
  obtain ⟨b, qs⟩ := r
  cases b <;> exact lows_pts n qs
theorem lay {r : Rw} (h : r.Ok) : PyData.canLay0 r.y = true := by
  obtain ⟨b, qs⟩ := r
  cases b <;> exact lays_pts h.1
theorem depth {r : Rw} : r.y.depth ≤ 5 := by
  obtain ⟨b, qs⟩ := r
  have := depthAll_of (d := 4) (ps := qs.map Pt.y) fun p hp => by obtain ⟨q, hq, rfl⟩ := List.mem_map.mp hp; exact q.depth
  cases b <;> simp only [y, PyData.depth] <;> omega
def ty (r : Rw) : Ty := if r.lst then .lst else .tup
theorem tyOf {r : Rw} {s : S} : s.tyOf r.d = some r.ty := by
  obtain ⟨b, qs⟩ := r
  cases b <;> rfl
theorem len {r : Rw} {s : S} {Q : VQ} : (evBi .len [r.d] s).W Q = Q (.int r.parts.length) s := by
  obtain ⟨b, qs⟩ := r
  cases b
  · show Q (.int ((qs.map Pt.d).length : Nat)) s = _; rw [List.length_map]
  · show Q (.int ((qs.map Pt.d).length : Nat)) s = _; rw [List.length_map]
end Rw
/-- a value: nothing, a number, rows -/
inductive Vl where
  | non | int (i : Int) | rows (tl : Bool) (rs : List Rw)
namespace Vl
def d : Vl → D
  | .non => .non
  | .int i => .int i
  | .rows true rs => .tup (rs.map Rw.d)
  | .rows false rs => .lst (rs.map Rw.d)
def Ok : Vl → Prop
  | .rows _ rs => (∀ r ∈ rs, r.Ok) ∧ rs.length ≤ 2000
  | _ => True
def ty : Vl → Ty
  | .non => .non
  | .int _ => .int
  | .rows tl _ => if tl then .tup else .lst
theorem tyOf {v : Vl} {s : S} : s.tyOf v.d = some v.ty := by
  cases v with
  | rows tl rs => cases tl <;> rfl
  | _ => rfl
theorem walk {tl : Bool} {rs : List Rw} {s : S} : s.walk (Vl.rows tl rs).d = some (rs.map Rw.d) := by cases tl <;> rfl
theorem walkS {tl : Bool} {rs : List Rw} {s : S} : s.walkS (Vl.rows tl rs).d = some (rs.map Rw.d) := by cases tl <;> rfl
theorem lows_rows (n : Nat) : ∀ rs : List Rw, belows n (rs.map Rw.d) = true
  | [] => rfl
  | r :: rs => by rw [List.map_cons, belows, Rw.low, lows_rows n rs]; rfl
theorem low {v : Vl} (n : Nat) : below n v.d = true := by
  cases v with
  | rows tl rs => cases tl <;> exact lows_rows n rs
  | _ => rfl
end Vl
def cutL {α : Type} (lo hi : Option Int) (xs : List α) : List α := (xs.drop (HT.sIx xs.length 0 lo)).take (HT.sIx xs.length xs.length hi - HT.sIx xs.length 0 lo)
theorem cutD_cut {α : Type} (f : α → D) (xs : List α) (lo hi : Option Int) : cutD (xs.map f) lo hi = (cutL lo hi xs).map f := by
  unfold cutD cutL
  rw [List.length_map, ← List.map_drop, ← List.map_take]
theorem cutL_to {α : Type} {xs : List α} {k : Int} (h : 0 ≤ k) : cutL none (some k) xs = xs.take k.toNat := by
  have e : HT.sIx xs.length xs.length (some k) = min k.toNat xs.length := if_neg (by omega)
  have e0 : HT.sIx xs.length 0 none = 0 := rfl
  unfold cutL
  rw [e, e0, List.drop_zero, Nat.sub_zero]
  by_cases hk : k.toNat ≤ xs.length
  · rw [Nat.min_eq_left hk]
  · rw [Nat.min_eq_right (by omega), List.take_length, List.take_of_length_le (by omega)]
theorem cutL_from {α : Type} {xs : List α} {k : Int} (h : 0 ≤ k) : cutL (some k) none xs = xs.drop k.toNat := by
  have e : HT.sIx xs.length 0 (some k) = min k.toNat xs.length := if_neg (by omega)
  have e0 : HT.sIx xs.length xs.length none = xs.length := rfl
  unfold cutL
  rw [e, e0]
  by_cases hk : k.toNat ≤ xs.length
  · rw [Nat.min_eq_left hk, List.take_of_length_le (by rw [List.length_drop]; exact Nat.le_refl _)]
  · rw [Nat.min_eq_right (by omega), List.drop_length, List.drop_eq_nil_of_le (by omega)]
    simp
theorem mem_cut {α : Type} {xs : List α} {lo hi : Option Int} {x : α} (h : x ∈ cutL lo hi xs) : x ∈ xs := List.mem_of_mem_drop (List.mem_of_mem_take h)
theorem cut_len {α : Type} {xs : List α} {lo hi : Option Int} : (cutL lo hi xs).length ≤ xs.length := by
  unfold cutL
  rw [List.length_take, List.length_drop]
  omega
theorem cut_1 {ds : List D} : cutD ds (some 1) none = ds.drop 1 := by
  unfold cutD HT.sIx
  simp
  cases ds with
  | nil => rfl
  | cons d ds =>
    have h1 : min 1 ((d :: ds).length) = 1 := by simp
    first
      | (rw [h1]; simp)
      | simp
theorem slice_rows {tl : Bool} {rs : List Rw} {s : S} {Q : VQ} : (evSl (Vl.rows tl rs).d (some 1) none s).W Q = Q (Vl.rows tl (rs.drop 1)).d s := by
  cases tl
  · show Q (.lst (cutD (rs.map Rw.d) (some 1) none)) s = _; rw [cut_1, ← List.map_drop]; rfl
  · show Q (.tup (cutD (rs.map Rw.d) (some 1) none)) s = _; rw [cut_1, ← List.map_drop]; rfl
theorem isTup_rows {tl : Bool} {rs qs : List Rw} : (isTupD (Vl.rows tl rs).d = isTupD (Vl.rows tl qs).d) = True := by cases tl <;> simp [Vl.d, isTupD]
theorem zipD_map {α β : Type} (f : α → D) (g : β → D) : ∀ (xs : List α) (ys : List β), zipD (xs.map f) (ys.map g) = (xs.zip ys).map fun p => .tup [f p.1, g p.2]
  | [], _ => rfl
  | _ :: _, [] => rfl
  | x :: xs, y :: ys => by simp only [List.map_cons, zipD, List.zip_cons_cons, zipD_map f g xs ys]
/-- [.. if ..] == [], the values read -/
theorem nil_map {α : Type} {s : S} {xs : List α} {h : α → D} {y : α → PyData} (hp : ∀ x ∈ xs, s.py (h x) = some (y x)) (hl : ∀ x ∈ xs, PyData.canLay0 (y x) = true) (hd : ∀ x ∈ xs, (y x).depth ≤ 60) : s.eqv (.lst (xs.map h)) (.lst []) = some xs.isEmpty := by
  have h1 : s.pys (xs.map h) = some (xs.map y) := by
    clear hl hd
    induction xs with
    | nil => rfl
    | cons x xs ih =>
      show toPys _ _ = _
      rw [List.map_cons, toPys, show toPy (s.look 4) (h x) = some (y x) from hp x List.mem_cons_self, show toPys (s.look 4) (xs.map h) = some (xs.map y) from ih fun z hz => hp z (List.mem_cons_of_mem _ hz)]
      rfl
  have h2 : SeqAt.shaped (.list (xs.map y)) = true := by
    unfold SeqAt.shaped
    have e1 : PyData.canLay0 (.list (xs.map y)) = true := by
      show PyData.canLayAll0 _ = true
      clear h1 hp hd
      induction xs with
      | nil => rfl
      | cons x xs ih =>
        rw [List.map_cons, PyData.canLayAll0, hl x List.mem_cons_self, ih fun z hz => hl z (List.mem_cons_of_mem _ hz)]
        rfl
    have e2 : PyData.depth (.list (xs.map y)) ≤ 64 := by
      have := depthAll_of (d := 60) (ps := xs.map y) fun p hp => by obtain ⟨x, hx, rfl⟩ := List.mem_map.mp hp; exact hd x hx
      simp only [PyData.depth]
      omega
    rw [e1, decide_eq_true e2]
    rfl
  rw [nil_eqv s _ _ h1 h2]
  cases xs <;> rfl
theorem c_eqNy {α : Type} {s : S} {Q : VQ} {xs : List α} {h : α → D} {y : α → PyData} (hp : ∀ x ∈ xs, s.py (h x) = some (y x)) (hl : ∀ x ∈ xs, PyData.canLay0 (y x) = true) (hd : ∀ x ∈ xs, (y x).depth ≤ 60) : (evCmp .eq (.lst (xs.map h)) (.lst []) s).W Q = Q (.bl xs.isEmpty) s := by
  show Res.W (match s.eqv (.lst (xs.map h)) (.lst []) with | some r => .ok (.bl r) s | none => .stuck) Q = _
  rw [nil_map hp hl hd]
  rfl
theorem c_neNy {α : Type} {s : S} {Q : VQ} {xs : List α} {h : α → D} {y : α → PyData} (hp : ∀ x ∈ xs, s.py (h x) = some (y x)) (hl : ∀ x ∈ xs, PyData.canLay0 (y x) = true) (hd : ∀ x ∈ xs, (y x).depth ≤ 60) : (evCmp .ne (.lst (xs.map h)) (.lst []) s).W Q = Q (.bl (!xs.isEmpty)) s := by
  show Res.W (match s.eqv (.lst (xs.map h)) (.lst []) with | some r => .ok (.bl (!r)) s | none => .stuck) Q = _
  rw [nil_map hp hl hd]
  rfl
section
variable {α : Type} {f : D → S → Res (Option D)} {s : S} {e : α → D} {c : Cc} {τ : Tau} {Q : VQ}
theorem W_eqNy {xs : List α} (p : α → Bool) (h : α → D) (y : α → PyData) (hp : ∀ x ∈ xs, s.py (h x) = some (y x)) (hl : ∀ x ∈ xs, PyData.canLay0 (y x) = true) (hd : ∀ x ∈ xs, (y x).depth ≤ 60)
    (k : ∀ x ∈ xs, (f (e x) s).W (isQ (if p x = true then some (h x) else none) s)) (q : Q (.bl (!xs.any p)) s) : (loopC f (xs.map e) s).W (kCompEnd false (kCmp1 c τ .eq (.lst .nil) Q)) := by
  refine W_filter p h k ?_
  simp only [↓wE, ↓wC, wV, wM]
  show Res.W (match s.eqv (.lst ((xs.filter p).map h)) (.lst []) with | some r => .ok (.bl r) s | none => .stuck) Q
  rw [nil_map (fun x hx => hp x (List.mem_filter.mp hx).1) (fun x hx => hl x (List.mem_filter.mp hx).1) (fun x hx => hd x (List.mem_filter.mp hx).1), filter_empty]
  exact q
theorem W_neNy {xs : List α} (p : α → Bool) (h : α → D) (y : α → PyData) (hp : ∀ x ∈ xs, s.py (h x) = some (y x)) (hl : ∀ x ∈ xs, PyData.canLay0 (y x) = true) (hd : ∀ x ∈ xs, (y x).depth ≤ 60)
    (k : ∀ x ∈ xs, (f (e x) s).W (isQ (if p x = true then some (h x) else none) s)) (q : Q (.bl (xs.any p)) s) : (loopC f (xs.map e) s).W (kCompEnd false (kCmp1 c τ .ne (.lst .nil) Q)) := by
  refine W_filter p h k ?_
  simp only [↓wE, ↓wC, wV, wM]
  show Res.W (match s.eqv (.lst ((xs.filter p).map h)) (.lst []) with | some r => .ok (.bl (!r)) s | none => .stuck) Q
  rw [nil_map (fun x hx => hp x (List.mem_filter.mp hx).1) (fun x hx => hl x (List.mem_filter.mp hx).1) (fun x hx => hd x (List.mem_filter.mp hx).1), filter_empty]
  show Q (.bl (!(!xs.any p))) s
  rw [Bool.not_not]
  exact q
end
section
variable {α : Type} {c : Cc} {g : MG} {b : MSs} {e : α → D} {N : TQ} {R : VQ}
/-- for, that hands back at the first for which p fails -/
theorem W_fall {xs : List α} {τ : Tau} {s : S} (p : α → Bool) (I : Tau → S → Prop) (Rf : VQ) (h : I τ s) (k : ∀ x ∈ xs, ∀ τ s, I τ s → (evG c g (e x) τ s).W fun τ1 s1 => (evSs c b τ1 s1).W (fun τ2 s2 => p x = true ∧ I τ2 s2) (fun d t => p x = false ∧ Rf d t) (fun τ2 s2 => p x = true ∧ I τ2 s2) noT)
    (q1 : xs.all p = true → ∀ τ s, I τ s → N τ s) (q2 : xs.all p = false → ∀ d t, Rf d t → R d t) : (loopF (evG c g) (evSs c b) (xs.map e) τ s).W N R noT noT := by
  refine W_for (fun pre τ s => pre.all p = true ∧ I τ s) ⟨rfl, h⟩ ?_ (fun τ s h => q1 h.1 τ s h.2)
  rintro pre x post τ s hx ⟨h1, h2⟩
  refine (k x (by rw [hx]; simp) τ s h2).mono fun τ1 s1 h3 => h3.mono ?_ ?_ ?_ ?_
  · rintro τ2 s2 ⟨h4, h5⟩
    exact ⟨by rw [List.all_append, h1]; simp [h4], h5⟩
  · rintro d t ⟨h4, h5⟩
    exact q2 (by rw [hx, List.all_append, List.all_cons, h4]; simp) d t h5
  · rintro τ2 s2 ⟨h4, h5⟩
    exact ⟨by rw [List.all_append, h1]; simp [h4], h5⟩
  · intro _ _ h
    exact h.elim
end
/-! ### rows that open with places -/
abbrev PRow : Type := (Int × Tup Int) × List Pt
def PRow.r (t : PRow) : Rw := ⟨false, .pl t.1 :: t.2⟩
def asP (r : Rw) : Option PRow := match r.lst, r.parts with
  | false, .pl p :: qs => some (p, qs)
  | _, _ => none
/-- the rows, if each is a tuple so wide that opens with a place for which ok holds, these rising -/
def rowsP (ok : Int × Tup Int → Bool) (width : Nat) : Vl → Option (List PRow)
  | .rows _ rs => match rs.mapM asP with
    | some ts => if ts.all (fun t => decide (t.2.length + 1 = width) && ok t.1) && ((ts.zip (ts.drop 1)).all fun q => DatumOrd.lt q.1.1 q.2.1) then some ts else none
    | none => none
  | _ => none
theorem asP_r (t : PRow) : asP t.r = some t := rfl
theorem asP_eq {r : Rw} {t : PRow} (h : asP r = some t) : r = t.r := by
  obtain ⟨b, qs⟩ := r
  unfold asP at h
  split at h
  · rename_i h1 h2
    cases h
    simp at h1 h2
    subst h1 h2
    rfl
  · cases h
theorem mapM_some {rs : List Rw} {ts : List PRow} (h : rs.mapM asP = some ts) : rs = ts.map PRow.r := by
  induction rs generalizing ts with
  | nil =>
    simp at h
    subst h
    rfl
  | cons r rs ih =>
    rw [List.mapM_cons] at h
    cases e1 : asP r with
    | none => rw [e1] at h; cases h
    | some t =>
      rw [e1] at h
      cases e2 : rs.mapM asP with
      | none => rw [e2] at h; cases h
      | some us =>
        rw [e2] at h
        cases h
        rw [asP_eq e1, ih e2]
        rfl
theorem mapM_none {rs : List Rw} (h : rs.mapM asP = none) : ∃ r ∈ rs, asP r = none := by
  induction rs with
  | nil => simp at h
  | cons r rs ih =>
    rw [List.mapM_cons] at h
    cases e1 : asP r with
    | none => exact ⟨r, List.mem_cons_self, e1⟩
    | some t =>
      rw [e1] at h
      cases e2 : rs.mapM asP with
      | none => obtain ⟨q, h1, h2⟩ := ih e2; exact ⟨q, List.mem_cons_of_mem _ h1, h2⟩
      | some us => rw [e2] at h; cases h
theorem mapM_r (ts : List PRow) : (ts.map PRow.r).mapM asP = some ts := by
  induction ts with
  | nil => rfl
  | cons t ts ih =>
    rw [List.map_cons, List.mapM_cons, ih, asP_r]
    rfl
theorem rowsP_map {ok : Int × Tup Int → Bool} {width : Nat} {tl : Bool} {ts : List PRow} : rowsP ok width (.rows tl (ts.map PRow.r)) = if (ts.all (fun t => decide (t.2.length + 1 = width) && ok t.1) && ((ts.zip (ts.drop 1)).all fun q => DatumOrd.lt q.1.1 q.2.1)) = true then some ts else none := by
  show (match (ts.map PRow.r).mapM asP with | some ts => _ | none => none) = _
  rw [mapM_r]
theorem rowsP_eq {ok : Int × Tup Int → Bool} {width : Nat} {v : Vl} {ts : List PRow} (h : rowsP ok width v = some ts) : ∃ tl, v = .rows tl (ts.map PRow.r) ∧ (∀ t ∈ ts, t.2.length + 1 = width ∧ ok t.1 = true) ∧ ((ts.zip (ts.drop 1)).all fun q => DatumOrd.lt q.1.1 q.2.1) = true := by
  unfold rowsP at h
  split at h
  · rename_i tl rs
    split at h
    · rename_i us e
      split at h
      · rename_i hb
        cases h
        rw [Bool.and_eq_true] at hb
        refine ⟨tl, by rw [mapM_some e], fun t ht => ?_, hb.2⟩
        have := List.all_eq_true.mp hb.1 t ht
        simpa using this
      · cases h
    · cases h
  · cases h
/-! ### texts of parts -/
theorem foldl_head {α : Type} (g : α → List Nat) : ∀ (cs : List α) (acc : Array Nat) (c : Nat) (l : List Nat), acc.toList = c :: l → ∃ l', (cs.foldl (fun out c => out ++ (g c).toArray) acc).toList = c :: l'
  | [], acc, c, l, h => ⟨l, h⟩
  | d :: cs, acc, c, l, h => foldl_head g cs _ c (l ++ g d) (by rw [Array.toList_append, h]; rfl)
theorem reprText_head (x : Str) : ∃ l, tx (reprText x) = reprQuote x :: l := by
  unfold reprText tx
  rw [Array.toList_push, ← Array.foldl_toList]
  obtain ⟨l, h⟩ := foldl_head _ x.cps.toList #[reprQuote x] (reprQuote x) [] rfl
  exact ⟨l ++ [reprQuote x], by rw [h]; rfl⟩
theorem shown_ne_pl {q : Pt} (hq : q.pl? = none) (p : Int × Tup Int) : PyData.shown q.y ≠ PyData.shown (Datum.toD p) := by
  cases q with
  | pl _ => cases hq
  | tup xs => exact tup_ne_pl xs p
  | int i =>
    cases e : itx i with
    | nil => exact absurd e (itx_ne i)
    | cons c l =>
      have := itx_sign i c (by rw [e]; simp)
      exact head_ne_pl (x := PyData.shown (.int i)) (c := c) (l := l) e (by omega) p
  | non => exact head_ne_pl (x := PyData.shown .none) (c := 78) (l := [111, 110, 101]) (by decide +kernel) (by decide) p
  | bl b =>
    cases b with
    | true => exact head_ne_pl (x := PyData.shown (.bool true)) (c := 84) (l := [114, 117, 101]) (by decide +kernel) (by decide) p
    | false => exact head_ne_pl (x := PyData.shown (.bool false)) (c := 70) (l := [97, 108, 115, 101]) (by decide +kernel) (by decide) p
  | str x =>
    obtain ⟨l, h⟩ := reprText_head x
    have hq : reprQuote x ≠ 40 := by unfold reprQuote; split <;> decide
    exact head_ne_pl (x := PyData.shown (.str x)) (c := reprQuote x) (l := l) (by rw [← h]; simp only [PyData.shown, Pt.y]) hq p
/-- which parts are among places, by their texts -/
def isPl (ps : List (Int × Tup Int)) : Pt → Bool
  | .pl p => isin p ps
  | _ => false
theorem isin_shown {ps : List (Int × Tup Int)} {q : Pt} : isin (PyData.shown q.y) (ps.map fun p => PyData.shown (Datum.toD p)) = isPl ps q := by
  rw [Bool.eq_iff_iff, isin_iff]
  constructor
  · intro h
    obtain ⟨p, hp, e⟩ := List.mem_map.mp h
    cases q with
    | pl p' =>
      have : p = p' := shown_pl_inj e
      subst this
      exact isin_iff.mpr hp
    | _ => exact absurd e.symm (shown_ne_pl rfl p)
  · intro h
    cases q with
    | pl p' => exact List.mem_map.mpr ⟨p', isin_iff.mp h, rfl⟩
    | _ => cases h
end Mi
set_option Elab.async false
set_option linter.all false
set_option maxRecDepth 100000
set_option maxHeartbeats 400000
namespace Mi.L86
open PySem PySem.W
open Mi.En (enc)
/-! ### values that are nearly tables -/
def withinQ (sd : Int) (caps : List Int) : Pt → Bool
  | .pl p => within sd caps p
  | _ => false
section
variable {wf n : Nat} {s : S}
theorem c_within_pt (W : Wf s) {w : Wea} (h : w.Ok) {caps : List Int} (hc : CapOk w caps) {q : Pt} : callN tab wf (n + 3) 10 [eW w, eT caps, q.d] s = .ok (.bl (withinQ w.sd caps q)) s := by
  cases q with
  | pl p => exact c_within W h hc
  | tup xs =>
    refine call_W t_place_within rfl W rfl ?_
    show Fl.W (evSs _ _ (startT _ [eW w, eT caps, .tup (xs.map enc)]) s) _ _ _ _
    match xs with
    | [] => simp only [↓wS, ↓wE, ↓wC, ↓wI, wV, wX, wM, wY, wB, wK, wT, b_place_within, List.map_nil, show ((0 : Int) = 2) = False by simp, wO, withinQ]
    | [a] => simp only [↓wS, ↓wE, ↓wC, ↓wI, wV, wX, wM, wY, wB, wK, wT, b_place_within, List.map_cons, List.map_nil, show ((1 : Int) = 2) = False by simp, wO, withinQ]
    | [a, b] =>
      simp only [↓wS, ↓wE, ↓wC, ↓wI, wV, wX, wM, wY, wB, wK, wT, b_place_within, List.map_cons, List.map_nil, wW, c_is_positionI W]
      cases decide (0 ≤ a) && decide (a < w.sd) <;> simp only [↓wS, ↓wE, ↓wC, ↓wI, wV, wX, wM, wY, wB, wK, wO, withinQ]
    | a :: b :: d :: xs =>
      have : ((((a :: b :: d :: xs).map (enc : Int → D)).length : Nat) : Int) ≠ 2 := by simp; omega
      simp only [↓wS, ↓wE, ↓wC, ↓wI, wV, wX, wM, wY, wB, wK, wT, b_place_within, wO, withinQ]
      simp only [show (((((a :: b :: d :: xs)).length : Nat) : Int) = 2) = False by simp; omega]
      simp only [↓wS, ↓wE, ↓wC, ↓wI, wV, wX, wM, wY, wB, wK, wO, withinQ]
  | int i => refine call_W t_place_within rfl W rfl ?_; simp only [↓wS, ↓wE, ↓wC, ↓wI, wV, wX, wM, wY, wB, wK, wT, b_place_within, Pt.d, wO, withinQ]
  | non => refine call_W t_place_within rfl W rfl ?_; simp only [↓wS, ↓wE, ↓wC, ↓wI, wV, wX, wM, wY, wB, wK, wT, b_place_within, Pt.d, wO, withinQ]
  | bl b => refine call_W t_place_within rfl W rfl ?_; simp only [↓wS, ↓wE, ↓wC, ↓wI, wV, wX, wM, wY, wB, wK, wT, b_place_within, Pt.d, wO, withinQ]
  | str x => refine call_W t_place_within rfl W rfl ?_; simp only [↓wS, ↓wE, ↓wC, ↓wI, wV, wX, wM, wY, wB, wK, wT, b_place_within, Pt.d, wO, withinQ]
def risingB (ts : List PRow) : Bool := (ts.zip (ts.drop 1)).all fun q => DatumOrd.lt q.1.1 q.2.1
theorem map_r {ts : List PRow} : (ts.map PRow.r).map Rw.d = ts.map fun t => (PRow.r t).d := by rw [List.map_map]; rfl
theorem walkT {tl : Bool} {ts : List PRow} : s.walk (Vl.rows tl (ts.map PRow.r)).d = some (ts.map fun t => (PRow.r t).d) := by rw [Vl.walk, map_r]
theorem walkST {tl : Bool} {ts : List PRow} : s.walkS (Vl.rows tl (ts.map PRow.r)).d = some (ts.map fun t => (PRow.r t).d) := by rw [Vl.walkS, map_r]
theorem x_row0 {t : PRow} {Q : VQ} : (evIx (PRow.r t).d (.int 0) s).W Q = Q (enc t.1) s := by
  show (evIx (.tup (enc t.1 :: t.2.map Pt.d)) (.int 0) s).W Q = _
  simp only [↓wS, ↓wE, ↓wC, ↓wI, wV, wX, wM, wY, wB, wK]
theorem c_is_rising (W : Wf s) {tl : Bool} {ts : List PRow} (hl : ts.length ≤ 2000) : callN tab wf (n + 1) 25 [(Vl.rows tl (ts.map PRow.r)).d] s = .ok (.bl (risingB ts)) s := by
  refine call_W t_is_rising rfl W rfl ?_
  simp only [↓wS, ↓wE, ↓wC, ↓wI, wV, wX, wM, wY, wB, wK, wT, b_is_rising, slice_rows, ← List.map_drop, walkST, isTup_rows, zipD_map]
  refine ⟨by rw [List.length_zip]; omega, W_allC (fun q : PRow × PRow => DatumOrd.lt q.1.1 q.2.1) (fun q _ => ?_) ?_⟩
  · simp only [↓wS, ↓wE, ↓wC, ↓wI, wV, wX, wM, wY, wB, wK, x_row0]
  · simp only [↓wS, ↓wE, ↓wC, ↓wI, wV, wX, wM, wY, wB, wK, wO, risingB]
theorem c_are_entries (W : Wf s) {w : Wea} (h : w.Ok) {caps : List Int} (hc : CapOk w caps) {v : Vl} (hv : v.Ok) {width : Nat} (hw : 1 ≤ width) : callN tab wf (n + 4) 26 [eW w, eT caps, v.d, .int width] s = .ok (.bl (rowsP (within w.sd caps) width v).isSome) s := by
  refine call_W t_are_entries rfl W rfl ?_
  simp only [↓wS, ↓wE, ↓wC, ↓wI, wV, wX, wM, wY, wB, wK, wT, b_are_entries, c_is_list W (Vl.tyOf (v := v))]
  cases v with
  | non => simp only [↓wS, ↓wE, ↓wC, ↓wI, wV, wX, wM, wY, wB, wK, Vl.ty, wO, reduceCtorEq, or_self, decide_false, rowsP, Option.isSome_none]
  | int i => simp only [↓wS, ↓wE, ↓wC, ↓wI, wV, wX, wM, wY, wB, wK, Vl.ty, wO, reduceCtorEq, or_self, decide_false, rowsP, Option.isSome_none]
  | rows tl rs =>
    have hl := hv.2
    have e1 : decide ((Vl.rows tl rs).ty = Ty.lst ∨ (Vl.rows tl rs).ty = Ty.tup) = true := by cases tl <;> rfl
    simp only [↓wS, ↓wE, ↓wC, ↓wI, wV, wX, wM, wY, wB, wK, e1, Vl.walk]
    refine ⟨by omega, W_allC (fun r : Rw => !r.lst && decide ((r.parts.length : Int) = (width : Int))) (fun r hr => ?_) ?_⟩
    · simp only [↓wS, ↓wE, ↓wC, ↓wI, wV, wX, wM, wY, wB, wK, Rw.tyOf]
      have e2 : Ty.isa r.ty .tup = !r.lst := by obtain ⟨b, qs⟩ := r; cases b <;> rfl
      rw [e2]
      refine brAnd_pure (decide ((r.parts.length : Int) = (width : Int))) (fun _ => ?_) ?_
      · simp only [↓wS, ↓wE, ↓wC, ↓wI, wV, wX, wM, wY, wB, wK, Rw.len]
      · simp only [↓wS, ↓wE, ↓wC, ↓wI, wV, wX, wM, wY, wB, wK]
    · cases hA : rs.all fun r : Rw => !r.lst && decide ((r.parts.length : Int) = (width : Int)) with
      | false =>
        have e3 : rowsP (within w.sd caps) width (.rows tl rs) = none := by
          cases hm : rowsP (within w.sd caps) width (.rows tl rs) with
          | none => rfl
          | some ts =>
            obtain ⟨tl', e, k1, _⟩ := rowsP_eq hm
            cases e
            exfalso
            rw [List.all_eq_false] at hA
            obtain ⟨r, hr, hn⟩ := hA
            obtain ⟨t, ht, rfl⟩ := List.mem_map.mp hr
            apply hn
            have := (k1 t ht).1
            show (!false && decide ((((Pt.pl t.1 :: t.2).length : Nat) : Int) = (width : Int))) = true
            rw [List.length_cons, this]
            simp
        simp only [↓wS, ↓wE, ↓wC, ↓wI, wV, wX, wM, wY, wB, wK, wO, e3, Option.isSome_none]
      | true =>
        have hA := List.all_eq_true.mp hA
        simp only [↓wS, ↓wE, ↓wC, ↓wI, wV, wX, wM, wY, wB, wK, Vl.walk]
        refine ⟨by omega, W_allC (fun r : Rw => match r.parts with | q :: _ => withinQ w.sd caps q | [] => false) (fun r hr => ?_) ?_⟩
        · have h1 := hA r hr
          obtain ⟨b, qs⟩ := r
          simp only [Bool.and_eq_true, Bool.not_eq_true', decide_eq_true_eq] at h1
          obtain ⟨rfl, h1⟩ := h1
          cases qs with
          | nil => simp at h1; omega
          | cons q qs =>
            show Res.W _ _
            simp only [↓wS, ↓wE, ↓wC, ↓wI, wV, wX, wM, wY, wB, wK, show (Rw.mk false (q :: qs)).d = .tup (q.d :: qs.map Pt.d) from rfl, c_within_pt W h hc]
        · cases hB : rs.all fun r : Rw => match r.parts with | q :: _ => withinQ w.sd caps q | [] => false with
          | false =>
            have e3 : rowsP (within w.sd caps) width (.rows tl rs) = none := by
              cases hm : rowsP (within w.sd caps) width (.rows tl rs) with
              | none => rfl
              | some ts =>
                obtain ⟨tl', e, k1, _⟩ := rowsP_eq hm
                cases e
                exfalso
                rw [List.all_eq_false] at hB
                obtain ⟨r, hr, hn⟩ := hB
                obtain ⟨t, ht, rfl⟩ := List.mem_map.mp hr
                exact hn (k1 t ht).2
            simp only [↓wS, ↓wE, ↓wC, ↓wI, wV, wX, wM, wY, wB, wK, wO, e3, Option.isSome_none]
          | true =>
            have hB := List.all_eq_true.mp hB
            have hm : ∃ ts : List PRow, rs = ts.map PRow.r := by
              cases hm : rs.mapM asP with
              | some ts => exact ⟨ts, mapM_some hm⟩
              | none =>
                obtain ⟨r, hr, hn⟩ := mapM_none hm
                have h1 := hA r hr
                have h2 := hB r hr
                obtain ⟨b, qs⟩ := r
                simp only [Bool.and_eq_true, Bool.not_eq_true', decide_eq_true_eq] at h1
                obtain ⟨rfl, h1⟩ := h1
                cases qs with
                | nil => cases h2
                | cons q qs =>
                  cases q with
                  | pl p => cases hn
                  | _ => cases h2
            obtain ⟨ts, rfl⟩ := hm
            rw [List.length_map] at hl
            simp only [↓wS, ↓wE, ↓wC, ↓wI, wV, wX, wM, wY, wB, wK, c_is_rising W hl]
            have e4 : rowsP (within w.sd caps) width (.rows tl (ts.map PRow.r)) = if risingB ts then some ts else none := by
              rw [rowsP_map]
              have e5 : (ts.all fun t => decide (t.2.length + 1 = width) && within w.sd caps t.1) = true := by
                rw [List.all_eq_true]
                intro t ht
                have h1 := hA _ (List.mem_map.mpr ⟨t, ht, rfl⟩)
                have h2 := hB _ (List.mem_map.mpr ⟨t, ht, rfl⟩)
                have h1 : decide ((((Pt.pl t.1 :: t.2).length : Nat) : Int) = (width : Int)) = true := h1
                rw [decide_eq_true_eq, List.length_cons] at h1
                rw [Bool.and_eq_true]
                exact ⟨decide_eq_true (by omega), h2⟩
              rw [e5]
              rfl
            rw [e4]
            cases risingB ts <;> simp only [↓wS, ↓wE, ↓wC, ↓wI, wV, wX, wM, wY, wB, wK, wO] <;> rfl
end
end Mi.L86
set_option Elab.async false
set_option linter.all false
set_option maxRecDepth 100000
set_option maxHeartbeats 400000
namespace Mi.L86
open PySem PySem.W
open Mi.En (enc)
/-! ### the law's judges -/
def cntQ : Pt → Bool
  | .int i => decide (0 ≤ i)
  | _ => false
theorem Fit_tup {xs : List Int} (hx : ∀ x ∈ xs, x.natAbs < 10 ^ 20) (hl : xs.length ≤ 8) : Fit 187 1 (.tuple (xs.map .int)) :=
  Fit.tup (n := 21) (d := 0) (k := 8) (fun q hq => by obtain ⟨x, h, rfl⟩ := List.mem_map.mp hq; exact Fit.int (hx x h)) (by rw [List.length_map]; exact hl) (by decide)
theorem Fit_pl {p : Pl} (h1 : p.1.natAbs < 10 ^ 20) (hx : ∀ x ∈ p.2.items, x.natAbs < 10 ^ 20) (hl : p.2.items.length ≤ 8) : Fit 381 2 (Datum.toD p) := by
  have e : (Datum.toD p : PyData) = .tuple [.int p.1, .tuple (p.2.items.map .int)] := rfl
  rw [e]
  refine Fit.tup (n := 187) (d := 1) (k := 2) ?_ (Nat.le_refl 2) (by decide)
  intro q hq
  rcases List.mem_cons.mp hq with rfl | hq
  · exact (Fit.int h1).mono (by decide) (by decide)
  · rw [List.mem_singleton.mp hq]
    exact Fit_tup hx hl
theorem Fit_place {w : Wea} (h : w.Ok) {caps : List Int} (hc : CapOk w caps) {p : Pl} (hp : p ∈ placesOf w.sd caps) : Fit 381 2 (Datum.toD p) := by
  have hl := place_len h hc hp
  rw [mem_places] at hp
  unfold within at hp
  simp only [Bool.and_eq_true, decide_eq_true_eq] at hp
  have h6 := h.sd6
  have hcc := hc.c
  refine Fit_pl (by omega) ?_ (by omega)
  have key : ∀ (xs cs : List Int), xs.length = cs.length → (∀ c ∈ cs, 0 ≤ c ∧ c ≤ 9) → (xs.zip cs).all (fun q => decide (0 ≤ q.1) && decide (q.1 ≤ q.2)) = true → ∀ x ∈ xs, x.natAbs < 10 ^ 20 := by
    intro xs
    induction xs with
    | nil => intro _ _ _ _ x hx; cases hx
    | cons y xs ih =>
      intro cs hl hcs ha x hx
      cases cs with
      | nil => cases hl
      | cons c cs =>
        rw [List.zip_cons_cons, List.all_cons, Bool.and_eq_true] at ha
        rcases List.mem_cons.mp hx with rfl | hx
        · have h1 := ha.1
          have h2 := hcs c List.mem_cons_self
          simp at h1
          omega
        · exact ih cs (by simpa using hl) (fun d hd => hcs d (List.mem_cons_of_mem _ hd)) ha.2 x hx
  exact key _ _ hp.2.1 hcc hp.2.2
theorem isPl_within {w : Wea} {caps : List Int} {q : Pt} : isPl (placesOf w.sd caps) q = withinQ w.sd caps q := by
  cases q with
  | pl p =>
    show isin p (placesOf w.sd caps) = within w.sd caps p
    rw [Bool.eq_iff_iff, isin_iff, mem_places]
  | _ => rfl
def headOk (ok : Pt → Bool) (r : Rw) : Bool := match r.parts with
  | q :: _ => ok q
  | [] => false
/-- rows that are tuples so wide, each with a place ahead -/
theorem rows_of {ok : Pl → Bool} {rs : List Rw} {k : Nat} (h : ∀ r ∈ rs, r.lst = false ∧ r.parts.length = k ∧ headOk (fun q => match q with | .pl p => ok p | _ => false) r = true) : ∃ ts : List PRow, rs = ts.map PRow.r ∧ ∀ t ∈ ts, t.2.length + 1 = k ∧ ok t.1 = true := by
  induction rs with
  | nil => exact ⟨[], rfl, fun _ h => by cases h⟩
  | cons r rs ih =>
    obtain ⟨ts, rfl, h2⟩ := ih fun z hz => h z (List.mem_cons_of_mem _ hz)
    obtain ⟨h3, h4, h5⟩ := h r List.mem_cons_self
    obtain ⟨b, qs⟩ := r
    cases h3
    cases qs with
    | nil => cases h5
    | cons q qs =>
      cases q with
      | pl p =>
        refine ⟨(p, qs) :: ts, rfl, fun t ht => ?_⟩
        rcases List.mem_cons.mp ht with rfl | ht
        · exact ⟨h4, h5⟩
        · exact h2 t ht
      | _ => cases h5
theorem rowsP_none {ok : Pl → Bool} {tl : Bool} {rs : List Rw} {k : Nat} {r : Rw} (hr : r ∈ rs) (h : r.lst = true ∨ r.parts.length ≠ k ∨ headOk (fun q => match q with | .pl p => ok p | _ => false) r = false) : rowsP ok k (.rows tl rs) = none := by
  cases hm : rowsP ok k (.rows tl rs) with
  | none => rfl
  | some ts =>
    obtain ⟨tl', e, k1, _⟩ := rowsP_eq hm
    cases e
    obtain ⟨t, ht, rfl⟩ := List.mem_map.mp hr
    obtain ⟨k2, k3⟩ := k1 t ht
    rcases h with h | h | h
    · cases h
    · exact absurd (by rw [← k2]; rfl) h
    · rw [show headOk (fun q => match q with | .pl p => ok p | _ => false) (PRow.r t) = ok t.1 from rfl, k3] at h
      cases h
section
variable {wf n : Nat} {s : S}
theorem tail_row {t : PRow} {Q : VQ} : (evSl (PRow.r t).d (some 1) none s).W Q = Q (.tup (t.2.map Pt.d)) s := by
  show Q (.tup (cutD (enc t.1 :: t.2.map Pt.d) (some 1) none)) s = _
  rw [cut_1]
  rfl
theorem py_row (r : Rw) : s.py r.d = some r.y := Rw.py _
end
end Mi.L86
set_option Elab.async false
set_option linter.all false
set_option maxRecDepth 100000
set_option maxHeartbeats 400000
namespace Mi.L86
open PySem PySem.W
open Mi.En (enc)
/-! ### judges of sure tables -/
def isNonQ : Pt → Bool
  | .non => true
  | _ => false
theorem isNon_pt (q : Pt) : isNon q.d = isNonQ q := by cases q <;> rfl
abbrev U3 : Type := Pl × Int × Pt
def rr3 (u : U3) : PRow := (u.1, [.int u.2.1, u.2.2])
def rd3t (u : U3) : D := .tup [enc u.1, .int u.2.1, u.2.2.d]
theorem rd3_r (u : U3) : (PRow.r (rr3 u)).d = rd3t u := rfl
def un3 (t : PRow) : U3 := (t.1, match t.2 with
  | [.int i, q] => (i, q)
  | _ => (0, .non))
theorem un3_r (u : U3) : un3 (rr3 u) = u := rfl
def cnt3 (t : PRow) : Bool := match t.2 with
  | q :: _ => cntQ q
  | [] => false
theorem cnt3_rows : ∀ {ts : List PRow}, (∀ t ∈ ts, t.2.length + 1 = 3) → ts.all cnt3 = true → ∃ us : List U3, ts = us.map rr3 ∧ ∀ u ∈ us, 0 ≤ u.2.1
  | [], _, _ => ⟨[], rfl, fun _ h => by cases h⟩
  | t :: ts, hl, h => by
    rw [List.all_cons, Bool.and_eq_true] at h
    obtain ⟨us, rfl, h2⟩ := cnt3_rows (fun t ht => hl t (List.mem_cons_of_mem _ ht)) h.2
    have h1 := h.1
    have h0 := hl t List.mem_cons_self
    obtain ⟨p, qs⟩ := t
    match qs, h0, h1 with
    | [.int i, q], _, h1 =>
      exact ⟨(p, i, q) :: us, rfl, fun u hu => by
        rcases List.mem_cons.mp hu with rfl | hu
        · simpa [cnt3, cntQ] using h1
        · exact h2 u hu⟩
    | [.non, _], _, h1 => simp [cnt3, cntQ] at h1
    | [.bl _, _], _, h1 => simp [cnt3, cntQ] at h1
    | [.str _, _], _, h1 => simp [cnt3, cntQ] at h1
    | [.tup _, _], _, h1 => simp [cnt3, cntQ] at h1
    | [.pl _, _], _, h1 => simp [cnt3, cntQ] at h1
def lessU (us : List U3) (n : Int) : List Pl := (us.filter fun r => decide (r.2.1 < n)).map (·.1)
def stepOk (w : Wea) (caps : List Int) (us : List U3) (p : Pl) (k : Int) : Pt → Bool
  | .int i => isin i (letL w p) && (comesL w caps p i).all fun g => isin g (lessU us k)
  | _ => false
def entryOk (w : Wea) (caps : List Int) (goal : Pl) (us : List U3) (u : U3) : Bool :=
  if (atG goal u.1 || (isNonQ u.2.2 || decide (u.2.1 = 0))) = true then atG goal u.1 && (isNonQ u.2.2 && decide (u.2.1 = 0))
  else stepOk w caps us u.1 u.2.1 u.2.2
def tableB (w : Wea) (caps : List Int) (goal : Pl) (v : Vl) : Bool := match rowsP (within w.sd caps) 3 v with
  | some ts => ts.all cnt3 && (ts.map un3).all (entryOk w caps goal (ts.map un3))
  | none => false
theorem len_rows {v : Vl} (hv : v.Ok) {ok : Int × Tup Int → Bool} {k : Nat} {ts : List PRow} (h : rowsP ok k v = some ts) : ts.length ≤ 2000 := by
  obtain ⟨tl, rfl, _⟩ := rowsP_eq h
  have := hv.2
  simpa using this
theorem pair_of_rising {xs : List Pl} (h : ((xs.zip (xs.drop 1)).all fun q => DatumOrd.lt q.1 q.2) = true) : xs.Pairwise fun a b => DatumOrd.lt a b = true := by
  induction xs with
  | nil => exact .nil
  | cons x xs ih =>
    cases xs with
    | nil => exact List.pairwise_singleton _ _
    | cons y xs =>
      simp only [List.drop_succ_cons, List.drop_zero, List.zip_cons_cons, List.all_cons, Bool.and_eq_true] at h
      have ih := ih (by simpa using h.2)
      refine List.pairwise_cons.mpr ⟨fun z hz => ?_, ih⟩
      rcases List.mem_cons.mp hz with rfl | hz
      · exact h.1
      · exact lt_trans h.1 ((List.pairwise_cons.mp ih).1 z hz)
theorem rise_nodup {xs : List Pl} (h : xs.Pairwise fun a b => DatumOrd.lt a b = true) : xs.Nodup := h.imp fun {a b} h e => by
  subst e
  rw [lt_irr] at h
  cases h
theorem rising_keys {ts : List PRow} (h : risingB ts = true) : (ts.map (·.1)).Pairwise fun a b => DatumOrd.lt a b = true := by
  refine pair_of_rising ?_
  unfold risingB at h
  rw [← List.map_drop, List.zip_map, List.all_map]
  exact h
theorem less_lk {us : List U3} (hn : (us.map (·.1)).Nodup) {g : Pl} {n : Int} : (match lk g (us.map fun r => (r.1, r.2.1)) with | some m => decide (m < n) | none => false) = isin g (lessU us n) := by
  have hn' : ((us.map fun r => (r.1, r.2.1)).map (·.1)).Nodup := by rw [List.map_map]; exact hn
  cases e : lk g (us.map fun r => (r.1, r.2.1)) with
  | some m =>
    obtain ⟨u, hu, e2⟩ := List.mem_map.mp (kd_mem e)
    have e3 : u.1 = g := congrArg Prod.fst e2
    have e4 : u.2.1 = m := congrArg Prod.snd e2
    rw [Bool.eq_iff_iff, isin_iff, decide_eq_true_eq]
    unfold lessU
    rw [List.mem_map]
    constructor
    · intro h
      exact ⟨u, List.mem_filter.mpr ⟨hu, by simp; omega⟩, e3⟩
    · rintro ⟨r, hr, e5⟩
      obtain ⟨hr, hlt⟩ := List.mem_filter.mp hr
      have hm : (g, r.2.1) ∈ us.map fun r => (r.1, r.2.1) := List.mem_map.mpr ⟨r, hr, by rw [e5]⟩
      have := kd_lookup hn' hm
      rw [this] at e
      cases e
      simpa using hlt
  | none =>
    symm
    rw [isin_not]
    intro h
    obtain ⟨r, hr, e5⟩ := List.mem_map.mp h
    obtain ⟨hr, _⟩ := List.mem_filter.mp hr
    have hm : (g, r.2.1) ∈ us.map fun r => (r.1, r.2.1) := List.mem_map.mpr ⟨r, hr, by rw [e5]⟩
    rw [kd_lookup hn' hm] at e
    cases e
section
variable {wf n : Nat} {s : S}
theorem c_entry (W : Wf s) {w : Wea} (h : w.Ok) {caps : List Int} (hc : CapOk w caps) {goal : Pl} {us : List U3} (hn : (us.map (·.1)).Nodup) {u : U3} (hpl : u.1.2.items.length ≤ 64) : callN tab wf (n + 4) 71 [eW w, eT caps, enc goal, .dic (kD (us.map fun r => (r.1, r.2.1))) (vD .int (us.map fun r => (r.1, r.2.1))), rd3t u] s = .ok (.bl (entryOk w caps goal us u)) s := by
  obtain ⟨p, k, q⟩ := u
  have hpl : p.2.items.length ≤ 64 := hpl
  refine call_W t_sure_entry_is_right rfl W rfl ?_
  simp only [↓wS, ↓wE, ↓wC, ↓wI, wV, wX, wM, wY, wB, wK, wT, b_sure_entry_is_right, rd3t, c_is_at (goal := goal) W hpl]
  refine brOr_pure (isNonQ q || decide (k = 0)) (fun _ => ?_) ?_
  · simp only [↓wS, ↓wE, ↓wC, ↓wI, wV, wX, wM, wY, wB, wK, isNon_pt]
    refine brOr_pure (decide (k = 0)) (fun _ => by simp only [↓wS, ↓wE, ↓wC, ↓wI, wV, wX, wM, wY, wB, wK]) ?_
    simp only [↓wS, ↓wE, ↓wC, ↓wI, wV, wX, wM, wY, wB, wK]
  simp only [↓wS, ↓wE, ↓wC, ↓wI, wV, wX, wM, wY, wB, wK]
  refine brS_by (fun hb => ?_) (fun hb => ?_)
  · simp only [↓wS, ↓wE, ↓wC, ↓wI, wV, wX, wM, wY, wB, wK, c_is_at (goal := goal) W hpl]
    refine brAnd_pure (isNonQ q && decide (k = 0)) (fun _ => ?_) ?_
    · simp only [↓wS, ↓wE, ↓wC, ↓wI, wV, wX, wM, wY, wB, wK, isNon_pt]
      refine brAnd_pure (decide (k = 0)) (fun _ => by simp only [↓wS, ↓wE, ↓wC, ↓wI, wV, wX, wM, wY, wB, wK]) ?_
      simp only [↓wS, ↓wE, ↓wC, ↓wI, wV, wX, wM, wY, wB, wK]
    · have e : entryOk w caps goal us (p, k, q) = (atG goal p && (isNonQ q && decide (k = 0))) := if_pos hb
      simp only [↓wS, ↓wE, ↓wC, ↓wI, wV, wX, wM, wY, wB, wK, e, wO]
  · have hE : entryOk w caps goal us (p, k, q) = stepOk w caps us p k q := if_neg (by show ¬ (atG goal p || (isNonQ q || decide (k = 0))) = true; rw [hb]; exact Bool.false_ne_true)
    rw [hE]
    clear hE hb
    simp only [↓wS, ↓wE, ↓wC, ↓wI, wV, wX, wM, wY, wB, wK, wW, c_is_position W (Pt.tyOf (q := q))]
    cases q with
    | int i =>
      have hpos : pos (w.steps.length : Int) (Pt.int i).d = (decide (0 ≤ i) && decide (i < (w.steps.length : Int))) := rfl
      rw [hpos]
      by_cases hi : 0 ≤ i ∧ i < (w.steps.length : Int)
      · obtain ⟨t, ht⟩ : ∃ t, w.steps[i.toNat]? = some t := ⟨w.steps[i.toNat]'(by omega), List.getElem?_eq_getElem (by omega)⟩
        have hgl := comes_len h (caps := caps) (p := p) (i := i)
        have hcl : comesL w caps p i = comeL caps p t := by unfold comesL; rw [ht]
        have hin : isin i (letL w p) = stB t p := by
          rw [Bool.eq_iff_iff, isin_iff, mem_letL]
          constructor
          · rintro ⟨t', _, ht', hs⟩
            rw [ht] at ht'
            cases ht'
            exact hs
          · intro hs
            exact ⟨t, hi.1, ht, hs⟩
        simp only [↓wS, ↓wE, ↓wC, ↓wI, wV, wX, wM, wY, wB, wK, hi.1, hi.2, show (Pt.int i).d = .int i from rfl, c_is_let W hpl hi.1 ht]
        rw [stepOk, hin]
        cases stB t p with
        | false => simp only [↓wS, ↓wE, ↓wC, ↓wI, wV, wX, wM, wY, wB, wK, wO]
        | true =>
          simp only [↓wS, ↓wE, ↓wC, ↓wI, wV, wX, wM, wY, wB, wK, c_outcomes W h hc hi.1 ht, ← hcl]
          refine ⟨by omega, W_allC (fun g => isin g (lessU us k)) (fun g _ => ?_) ?_⟩
          · rw [← less_lk hn]
            simp only [↓wS, ↓wE, ↓wC, ↓wI, wV, wX, wM, wY, wB, wK]
            refine brAnd_pure (match lk g (us.map fun r => (r.1, r.2.1)) with | some m => decide (m < k) | none => false) (fun hg => ?_) ?_
            · have hg := isin_iff.mp hg
              cases e : lk g (us.map fun r => (r.1, r.2.1)) with
              | none =>
                exfalso
                obtain ⟨⟨g', b⟩, hx, e9⟩ := List.mem_map.mp hg
                have e9 : g' = g := e9
                rw [e9] at hx
                have hn2 : ((us.map fun r => (r.1, r.2.1)).map (·.1)).Nodup := by rw [List.map_map]; exact hn
                have hz := kd_lookup hn2 hx
                rw [e] at hz
                cases hz
              | some m => simp only [↓wS, ↓wE, ↓wC, ↓wI, wV, wX, wM, wY, wB, wK, e]
            · have hs := lookup_isSome (p := g) (l := us.map fun r => (r.1, r.2.1))
              have e : (isin g ((us.map fun r => (r.1, r.2.1)).map (·.1)) && (match lk g (us.map fun r => (r.1, r.2.1)) with | some m => decide (m < k) | none => false)) = (match lk g (us.map fun r => (r.1, r.2.1)) with | some m => decide (m < k) | none => false) := by
                unfold isin
                rw [← hs]
                cases lk g (us.map fun r => (r.1, r.2.1)) <;> simp
              simp only [↓wS, ↓wE, ↓wC, ↓wI, wV, wX, wM, wY, wB, wK, e]
          · simp only [↓wS, ↓wE, ↓wC, ↓wI, wV, wX, wM, wY, wB, wK, wO]
      · have hf : (decide (0 ≤ i) && decide (i < (w.steps.length : Int))) = false := by
          rw [Bool.and_eq_false_iff, decide_eq_false_iff_not, decide_eq_false_iff_not]
          omega
        have hin : isin i (letL w p) = false := by
          rw [isin_not, mem_letL]
          rintro ⟨t, h0, ht, _⟩
          have := (List.getElem?_eq_some_iff.mp ht).1
          omega
        rw [hf, stepOk, hin]
        simp only [↓wS, ↓wE, ↓wC, ↓wI, wV, wX, wM, wY, wB, wK, wO]
    | non => simp only [↓wS, ↓wE, ↓wC, ↓wI, wV, wX, wM, wY, wB, wK, show pos (w.steps.length : Int) Pt.non.d = false from rfl, stepOk, wO]
    | bl b => simp only [↓wS, ↓wE, ↓wC, ↓wI, wV, wX, wM, wY, wB, wK, show pos (w.steps.length : Int) (Pt.bl b).d = false from rfl, stepOk, wO]
    | str x => simp only [↓wS, ↓wE, ↓wC, ↓wI, wV, wX, wM, wY, wB, wK, show pos (w.steps.length : Int) (Pt.str x).d = false from rfl, stepOk, wO]
    | tup xs => simp only [↓wS, ↓wE, ↓wC, ↓wI, wV, wX, wM, wY, wB, wK, show pos (w.steps.length : Int) (Pt.tup xs).d = false from rfl, stepOk, wO]
    | pl z => simp only [↓wS, ↓wE, ↓wC, ↓wI, wV, wX, wM, wY, wB, wK, show pos (w.steps.length : Int) (Pt.pl z).d = false from rfl, stepOk, wO]
theorem c_is_sure_table (W : Wf s) {w : Wea} (h : w.Ok) {caps : List Int} (hc : CapOk w caps) {goal : Pl} (hg : goal ∈ placesOf w.sd caps) {v : Vl} (hv : v.Ok) : callN tab wf (n + 9) 73 [eW w, eT caps, enc goal, v.d] s = .ok (.bl (tableB w caps goal v)) s := by
  refine call_W t_is_sure_table rfl W rfl ?_
  have he := c_are_entries (n := n + 4) (wf := wf) W h hc hv (width := 3) (by decide)
  rw [show ((3 : Nat) : Int) = 3 from rfl] at he
  simp only [↓wS, ↓wE, ↓wC, ↓wI, wV, wX, wM, wY, wB, wK, wT, b_is_sure_table, c_check_aimed W h hc hg, he]
  cases hr : rowsP (within w.sd caps) 3 v with
  | none => simp only [↓wS, ↓wE, ↓wC, ↓wI, wV, wX, wM, wY, wB, wK, Option.isSome_none, wO, tableB, hr]
  | some ts =>
    obtain ⟨tl, rfl, k1, k2⟩ := rowsP_eq hr
    have hl := len_rows hv hr
    simp only [↓wS, ↓wE, ↓wC, ↓wI, wV, wX, wM, wY, wB, wK, Option.isSome_some, walkT]
    refine ⟨by omega, W_allC cnt3 (fun t ht => ?_) ?_⟩
    · have h1 := (k1 t ht).1
      obtain ⟨p, qs⟩ := t
      match qs, h1 with
      | [q, q2], _ =>
        simp only [↓wS, ↓wE, ↓wC, ↓wI, wV, wX, wM, wY, wB, wK, show (PRow.r (p, [q, q2])).d = .tup [enc p, q.d, q2.d] from rfl, c_is_count W (Pt.tyOf (q := q))]
        cases q <;> exact ⟨rfl, rfl⟩
    · cases hcn : ts.all cnt3 with
      | false => simp only [↓wS, ↓wE, ↓wC, ↓wI, wV, wX, wM, wY, wB, wK, wO, tableB, hr, hcn]
      | true =>
        obtain ⟨us, rfl, hu0⟩ := cnt3_rows (fun t ht => (k1 t ht).1) hcn
        have e1 : ((us.map rr3).map fun t => (PRow.r t).d) = us.map rd3t := by rw [List.map_map]; rfl
        have e2 : (us.map rr3).map un3 = us := by rw [List.map_map]; exact List.map_id us
        have hnd : (us.map (·.1)).Nodup := by
          have := rise_nodup (rising_keys (ts := us.map rr3) k2)
          rw [List.map_map] at this
          exact this
        rw [List.length_map] at hl
        have e3 : tableB w caps goal (.rows tl ((us.map rr3).map PRow.r)) = us.all (entryOk w caps goal us) := by
          unfold tableB
          rw [hr]
          simp only [hcn, e2, Bool.true_and]
        rw [e3]
        simp only [↓wS, ↓wE, ↓wC, ↓wI, wV, wX, wM, wY, wB, wK, walkT, e1]
        refine ⟨by omega, W_dmap (fun u : U3 => u.1) (fun u : U3 => u.2.1) D.int hnd (fun u _ => by simp only [↓wS, ↓wE, ↓wC, ↓wI, wV, wX, wM, wY, wB, wK, rd3t]) ?_⟩
        simp only [↓wS, ↓wE, ↓wC, ↓wI, wV, wX, wM, wY, wB, wK, walkT, e1]
        refine ⟨by omega, W_allC (entryOk w caps goal us) (fun u hu => ?_) ?_⟩
        · have hwi : within w.sd caps u.1 = true := (k1 _ (List.mem_map.mpr ⟨u, hu, rfl⟩)).2
          have hpl : u.1.2.items.length ≤ 64 := by
            have := within_len hwi
            have := caps_len h hc
            omega
          simp only [↓wS, ↓wE, ↓wC, ↓wI, wV, wX, wM, wY, wB, wK, c_entry W h hc hnd hpl]
        · simp only [↓wS, ↓wE, ↓wC, ↓wI, wV, wX, wM, wY, wB, wK, wO]
end
end Mi.L86
set_option Elab.async false
set_option linter.all false
set_option maxRecDepth 100000
set_option maxHeartbeats 400000
namespace Mi.L86
open PySem PySem.W
open Mi.En (enc)
/-! ### values that are nearly lists of places -/
def plR (p : Pl) : Rw := ⟨false, [.int p.1, .tup p.2.items]⟩
theorem plR_d (p : Pl) : (plR p).d = enc p := rfl
theorem plR_y (p : Pl) : (plR p).y = Datum.toD p := rfl
def asPl (r : Rw) : Option Pl := match r.lst, r.parts with
  | false, [.int a, .tup xs] => some (a, ⟨xs⟩)
  | _, _ => none
theorem asPl_plR (p : Pl) : asPl (plR p) = some p := rfl
theorem asPl_eq {r : Rw} {p : Pl} (h : asPl r = some p) : r = plR p := by
  obtain ⟨b, qs⟩ := r
  unfold asPl at h
  split at h
  · rename_i a xs h1 h2
    cases h
    simp at h1 h2
    subst h1 h2
    rfl
  · cases h
/-- rows that are met: lists; tuples of two or three parts, no place in the second, no tuple behind a number of three -/
def gdB (r : Rw) : Bool := match r.lst, r.parts with
  | true, _ => true
  | false, [_, .pl _] => false
  | false, [_, _] => true
  | false, [.int _, .tup _, _] => false
  | false, [.int _, .pl _, _] => false
  | false, [_, _, _] => true
  | false, _ => false
def withinR (sd : Int) (caps : List Int) (r : Rw) : Bool := match asPl r with
  | some p => within sd caps p
  | none => false
structure RwK (r : Rw) : Prop where
  ok : r.Ok
  gd : gdB r = true
  fit : Fit 10000 8 r.y
def VlK : Vl → Prop
  | .rows _ rs => (∀ r ∈ rs, RwK r) ∧ rs.length ≤ 2000
  | _ => True
theorem VlK.ok {v : Vl} (h : VlK v) : v.Ok := by
  cases v with
  | rows tl rs => exact ⟨fun r hr => (h.1 r hr).ok, h.2⟩
  | non => trivial
  | int i => trivial
def riseP (ps : List Pl) : Bool := (ps.zip (ps.drop 1)).all fun q => DatumOrd.lt q.1 q.2
def dodgeP (w : Wea) (caps : List Int) (goal : Pl) (ps : List Pl) (p : Pl) : Bool := !atG goal p && (letL w p).all fun i => anyIn (comesL w caps p i) ps
def dodgeB (w : Wea) (caps : List Int) (goal : Pl) : Vl → Bool
  | .rows _ rs => match rs.mapM asPl with
    | some ps => ps.all (within w.sd caps) && (riseP ps && ps.all (dodgeP w caps goal ps))
    | none => false
  | _ => false
theorem mapM_pl (ps : List Pl) : (ps.map plR).mapM asPl = some ps := by
  induction ps with
  | nil => rfl
  | cons t ts ih =>
    rw [List.map_cons, List.mapM_cons, ih, asPl_plR]
    rfl
theorem mapM_plsome {rs : List Rw} {ps : List Pl} (h : rs.mapM asPl = some ps) : rs = ps.map plR := by
  induction rs generalizing ps with
  | nil =>
    simp at h
    subst h
    rfl
  | cons r rs ih =>
    rw [List.mapM_cons] at h
    cases e1 : asPl r with
    | none => rw [e1] at h; cases h
    | some t =>
      rw [e1] at h
      cases e2 : rs.mapM asPl with
      | none => rw [e2] at h; cases h
      | some us =>
        rw [e2] at h
        cases h
        rw [asPl_eq e1, ih e2]
        rfl
theorem all_within {sd : Int} {caps : List Int} {rs : List Rw} (h : rs.all (withinR sd caps) = true) : ∃ ps : List Pl, rs = ps.map plR ∧ ps.all (within sd caps) = true := by
  induction rs with
  | nil => exact ⟨[], rfl, rfl⟩
  | cons r rs ih =>
    rw [List.all_cons, Bool.and_eq_true] at h
    obtain ⟨ps, rfl, h2⟩ := ih h.2
    have h1 := h.1
    unfold withinR at h1
    cases e : asPl r with
    | none => rw [e] at h1; cases h1
    | some p =>
      rw [e] at h1
      exact ⟨p :: ps, by rw [asPl_eq e]; rfl, by rw [List.all_cons, h2]; simpa using h1⟩
theorem dodge_map {w : Wea} {caps : List Int} {goal : Pl} {tl : Bool} {ps : List Pl} : dodgeB w caps goal (.rows tl (ps.map plR)) = (ps.all (within w.sd caps) && (riseP ps && ps.all (dodgeP w caps goal ps))) := by
  show (match (ps.map plR).mapM asPl with | some ps => _ | none => false) = _
  rw [mapM_pl]
theorem dodge_none {w : Wea} {caps : List Int} {goal : Pl} {tl : Bool} {rs : List Rw} (h : rs.all (withinR w.sd caps) = false) : dodgeB w caps goal (.rows tl rs) = false := by
  show (match rs.mapM asPl with | some ps => ps.all (within w.sd caps) && (riseP ps && ps.all (dodgeP w caps goal ps)) | none => false) = false
  cases e : rs.mapM asPl with
  | none => rfl
  | some ps =>
    have e2 := mapM_plsome e
    subst e2
    have : ps.all (within w.sd caps) = false := by
      rw [← h, List.all_map]
      rfl
    simp only [this, Bool.false_and]
/-- rows of places, as values -/
def vP (tl : Bool) (ps : List Pl) : D := if tl = true then .tup (ps.map enc) else .lst (ps.map enc)
theorem vP_eq (tl : Bool) (ps : List Pl) : (Vl.rows tl (ps.map plR)).d = vP tl ps := by
  cases tl
  · show D.lst ((ps.map plR).map Rw.d) = _
    rw [List.map_map]
    rfl
  · show D.tup ((ps.map plR).map Rw.d) = _
    rw [List.map_map]
    rfl
section
variable {wf n : Nat} {s : S}
theorem vP_walk {tl : Bool} {ps : List Pl} : s.walk (vP tl ps) = some (ps.map enc) := by cases tl <;> rfl
theorem vP_walkS {tl : Bool} {ps : List Pl} : s.walkS (vP tl ps) = some (ps.map enc) := by cases tl <;> rfl
theorem vP_slice {tl : Bool} {ps : List Pl} {Q : VQ} : (evSl (vP tl ps) (some 1) none s).W Q = Q (vP tl (ps.drop 1)) s := by
  cases tl
  · show Q (.lst (cutD (ps.map enc) (some 1) none)) s = _; rw [cut_1, ← List.map_drop]; rfl
  · show Q (.tup (cutD (ps.map enc) (some 1) none)) s = _; rw [cut_1, ← List.map_drop]; rfl
theorem vP_tup {tl : Bool} {ps qs : List Pl} : (isTupD (vP tl ps) = isTupD (vP tl qs)) = True := by cases tl <;> simp [vP, isTupD]
theorem vP_has {tl : Bool} {ps : List Pl} : Has s (vP tl ps) ps := fun p Q => by
  cases tl
  · exact c_in
  · exact c_inT
theorem c_within_rw (W : Wf s) {w : Wea} (h : w.Ok) {caps : List Int} (hc : CapOk w caps) {r : Rw} (hr : gdB r = true) : callN tab wf (n + 3) 10 [eW w, eT caps, r.d] s = .ok (.bl (withinR w.sd caps r)) s := by
  obtain ⟨b, qs⟩ := r
  cases b with
  | true =>
    refine call_W t_place_within rfl W rfl ?_
    show Fl.W (evSs _ _ (startT _ [eW w, eT caps, .lst (qs.map Pt.d)]) s) _ _ _ _
    simp only [↓wS, ↓wE, ↓wC, ↓wI, wV, wX, wM, wY, wB, wK, wT, b_place_within, show withinR w.sd caps ⟨true, qs⟩ = false from rfl, wO]
  | false =>
    match qs, hr with
    | [.int a, .tup xs], _ => exact c_within W h hc (p := (a, ⟨xs⟩))
    | [q1, .int z], _ =>
      have e : withinR w.sd caps ⟨false, [q1, .int z]⟩ = false := by cases q1 <;> rfl
      refine call_W t_place_within rfl W rfl ?_
      show Fl.W (evSs _ _ (startT _ [eW w, eT caps, .tup [q1.d, .int z]]) s) _ _ _ _
      simp only [↓wS, ↓wE, ↓wC, ↓wI, wV, wX, wM, wY, wB, wK, wT, b_place_within, e, wW, c_is_position W (Pt.tyOf (q := q1))]
      cases pos w.sd q1.d <;> simp only [↓wS, ↓wE, ↓wC, ↓wI, wV, wX, wM, wY, wB, wK, wO]
    | [q1, .non], _ =>
      have e : withinR w.sd caps ⟨false, [q1, .non]⟩ = false := by cases q1 <;> rfl
      refine call_W t_place_within rfl W rfl ?_
      show Fl.W (evSs _ _ (startT _ [eW w, eT caps, .tup [q1.d, .non]]) s) _ _ _ _
      simp only [↓wS, ↓wE, ↓wC, ↓wI, wV, wX, wM, wY, wB, wK, wT, b_place_within, e, wW, c_is_position W (Pt.tyOf (q := q1))]
      cases pos w.sd q1.d <;> simp only [↓wS, ↓wE, ↓wC, ↓wI, wV, wX, wM, wY, wB, wK, wO]
    | [q1, .bl z], _ =>
      have e : withinR w.sd caps ⟨false, [q1, .bl z]⟩ = false := by cases q1 <;> rfl
      refine call_W t_place_within rfl W rfl ?_
      show Fl.W (evSs _ _ (startT _ [eW w, eT caps, .tup [q1.d, .bl z]]) s) _ _ _ _
      simp only [↓wS, ↓wE, ↓wC, ↓wI, wV, wX, wM, wY, wB, wK, wT, b_place_within, e, wW, c_is_position W (Pt.tyOf (q := q1))]
      cases pos w.sd q1.d <;> simp only [↓wS, ↓wE, ↓wC, ↓wI, wV, wX, wM, wY, wB, wK, wO]
    | [q1, .str z], _ =>
      have e : withinR w.sd caps ⟨false, [q1, .str z]⟩ = false := by cases q1 <;> rfl
      refine call_W t_place_within rfl W rfl ?_
      show Fl.W (evSs _ _ (startT _ [eW w, eT caps, .tup [q1.d, .str z]]) s) _ _ _ _
      simp only [↓wS, ↓wE, ↓wC, ↓wI, wV, wX, wM, wY, wB, wK, wT, b_place_within, e, wW, c_is_position W (Pt.tyOf (q := q1))]
      cases pos w.sd q1.d <;> simp only [↓wS, ↓wE, ↓wC, ↓wI, wV, wX, wM, wY, wB, wK, wO]
    | [.non, .tup xs], _ => refine call_W t_place_within rfl W rfl ?_; show Fl.W (evSs _ _ (startT _ [eW w, eT caps, .tup [.non, .tup (xs.map enc)]]) s) _ _ _ _; simp only [↓wS, ↓wE, ↓wC, ↓wI, wV, wX, wM, wY, wB, wK, wT, b_place_within, wW, c_is_position W (show s.tyOf D.non = some .non from rfl), show pos w.sd D.non = false from rfl, show withinR w.sd caps ⟨false, [.non, .tup xs]⟩ = false from rfl, wO]
    | [.bl b, .tup xs], _ => refine call_W t_place_within rfl W rfl ?_; show Fl.W (evSs _ _ (startT _ [eW w, eT caps, .tup [.bl b, .tup (xs.map enc)]]) s) _ _ _ _; simp only [↓wS, ↓wE, ↓wC, ↓wI, wV, wX, wM, wY, wB, wK, wT, b_place_within, wW, c_is_position W (show s.tyOf (D.bl b) = some .bl from rfl), show pos w.sd (D.bl b) = false from rfl, show withinR w.sd caps ⟨false, [.bl b, .tup xs]⟩ = false from rfl, wO]
    | [.str x, .tup xs], _ => refine call_W t_place_within rfl W rfl ?_; show Fl.W (evSs _ _ (startT _ [eW w, eT caps, .tup [.str x, .tup (xs.map enc)]]) s) _ _ _ _; simp only [↓wS, ↓wE, ↓wC, ↓wI, wV, wX, wM, wY, wB, wK, wT, b_place_within, wW, c_is_position W (show s.tyOf (D.str x) = some .str from rfl), show pos w.sd (D.str x) = false from rfl, show withinR w.sd caps ⟨false, [.str x, .tup xs]⟩ = false from rfl, wO]
    | [.tup ys, .tup xs], _ => refine call_W t_place_within rfl W rfl ?_; show Fl.W (evSs _ _ (startT _ [eW w, eT caps, .tup [.tup (ys.map enc), .tup (xs.map enc)]]) s) _ _ _ _; simp only [↓wS, ↓wE, ↓wC, ↓wI, wV, wX, wM, wY, wB, wK, wT, b_place_within, wW, c_is_position W (show s.tyOf (.tup (ys.map enc)) = some .tup from rfl), show pos w.sd (D.tup (ys.map enc)) = false from rfl, show withinR w.sd caps ⟨false, [.tup ys, .tup xs]⟩ = false from rfl, wO]
    | [.pl p, .tup xs], _ => refine call_W t_place_within rfl W rfl ?_; show Fl.W (evSs _ _ (startT _ [eW w, eT caps, .tup [enc p, .tup (xs.map enc)]]) s) _ _ _ _; simp only [↓wS, ↓wE, ↓wC, ↓wI, wV, wX, wM, wY, wB, wK, wT, b_place_within, wW, c_is_position W (show s.tyOf (enc p) = some .tup from rfl), show pos w.sd (enc p) = false from rfl, show withinR w.sd caps ⟨false, [.pl p, .tup xs]⟩ = false from rfl, wO]
    | [a, b, c], _ =>
      have e : withinR w.sd caps ⟨false, [a, b, c]⟩ = false := by cases a <;> cases b <;> rfl
      refine call_W t_place_within rfl W rfl ?_
      show Fl.W (evSs _ _ (startT _ [eW w, eT caps, .tup [a.d, b.d, c.d]]) s) _ _ _ _
      simp only [↓wS, ↓wE, ↓wC, ↓wI, wV, wX, wM, wY, wB, wK, wT, b_place_within, show ((3 : Int) = 2) = False by simp, e, wO]
theorem c_is_dodge (W : Wf s) {w : Wea} (h : w.Ok) {caps : List Int} (hc : CapOk w caps) {goal : Pl} (hg : goal ∈ placesOf w.sd caps) {v : Vl} (hv : VlK v) : callN tab wf (n + 9) 75 [eW w, eT caps, enc goal, v.d] s = .ok (.bl (dodgeB w caps goal v)) s := by
  refine call_W t_is_dodge rfl W rfl ?_
  simp only [↓wS, ↓wE, ↓wC, ↓wI, wV, wX, wM, wY, wB, wK, wT, b_is_dodge, c_check_aimed W h hc hg, c_is_list W (Vl.tyOf (v := v))]
  cases v with
  | non => simp only [↓wS, ↓wE, ↓wC, ↓wI, wV, wX, wM, wY, wB, wK, Vl.ty, wO, reduceCtorEq, or_self, decide_false, dodgeB]
  | int i => simp only [↓wS, ↓wE, ↓wC, ↓wI, wV, wX, wM, wY, wB, wK, Vl.ty, wO, reduceCtorEq, or_self, decide_false, dodgeB]
  | rows tl rs =>
    have hl := hv.2
    have e1 : decide ((Vl.rows tl rs).ty = Ty.lst ∨ (Vl.rows tl rs).ty = Ty.tup) = true := by cases tl <;> rfl
    simp only [↓wS, ↓wE, ↓wC, ↓wI, wV, wX, wM, wY, wB, wK, e1, Vl.walk]
    refine ⟨by omega, W_allC (withinR w.sd caps) (fun r hr => ?_) ?_⟩
    · simp only [↓wS, ↓wE, ↓wC, ↓wI, wV, wX, wM, wY, wB, wK, c_within_rw W h hc (hv.1 r hr).gd]
    cases hA : rs.all (withinR w.sd caps) with
    | false => simp only [↓wS, ↓wE, ↓wC, ↓wI, wV, wX, wM, wY, wB, wK, dodge_none hA, wO]
    | true =>
      obtain ⟨ps, rfl, hps⟩ := all_within hA
      rw [List.length_map] at hl
      rw [vP_eq, dodge_map, hps]
      simp only [↓wS, ↓wE, ↓wC, ↓wI, wV, wX, wM, wY, wB, wK, vP_slice, vP_walkS, vP_tup, zipD_map]
      refine ⟨by rw [List.length_zip]; omega, W_allC (fun q : Pl × Pl => DatumOrd.lt q.1 q.2) (fun q _ => ?_) ?_⟩
      · simp only [↓wS, ↓wE, ↓wC, ↓wI, wV, wX, wM, wY, wB, wK]
      rw [show (ps.zip (ps.drop 1)).all (fun q : Pl × Pl => DatumOrd.lt q.1 q.2) = riseP ps from rfl]
      cases riseP ps with
      | false => simp only [↓wS, ↓wE, ↓wC, ↓wI, wV, wX, wM, wY, wB, wK, wO]
      | true =>
        simp only [↓wS, ↓wE, ↓wC, ↓wI, wV, wX, wM, wY, wB, wK, vP_walk]
        refine W_fall (dodgeP w caps goal ps) (fun τ t => s = t ∧ ∃ o4 o5, τ = [some (eW w), some (eT caps), some (enc goal), some (vP tl ps), o4, o5, none, none]) (fun d t => d = .bl false ∧ Over s t) ⟨rfl, none, none, rfl⟩ ?_ ?_ ?_
        · rintro p hp τ t ⟨rfl, o4, o5, rfl⟩
          have hwi : within w.sd caps p = true := List.all_eq_true.mp hps p hp
          have hpl : p.2.items.length ≤ 64 := by
            have := within_len hwi
            have := caps_len h hc
            omega
          have hll := letL_len w p
          have hsl := h.sl
          simp only [↓wS, ↓wE, ↓wC, ↓wI, wV, wX, wM, wY, wB, wK, c_is_at (goal := goal) W hpl]
          cases hat : atG goal p with
          | true =>
            simp only [↓wS, ↓wE, ↓wC, ↓wI, wV, wX, wM, wY, wB, wK]
            exact ⟨by unfold dodgeP; rw [hat]; rfl, Over.refl _⟩
          | false =>
            have eP : dodgeP w caps goal ps p = (letL w p).all fun i => anyIn (comesL w caps p i) ps := by unfold dodgeP; rw [hat]; rfl
            rw [eP]
            simp only [↓wS, ↓wE, ↓wC, ↓wI, wV, wX, wM, wY, wB, wK, c_let_here W h hpl]
            refine W_fall (fun i => anyIn (comesL w caps p i) ps) (fun τ t => s = t ∧ ∃ o5, τ = [some (eW w), some (eT caps), some (enc goal), some (vP tl ps), some (enc p), o5, none, none]) (fun d t => d = .bl false ∧ Over s t) ⟨rfl, o5, rfl⟩ ?_ ?_ ?_
            · rintro i hi τ t ⟨rfl, o5, rfl⟩
              obtain ⟨t, h0, h1, h2, h3⟩ := letL_comes h hi
              have hgl := comes_len h (caps := caps) (p := p) (i := i)
              simp only [↓wS, ↓wE, ↓wC, ↓wI, wV, wX, wM, wY, wB, wK, c_outcomes W h hc h0 h1, ← h3]
              rw [isl_any.run W vP_has (by omega)]
              simp only [↓wS, ↓wE, ↓wC, ↓wI, wV, wX, wM, wY, wB, wK]
              refine brS_by (fun hq => ?_) (fun hq => ?_)
              · rw [Bool.not_eq_true'] at hq
                simp only [↓wS, ↓wE, ↓wC, ↓wI, wV, wX, wM, wY, wB, wK]
                exact ⟨hq, Over.refl _⟩
              · rw [Bool.not_eq_false'] at hq
                simp only [↓wS, ↓wE, ↓wC, ↓wI, wV, wX, wM, wY, wB, wK]
                exact ⟨hq, _, rfl⟩
            · rintro ha τ t ⟨rfl, o5, rfl⟩
              simp only [↓wS, ↓wE, ↓wC, ↓wI, wV, wX, wM, wY, wB, wK]
              exact ⟨ha, _, _, rfl⟩
            · rintro ha d t ⟨rfl, o⟩
              exact ⟨ha, rfl, o⟩
        · rintro ha τ t ⟨rfl, o4, o5, rfl⟩
          simp only [↓wS, ↓wE, ↓wC, ↓wI, wV, wX, wM, wY, wB, wK, ha, wO]
        · rintro ha d t ⟨rfl, o⟩
          rw [ha]
          exact ⟨rfl, o⟩
end
end Mi.L86
set_option Elab.async false
set_option linter.all false
set_option maxRecDepth 100000
set_option maxHeartbeats 400000
namespace Mi.L86
open PySem PySem.W
open Mi.En (enc)
/-! ### texts of rows and of places -/
theorem tx_tup2 (x y : PyData) : tx (PyData.shown (.tuple [x, y])) = 40 :: (tx x.shown ++ (44 :: 32 :: (tx y.shown ++ [41]))) := by
  simp only [PyData.shown, PyData.shownAll]
  unfold tupleText
  show tx (("(" : Str) ++ (x.shown ++ ", " ++ y.shown) ++ ((")" : String) : Str)) = _
  rw [tx_app, tx_app, tx_app, tx_app, tx_comma, show tx ("(" : Str) = [40] by decide +kernel, show tx (((")" : String) : Str)) = [41] by decide +kernel]
  simp
theorem tx_tup3 (x y z : PyData) : tx (PyData.shown (.tuple [x, y, z])) = 40 :: (tx x.shown ++ (44 :: 32 :: (tx y.shown ++ (44 :: 32 :: (tx z.shown ++ [41]))))) := by
  simp only [PyData.shown, PyData.shownAll]
  unfold tupleText
  show tx (("(" : Str) ++ (x.shown ++ ", " ++ (y.shown ++ ", " ++ z.shown)) ++ ((")" : String) : Str)) = _
  simp only [tx_app, tx_comma, show tx ("(" : Str) = [40] by decide +kernel, show tx (((")" : String) : Str)) = [41] by decide +kernel]
  simp
theorem tx_list (xs : List PyData) : ∃ l, tx (PyData.shown (.list xs)) = 91 :: l := by
  rw [PyData.shown, listText_eq_join]
  refine ⟨tx (Str.join ", " (PyData.shownAll xs) ++ ((("]" : String) : Str))), ?_⟩
  have e : ∀ u v : Str, tx (("[" : Str) ++ u ++ v) = 91 :: tx (u ++ v) := fun u v => by
    rw [tx_app, tx_app, tx_app, show tx ("[" : Str) = [91] by decide +kernel]
    simp
  exact e _ _
/-- heads of texts of parts -/
theorem head_int (i : Int) : ∃ c l, tx (PyData.shown (.int i)) = c :: l ∧ isSg c := by
  cases e : itx i with
  | nil => exact absurd e (itx_ne i)
  | cons c l => exact ⟨c, l, e, itx_sign i c (by rw [e]; simp)⟩
theorem head_tup (xs : List Int) : ∃ l, tupT xs = 40 :: l := by
  match xs with
  | [] => exact ⟨_, rfl⟩
  | [x] => exact ⟨_, rfl⟩
  | x :: y :: r => exact ⟨_, rfl⟩
def tupQ : Pt → Bool
  | .tup _ => true
  | .pl _ => true
  | _ => false
theorem head_flat {q : Pt} (h : tupQ q = false) : ∃ c l, tx (PyData.shown q.y) = c :: l ∧ c ≠ 40 := by
  cases q with
  | int i =>
    obtain ⟨c, l, h1, h2⟩ := head_int i
    exact ⟨c, l, h1, by unfold isSg at h2; omega⟩
  | non => exact ⟨78, [111, 110, 101], by decide +kernel, by decide⟩
  | bl b =>
    cases b with
    | true => exact ⟨84, [114, 117, 101], by decide +kernel, by decide⟩
    | false => exact ⟨70, [97, 108, 115, 101], by decide +kernel, by decide⟩
  | str x =>
    obtain ⟨l, h⟩ := reprText_head x
    exact ⟨reprQuote x, l, by rw [← h]; simp only [PyData.shown, Pt.y], by unfold reprQuote; split <;> decide⟩
  | tup xs => cases h
  | pl p => cases h
theorem head_noint {q : Pt} (h : q.int? = none) : ∃ c l, tx (PyData.shown q.y) = c :: l ∧ ¬ isSg c := by
  cases q with
  | int i => cases h
  | non => exact ⟨78, [111, 110, 101], by decide +kernel, by unfold isSg; omega⟩
  | bl b =>
    cases b with
    | true => exact ⟨84, [114, 117, 101], by decide +kernel, by unfold isSg; omega⟩
    | false => exact ⟨70, [97, 108, 115, 101], by decide +kernel, by unfold isSg; omega⟩
  | str x =>
    obtain ⟨l, h⟩ := reprText_head x
    exact ⟨reprQuote x, l, by rw [← h]; simp only [PyData.shown, Pt.y], by unfold isSg reprQuote; split <;> omega⟩
  | tup xs =>
    obtain ⟨l, h⟩ := head_tup xs
    exact ⟨40, l, by rw [← h]; exact shown_tup xs, by unfold isSg; omega⟩
  | pl p => exact ⟨40, _, shown_pl p, by unfold isSg; omega⟩
theorem gd_cases {qs : List Pt} (h : gdB ⟨false, qs⟩ = true) : (∃ q1 q2, qs = [q1, q2] ∧ ∀ z, q2 ≠ .pl z) ∨ ∃ q1 q2 q3, qs = [q1, q2, q3] ∧ ∀ i, q1 = .int i → tupQ q2 = false := by
  rcases qs with _ | ⟨q1, _ | ⟨q2, _ | ⟨q3, _ | ⟨q4, qs⟩⟩⟩⟩
  · cases h
  · cases q1 <;> cases h
  · left
    refine ⟨q1, q2, rfl, fun z e => ?_⟩
    subst e
    cases q1 <;> cases h
  · right
    refine ⟨q1, q2, q3, rfl, fun i e => ?_⟩
    subst e
    cases q2 with
    | tup xs => cases h
    | pl z => cases h
    | _ => rfl
  · exfalso
    cases q1 <;> cases q2 <;> cases h
theorem rw_ne_pl {r : Rw} (hg : gdB r = true) (hn : asPl r = none) (p : Pl) : PyData.shown r.y ≠ PyData.shown (Datum.toD p) := by
  intro h
  have h := congrArg tx h
  rw [shown_pl] at h
  obtain ⟨b, qs⟩ := r
  cases b with
  | true =>
    obtain ⟨l, e⟩ := tx_list (qs.map Pt.y)
    have h : tx (PyData.shown (.list (qs.map Pt.y))) = _ := h
    rw [e] at h
    simp at h
  | false =>
    have first : ∀ {q : Pt} {u : List Nat}, q.int? = none → tx (PyData.shown q.y) ++ u = itx p.1 ++ (44 :: 32 :: (tupT p.2.items ++ [41])) → False := by
      intro q u hq e
      obtain ⟨c, l, e1, hc⟩ := head_noint hq
      cases e2 : itx p.1 with
      | nil => exact itx_ne _ e2
      | cons d m =>
        have hd := itx_sign p.1 d (by rw [e2]; simp)
        rw [e1, e2] at e
        simp only [List.cons_append, List.cons.injEq] at e
        exact hc (by rw [e.1]; exact hd)
    have second : ∀ {i : Int} {q : Pt} {u : List Nat}, tupQ q = false → tx (PyData.shown (.int i)) ++ (44 :: 32 :: (tx (PyData.shown q.y) ++ u)) = itx p.1 ++ (44 :: 32 :: (tupT p.2.items ++ [41])) → False := by
      intro i q u hq e
      have e : itx i ++ (44 :: 32 :: (tx (PyData.shown q.y) ++ u)) = itx p.1 ++ (44 :: 32 :: (tupT p.2.items ++ [41])) := e
      obtain ⟨_, e⟩ := cut_sg (itx_sign i) (itx_sign p.1) sg44 sg44 e
      simp only [List.cons.injEq, true_and] at e
      obtain ⟨c, l, e1, hc⟩ := head_flat hq
      obtain ⟨m, e2⟩ := head_tup p.2.items
      rw [e1, e2] at e
      simp only [List.cons_append, List.cons.injEq] at e
      exact hc e.1
    rcases gd_cases hg with ⟨q1, q2, rfl, hz⟩ | ⟨q1, q2, q3, rfl, hz⟩
    · have h : tx (PyData.shown (.tuple [q1.y, q2.y])) = _ := h
      rw [tx_tup2] at h
      simp only [List.cons.injEq, true_and] at h
      cases q1 with
      | int i =>
        refine second (i := i) (q := q2) ?_ h
        cases q2 with
        | tup xs => cases hn
        | pl z => exact absurd rfl (hz z)
        | _ => rfl
      | non => exact first (q := .non) rfl h
      | bl b => exact first (q := .bl b) rfl h
      | str x => exact first (q := .str x) rfl h
      | tup xs => exact first (q := .tup xs) rfl h
      | pl z => exact first (q := .pl z) rfl h
    · have h : tx (PyData.shown (.tuple [q1.y, q2.y, q3.y])) = _ := h
      rw [tx_tup3] at h
      simp only [List.cons.injEq, true_and] at h
      cases q1 with
      | int i => exact second (i := i) (q := q2) (hz i rfl) h
      | non => exact first (q := .non) rfl h
      | bl b => exact first (q := .bl b) rfl h
      | str x => exact first (q := .str x) rfl h
      | tup xs => exact first (q := .tup xs) rfl h
      | pl z => exact first (q := .pl z) rfl h
theorem isin_row {w : Wea} {caps : List Int} {r : Rw} (hg : gdB r = true) : isin (PyData.shown r.y) ((placesOf w.sd caps).map fun p => PyData.shown (Datum.toD p)) = withinR w.sd caps r := by
  unfold withinR
  cases e : asPl r with
  | some p =>
    rw [asPl_eq e, plR_y]
    show isin (PyData.shown (Pt.pl p).y) _ = _
    rw [isin_shown, isPl_within]
    rfl
  | none =>
    rw [isin_not]
    intro h
    obtain ⟨p, _, e2⟩ := List.mem_map.mp h
    exact rw_ne_pl hg e p e2.symm
end Mi.L86
set_option Elab.async false
set_option linter.all false
set_option maxRecDepth 100000
set_option maxHeartbeats 400000
/-! W7: loops over few values; a cell that moves while others are made. -/
namespace Mi
open PySem PySem.W
open Mi.En (enc)
section
variable {c : Cc} {g : MG} {b : MSs} {τ : Tau} {s : S} {N : TQ} {R : VQ}
def kLn (c : Cc) (g : MG) (b : MSs) (ds : List D) (N : TQ) (R : VQ) : TQ := fun τ s => (loopF (evG c g) (evSs c b) ds τ s).W N R noT noT
def kLp (c : Cc) (g : MG) (b : MSs) (ds : List D) (N : TQ) (R : VQ) : TQ := fun τ s => (evSs c b τ s).W (kLn c g b ds N R) R (kLn c g b ds N R) N
theorem loop_nil : (loopF (evG c g) (evSs c b) [] τ s).W N R noT noT = N τ s := rfl
theorem loop_cons {d : D} {ds : List D} : (loopF (evG c g) (evSs c b) (d :: ds) τ s).W N R noT noT = (evG c g d τ s).W (kLp c g b ds N R) := by
  rw [loopF]
  cases evG c g d τ s with
  | ok τ1 s1 =>
    show Fl.W (match evSs c b τ1 s1 with | .nx τ2 s2 => _ | .ct τ2 s2 => _ | .bk τ2 s2 => _ | .rt d s2 => _ | .exc x τ2 s2 => _ | .stuck => _) N R noT noT = (evSs c b τ1 s1).W _ R _ N
    cases evSs c b τ1 s1 <;> rfl
  | _ => rfl
theorem k_lp {ds : List D} : kLp c g b ds N R τ s = (evSs c b τ s).W (kLn c g b ds N R) R (kLn c g b ds N R) N := rfl
theorem k_ln {ds : List D} : kLn c g b ds N R τ s = (loopF (evG c g) (evSs c b) ds τ s).W N R noT noT := rfl
end
/-- for over few values, turn by turn -/
theorem wF :
    (∀ {c g b τ s N R}, (loopF (evG c g) (evSs c b) [] τ s).W N R noT noT = N τ s) ∧ (∀ {c g b τ s N R d ds}, (loopF (evG c g) (evSs c b) (d :: ds) τ s).W N R noT noT = (evG c g d τ s).W (kLp c g b ds N R)) ∧
    (∀ {c g b τ s N R ds}, kLp c g b ds N R τ s = (evSs c b τ s).W (kLn c g b ds N R) R (kLn c g b ds N R) N) ∧ (∀ {c g b τ s N R ds}, kLn c g b ds N R τ s = (loopF (evG c g) (evSs c b) ds τ s).W N R noT noT) :=
  ⟨loop_nil, loop_cons, k_lp, k_ln⟩
theorem callK2 {c : Cc} {s : S} {Q : VQ} {f : Nat} {perm : List Nat} {a b : D} {e1 e2 : ME} : kCallK c (lenMEs (.cons e1 (.cons e2 .nil))) f perm Q [a, b] s = wPerm c f (permD [a, b] perm) s Q := by
  show (2 = 2 ∧ _) = _
  simp
theorem callK3 {c : Cc} {s : S} {Q : VQ} {f : Nat} {perm : List Nat} {a b d : D} {e1 e2 e3 : ME} : kCallK c (lenMEs (.cons e1 (.cons e2 (.cons e3 .nil)))) f perm Q [a, b, d] s = wPerm c f (permD [a, b, d] perm) s Q := by
  show (3 = 3 ∧ _) = _
  simp
theorem callK4 {c : Cc} {s : S} {Q : VQ} {f : Nat} {perm : List Nat} {a b d e : D} {e1 e2 e3 e4 : ME} : kCallK c (lenMEs (.cons e1 (.cons e2 (.cons e3 (.cons e4 .nil))))) f perm Q [a, b, d, e] s = wPerm c f (permD [a, b, d, e] perm) s Q := by
  show (4 = 4 ∧ _) = _
  simp
/-- calls by name -/
theorem wP :
    (∀ {c s Q f perm a b e1 e2}, kCallK c (lenMEs (.cons e1 (.cons e2 .nil))) f perm Q [a, b] s = wPerm c f (permD [a, b] perm) s Q) ∧
    (∀ {c s Q f perm a b d e1 e2 e3}, kCallK c (lenMEs (.cons e1 (.cons e2 (.cons e3 .nil)))) f perm Q [a, b, d] s = wPerm c f (permD [a, b, d] perm) s Q) ∧
    (∀ {c s Q f perm a b d e e1 e2 e3 e4}, kCallK c (lenMEs (.cons e1 (.cons e2 (.cons e3 (.cons e4 .nil))))) f perm Q [a, b, d, e] s = wPerm c f (permD [a, b, d, e] perm) s Q) ∧
    (∀ {a b : D}, permD [a, b] [1, 0] = some [b, a]) ∧ (∀ {a b c : D}, permD [a, b, c] [2, 1, 0] = some [c, b, a]) ∧ (∀ {a b c d : D}, permD [a, b, c, d] [3, 2, 1, 0] = some [d, c, b, a]) :=
  ⟨callK2, callK3, callK4, rfl, rfl, rfl⟩
theorem get_nx2 {s : S} {a b c : Cl} : (((s.add a).add b).add c).get (s.nx + 1 + 1) = some c := get_add (s := (s.add a).add b)
theorem put_nx2 {s : S} {a b c d : Cl} : (((s.add a).add b).add c).put (s.nx + 1 + 1) d = ((s.add a).add b).add d := add_put (s := (s.add a).add b)
/-! ### states that grow -/
def pc (a b : Int) : Cl := .lst false [.int a, .int b]
structure PotAt (s : S) (p : Nat) : Prop where
  wf : Wf s
  at_ : ∃ a b, s.get p = some (pc a b)
/-- but the pot nothing has changed -/
def Mv (s : S) (p : Nat) (t : S) : Prop := ∃ a b, t = s.put p (pc a b)
theorem pc_low {m : Nat} {a b : Int} : belowC m (pc a b) = true := rfl
theorem PotAt.mv {s t : S} {p : Nat} (h : PotAt s p) (m : Mv s p t) : PotAt t p := by
  obtain ⟨a, b, rfl⟩ := m
  obtain ⟨c, d, e⟩ := h.at_
  exact ⟨h.wf.put pc_low, a, b, get_put e⟩
theorem PotAt.lt {s : S} {p : Nat} (h : PotAt s p) : p < s.nx := by
  obtain ⟨c, d, e⟩ := h.at_
  exact h.wf.lt e
theorem PotAt.add {s : S} {p : Nat} {c : Cl} (h : PotAt s p) (hc : belowC s.nx c = true) : PotAt (s.add c) p := by
  have := h.lt
  obtain ⟨a, b, e⟩ := h.at_
  exact ⟨h.wf.add hc, a, b, by rw [get_add_ne (by omega)]; exact e⟩
theorem Mv.refl {s : S} {p : Nat} (h : PotAt s p) : Mv s p s := by
  obtain ⟨a, b, e⟩ := h.at_
  exact ⟨a, b, (put_same e).symm⟩
theorem Mv.trans {s t u : S} {p : Nat} (h1 : Mv s p t) (h2 : Mv t p u) : Mv s p u := by
  obtain ⟨a, b, rfl⟩ := h1
  obtain ⟨c, d, rfl⟩ := h2
  exact ⟨c, d, put_put⟩
theorem Mv.nx {s t : S} {p : Nat} (h : Mv s p t) : t.nx = s.nx := by
  obtain ⟨a, b, rfl⟩ := h
  rfl
/-- what moves below a new cell -/
theorem Mv.add {s t : S} {p : Nat} {c : Cl} (hp : PotAt s p) (h : Mv (s.add c) p t) : ∃ u, Mv s p u ∧ t = u.add c := by
  obtain ⟨a, b, rfl⟩ := h
  have := hp.lt
  exact ⟨_, ⟨a, b, rfl⟩, add_put_ne (by omega)⟩
theorem lookup_app {n : Nat} : ∀ {l r : List (Nat × Cl)}, (∀ q ∈ l, q.1 ≠ n) → (l ++ r).lookup n = r.lookup n
  | [], _, _ => rfl
  | (k, c) :: l, r, h => by
    have hk : (n == k) = false := by
      have := h (k, c) List.mem_cons_self
      simp at this ⊢
      exact fun z => this z.symm
    rw [List.cons_append, List.lookup, hk]
    exact lookup_app fun q hq => h q (List.mem_cons_of_mem _ hq)
theorem putC_app {n : Nat} {c : Cl} : ∀ {l r : List (Nat × Cl)}, (∀ q ∈ l, q.1 ≠ n) → putC n c (l ++ r) = l ++ putC n c r
  | [], _, _ => rfl
  | (k, d) :: l, r, h => by
    have hk : ¬ k = n := h (k, d) List.mem_cons_self
    rw [List.cons_append, putC, if_neg hk, putC_app fun q hq => h q (List.mem_cons_of_mem _ hq)]
    rfl
theorem Over.get {s t : S} {n : Nat} (o : Over s t) (hn : n < s.nx) : t.get n = s.get n := by
  obtain ⟨_, new, h2, h3⟩ := o
  show t.cs.lookup n = _
  rw [h2, lookup_app fun q hq => by have := h3 q hq; omega]
  rfl
theorem Over.putOld {s t : S} {n : Nat} {c : Cl} (o : Over s t) (hn : n < s.nx) : Over (s.put n c) (t.put n c) := by
  obtain ⟨h1, new, h2, h3⟩ := o
  refine ⟨h1, new, ?_, h3⟩
  show putC n c t.cs = _
  rw [h2, putC_app fun q hq => by have := h3 q hq; omega]
  rfl
/-- s, its pot moved, newer cells on top -/
structure Up (s : S) (p : Nat) (t : S) : Prop where
  wf : Wf t
  ov : ∃ u, Mv s p u ∧ Over u t
theorem Up.refl {s : S} {p : Nat} (h : PotAt s p) : Up s p s := ⟨h.wf, s, Mv.refl h, Over.refl s⟩
theorem Up.nx {s t : S} {p : Nat} (h : Up s p t) : s.nx ≤ t.nx := by
  obtain ⟨u, m, o⟩ := h.ov
  rw [← m.nx]
  exact o.nx
theorem Up.pot {s t : S} {p : Nat} (hp : PotAt s p) (h : Up s p t) : PotAt t p := by
  obtain ⟨u, m, o⟩ := h.ov
  obtain ⟨a, b, e⟩ := (hp.mv m).at_
  exact ⟨h.wf, a, b, by rw [o.get (by rw [m.nx]; exact hp.lt)]; exact e⟩
theorem Up.add {s t : S} {p : Nat} {c : Cl} (h : Up s p t) (hc : belowC t.nx c = true) : Up s p (t.add c) := by
  obtain ⟨u, m, o⟩ := h.ov
  exact ⟨h.wf.add hc, u, m, o.add⟩
theorem Up.mv {s t t' : S} {p : Nat} (hp : PotAt s p) (h : Up s p t) (m : Mv t p t') : Up s p t' := by
  obtain ⟨u, m1, o⟩ := h.ov
  have hw := ((h.pot hp).mv m).wf
  obtain ⟨a, b, rfl⟩ := m
  exact ⟨hw, u.put p (pc a b), m1.trans ⟨a, b, rfl⟩, o.putOld (by rw [m1.nx]; exact hp.lt)⟩
theorem Up.put {s t : S} {p n : Nat} {c : Cl} (h : Up s p t) (hn : s.nx ≤ n) (hc : belowC t.nx c = true) (hp : PotAt s p) : Up s p (t.put n c) := by
  obtain ⟨u, m, o⟩ := h.ov
  exact ⟨h.wf.put hc, u, m, o.put (hp.mv m).wf (by rw [m.nx]; exact hn)⟩
theorem Mv.get {s t : S} {p n : Nat} (m : Mv s p t) (h : n ≠ p) : t.get n = s.get n := by
  obtain ⟨a, b, rfl⟩ := m
  exact get_put_ne h
theorem get_lt_add {s : S} {n : Nat} {c : Cl} (h : n < s.nx) : (s.add c).get n = s.get n := get_add_ne (by omega)
/-- what a call leaves of such a state -/
theorem Up.done {s t : S} {p : Nat} {d : D} {P : D → S → Prop} (hp : PotAt s p) (h : Up s p t) (hd : below s.nx d = true) (k : ∀ u, Mv s p u → P d u) : ∃ u, u.nx = s.nx ∧ Wf u ∧ Over u t ∧ below s.nx d = true ∧ P d u := by
  obtain ⟨u, m, o⟩ := h.ov
  exact ⟨u, m.nx, (hp.mv m).wf, o, hd, k u m⟩
/-! ### reading cells -/
theorem look_lst {s : S} {n k : Nat} {b : Bool} {ds : List D} (h : s.get n = some (.lst b ds)) : s.look (k + 1) n = (toPys (s.look k) ds).map PyData.list := by
  show (match s.get n with | some (.lst _ ds) => (toPys (s.look k) ds).map PyData.list | _ => none) = _
  rw [h]
theorem toPys_of {α : Type} {lk : Nat → Option PyData} {f : α → D} {y : α → PyData} (h : ∀ a, toPy lk (f a) = some (y a)) : ∀ xs : List α, toPys lk (xs.map f) = some (xs.map y)
  | [] => rfl
  | x :: xs => by rw [List.map_cons, toPys, h, toPys_of h xs]; rfl
end Mi
set_option Elab.async false
set_option linter.all false
set_option maxRecDepth 100000
set_option maxHeartbeats 400000
namespace Mi.L86
open PySem PySem.W
open Mi.En (enc)
/-! ### the law's own sure places -/
def oY : Option Int → PyData
  | none => .none
  | some i => .int i
def yS3 (u : Pl × NW) : PyData := .tuple [Datum.toD u.1, .int u.2.1, oY u.2.2]
theorem py_rdS (lk : Nat → Option PyData) (u : Pl × NW) : toPy lk (rdS u) = some (yS3 u) := by
  obtain ⟨p, a, b⟩ := u
  show (toPys lk [enc p, .int a, oD b]).map PyData.tuple = _
  cases b <;> (simp only [toPys, En.py, oD]; rfl)
theorem lay_yS3 (u : Pl × NW) : PyData.canLay0 (yS3 u) = true := by
  obtain ⟨p, a, b⟩ := u
  show (PyData.canLay0 (Datum.toD p) && (true && (PyData.canLay0 (oY b) && true))) = true
  rw [En.lay]
  cases b <;> rfl
theorem dep_yS3 (u : Pl × NW) : (yS3 u).depth ≤ 60 := by
  obtain ⟨p, a, b⟩ := u
  have h1 : (Datum.toD p : PyData).depth ≤ 4 := Nat.le_trans (Datum.depth_le p) (by decide)
  unfold yS3
  simp only [PyData.depth, PyData.depthAll]
  cases b <;> simp only [oY, PyData.depth] <;> omega
theorem pys_rdS (s : S) (us : List (Pl × NW)) : s.pys (us.map rdS) = some (us.map yS3) := toPys_of (py_rdS _) us
theorem alike_self (u : Pl × NW) : PySem.W.alike (yS3 u) (yS3 u) = true := by
  obtain ⟨p, a, b⟩ := u
  show PySem.W.alikeAll [Datum.toD p, .int a, oY b] [Datum.toD p, .int a, oY b] = true
  simp only [PySem.W.alikeAll, DatumOrd.alike, Bool.true_and]
  cases b <;> simp [oY, PySem.W.alike]
theorem fst_yS3 (u : Pl × NW) : fstD (yS3 u) = Datum.toD u.1 := rfl
theorem apart_yS3 : ∀ {us : List (Pl × NW)}, (us.map (·.1)).Nodup → apart (us.map yS3) = true
  | [], _ => rfl
  | u :: us, h => by
    rw [List.map_cons] at h
    obtain ⟨h1, h2⟩ := List.nodup_cons.mp h
    rw [List.map_cons, apart, apart_yS3 h2, Bool.and_true, List.all_eq_true]
    intro q hq
    obtain ⟨x, hx, rfl⟩ := List.mem_map.mp hq
    have hne : u.1 ≠ x.1 := fun z => h1 (by rw [z]; exact List.mem_map.mpr ⟨x, hx, rfl⟩)
    rw [fst_yS3, fst_yS3, DatumOrd.alike, DatumOrd.alike, Datum.eqv, Datum.eqv, decide_eq_false hne, decide_eq_false (Ne.symm hne)]
    rfl
theorem sortFst_ok {us : List (Pl × NW)} (h : (us.map (·.1)).Nodup) : sortFst (us.map yS3) = true := by
  unfold sortFst
  rw [apart_yS3 h]
  simp only [Bool.and_eq_true, List.all_eq_true, List.mem_map, decide_eq_true_eq, and_true]
  refine ⟨⟨?_, ?_⟩, ?_⟩
  · rintro _ ⟨u, _, rfl⟩
    rfl
  · rintro _ ⟨u, _, rfl⟩
    exact alike_self u
  · rintro _ ⟨u, _, rfl⟩
    exact Nat.le_trans (dep_yS3 u) (by decide)
theorem leD_rdS (s : S) {us : List (Pl × NW)} (h : (us.map (·.1)).Nodup) {a b : Pl × NW} (ha : a ∈ us) (hb : b ∈ us) : leD s (rdS a) (rdS b) = leE a.1 b.1 := by
  have e : leD s (rdS a) (rdS b) = !PySem.W.dataLt (yS3 b) (yS3 a) := by
    unfold leD
    rw [show s.py (rdS a) = some (yS3 a) from py_rdS _ a, show s.py (rdS b) = some (yS3 b) from py_rdS _ b]
    rfl
  rw [e]
  unfold leE
  congr 1
  by_cases hab : a.1 = b.1
  · have : a = b := by
      clear e
      induction us with
      | nil => cases ha
      | cons u us ih =>
        rw [List.map_cons] at h
        obtain ⟨h1, h2⟩ := List.nodup_cons.mp h
        rcases List.mem_cons.mp ha with e1 | ha
        · rcases List.mem_cons.mp hb with e2 | hb
          · rw [e1, e2]
          · exact absurd (List.mem_map.mpr ⟨b, hb, by rw [← hab, e1]⟩) h1
        · rcases List.mem_cons.mp hb with e2 | hb
          · exact absurd (List.mem_map.mpr ⟨a, ha, by rw [hab, e2]⟩) h1
          · exact ih h2 ha hb
    rw [this, dataLt_self, lt_irr]
  · unfold yS3
    rw [PySem.W.dataLt_tuple, PySem.W.dataLt_all_no (DatumOrd.alike b.1 a.1) (by rw [Datum.eqv]; exact decide_eq_false (Ne.symm hab)), DatumOrd.lt_eq]
theorem v_sortS {s : S} {Q : VQ} {us : List (Pl × NW)} (h : (us.map (·.1)).Nodup) : (evBi .sorted [.lst (us.map rdS)] s).W Q = Q (.lst ((us.mergeSort fun a b => leE a.1 b.1).map rdS)) s := by
  have e : evBi .sorted [.lst (us.map rdS)] s = .ok (.lst ((us.map rdS).mergeSort (leD s))) s := by
    simp only [evBi, S.items, pys_rdS, sortFst_ok h, Bool.or_true, if_true]
  rw [e, List.map_mergeSort (r := fun a b : Pl × NW => leE a.1 b.1) (s := leD s) fun a ha b hb => (leD_rdS s h ha hb).symm]
  rfl
theorem sort_found (w : Wea) (caps : List Int) (goal : Pl) : (sureL w caps goal).mergeSort (fun a b => leE a.1 b.1) = toldS w caps goal := by
  have hk : (sureL w caps goal).mergeSort (fun a b => leE a.1 b.1) = ((sureL w caps goal).mergeSort (fun a b => leE a.1 b.1)).map fun u => (u.1, nwAt w caps goal u.1) := by
    have : ∀ u ∈ (sureL w caps goal).mergeSort (fun a b => leE a.1 b.1), u = (u.1, nwAt w caps goal u.1) := by
      intro u hu
      have hu : u ∈ sureL w caps goal := (List.mergeSort_perm _ _).mem_iff.mp hu
      have e := kd_lookup (by rw [sureL_keys]; exact final_nodup (places_nodup _ _)) (show (u.1, u.2) ∈ sureL w caps goal from hu)
      have : nwAt w caps goal u.1 = u.2 := by unfold nwAt; rw [e]; rfl
      rw [this]
    conv => lhs; rw [← List.map_id ((sureL w caps goal).mergeSort fun a b => leE a.1 b.1)]
    exact List.map_congr_left this
  have hm : ((sureL w caps goal).mergeSort (fun a b => leE a.1 b.1)).map (·.1) = sureK w caps goal := by
    rw [List.map_mergeSort (s := leE) (fun a _ b _ => rfl), sureL_keys, sort_sure]
  rw [hk]
  unfold toldS
  rw [← hm, List.map_map]
  rfl
section
variable {wf n : Nat} {s : S}
theorem c_law_sure (W : Wf s) {w : Wea} (h : w.Ok) {caps : List Int} (hc : CapOk w caps) {goal : Pl} (hg : goal ∈ placesOf w.sd caps) : callN tab wf (n + 3) 78 [eW w, eT caps, enc goal] s = .ok (.tup [.lst ((toldS w caps goal).map rdS), .lst ((restS w caps goal).map enc)]) s := by
  have hP := places_600 h hc
  have hk := places_nodup w.sd caps
  have hsl := h.sl
  have hgp : ∀ p ∈ placesOf w.sd caps, p.2.items.length ≤ 64 := fun p hp => by have := place_len h hc hp; omega
  have h00 := newL_pos (keys := placesOf w.sd caps) (lost := sureP w caps goal) (F := []) (by
    rw [sure_start h]
    intro z
    have : goal ∈ (placesOf w.sd caps).filter (atG goal) := List.mem_filter.mpr ⟨hg, at_self goal⟩
    rw [z] at this
    cases this)
  have hne : newL (placesOf w.sd caps) (sureP w caps goal) [] ≠ [] := fun z => by rw [z] at h00; cases h00
  obtain ⟨m1, hm1, T1⟩ := turn_next hk (turn_start (keys := placesOf w.sd caps) (lost := sureP w caps goal)) hne
  have hF1 : foundL w caps ([] ++ (newL (placesOf w.sd caps) (sureP w caps goal) []).map fun p => (p, (0 : Int))) = ((placesOf w.sd caps).filter (atG goal)).map fun p => (p, ((0, none) : NW)) := by
    rw [found_next (F := []) (n := 0) (fun q hq => by cases hq), sure_start h]
    rfl
  have hat1 : ∀ p ∈ placesOf w.sd caps, atG goal p = true → p ∈ fsts ([] ++ (newL (placesOf w.sd caps) (sureP w caps goal) []).map fun p => (p, (0 : Int))) := fun p hp ha => by
    rw [List.nil_append, fsts_new, sure_start h]
    exact List.mem_filter.mpr ⟨hp, ha⟩
  generalize ([] ++ (newL (placesOf w.sd caps) (sureP w caps goal) []).map fun p => (p, (0 : Int))) = F1 at T1 hF1 hat1
  have hdone : ∀ (τ : Tau) (t : S) (o5 o6 o7 o8 o9 : Option D), t = s → τ = [some (eW w), some (eT caps), some (enc goal), some (.lst ((placesOf w.sd caps).map enc)), some (.lst ((sureL w caps goal).map rdS)), o5, o6, o7, o8, o9, none, none] → (evSs (cc tab wf (n + 2)) (.cons (.set 6 (.comp false (.nm 10) (.it (.slot 4)) .no (.ix (.slot 10) (.cst (.int 0))) [10])) (.cons (.ret (.tup (.cons (.bi .sorted (.cons (.slot 4) .nil)) (.cons (.comp false (.nm 8) (.it (.slot 3)) (.so (.cmp .notin (.slot 8) (.slot 6))) (.slot 8) [8]) .nil)))) .nil)) τ t).W (fun _ _ => False) (fun x t => x = .tup [.lst ((toldS w caps goal).map rdS), .lst ((restS w caps goal).map enc)] ∧ Over s t) noT noT := by
    rintro τ t o5 o6 o7 o8 o9 rfl rfl
    have hLn : ((sureL w caps goal).map (·.1)).Nodup := by rw [sureL_keys]; exact final_nodup hk
    have hLl : (sureL w caps goal).length ≤ (placesOf w.sd caps).length := by
      have : (fsts (sureF w caps goal)).length ≤ (placesOf w.sd caps).length := nodup_len (final_nodup hk) fun p hp => final_sub hk hp
      rw [← sureL_keys, List.length_map] at this
      exact this
    simp only [↓wS, ↓wE, ↓wC, ↓wI, wV, wX, wM, wY, wB, wK]
    refine ⟨by omega, W_map (fun u : Pl × NW => enc u.1) (fun u _ => by simp only [↓wS, ↓wE, ↓wC, ↓wI, wV, wX, wM, wY, wB, wK, rdS]) ?_⟩
    rw [show ((sureL w caps goal).map fun u => (enc u.1 : D)) = ((sureL w caps goal).map (·.1)).map enc by rw [List.map_map]; rfl, sureL_keys]
    simp only [↓wS, ↓wE, ↓wC, ↓wI, wV, wX, wM, wY, wB, wK, v_sortS hLn, sort_found]
    refine ⟨by omega, W_filter (fun p => !isin p (fsts (sureF w caps goal))) enc (fun p _ => ?_) ?_⟩
    · simp only [↓wS, ↓wE, ↓wC, ↓wI, wV, wX, wM, wY, wB, wK]
      exact brT_if rfl fun _ => by simp only [↓wS, ↓wE, ↓wC, ↓wI, wV, wX, wM, wY, wB, wK]
    · simp only [↓wS, ↓wE, ↓wC, ↓wI, wV, wX, wM, wY, wB, wK]
      exact ⟨rfl, Over.refl _⟩
  refine call_W t__law_sure rfl W (by show (belows _ _ && (belows _ _ && true)) = true; rw [lows_map, rdSs_low]; rfl) ?_
  simp only [↓wS, ↓wE, ↓wC, ↓wI, wV, wX, wM, wY, wB, wK, wT, b__law_sure, c_law_places W h hc]
  refine ⟨by omega, W_filter (atG goal) (fun p => rdS (p, ((0, none) : NW))) (fun p hp => ?_) ?_⟩
  · simp only [↓wS, ↓wE, ↓wC, ↓wI, wV, wX, wM, wY, wB, wK, c_law_at (goal := goal) W (hgp p hp)]
    exact brT_if rfl fun _ => by simp only [↓wS, ↓wE, ↓wC, ↓wI, wV, wX, wM, wY, wB, wK]; exact ⟨rfl, rfl⟩
  rw [filter_map (atG goal) (fun p => (p, ((0, none) : NW))) rdS, ← hF1]
  simp only [↓wS, ↓wE, ↓wC, ↓wI, wV, wX, wM, wY, wB, wK, rangeD_up]
  refine ⟨⟨⟨by decide, by decide⟩, by omega, by omega⟩, W_for (fun pre τ t => ∃ (F : List (Pl × Int)) (m : Nat) (o5 o6 o7 o8 o9 : Option D), Turn (placesOf w.sd caps) (sureP w caps goal) m F (pre.length + 1) ∧ m + pre.length = (placesOf w.sd caps).length ∧ (∀ p ∈ placesOf w.sd caps, atG goal p = true → p ∈ fsts F) ∧ s = t ∧ τ = [some (eW w), some (eT caps), some (enc goal), some (.lst ((placesOf w.sd caps).map enc)), some (.lst ((foundL w caps F).map rdS)), o5, o6, o7, o8, o9, none, none]) ⟨F1, m1, none, none, none, none, none, T1, by simp; omega, hat1, rfl, rfl⟩ ?_ ?_⟩
  · rintro pre k post τ t hx ⟨F, m, o5, o6, o7, o8, o9, T, hm, hat, rfl, rfl⟩
    have hkk : k = (pre.length : Int) + 1 := by
      have h1 : (up 1 (placesOf w.sd caps).length)[pre.length]? = some k := by
        have e : up 1 (((placesOf w.sd caps).length : Int) + 1 - 1).toNat = up 1 (placesOf w.sd caps).length := by congr 1; omega
        rw [← e, hx]
        simp
      unfold up at h1
      rw [List.getElem?_map] at h1
      cases h2 : (List.range (placesOf w.sd caps).length)[pre.length]? with
      | none => rw [h2] at h1; cases h1
      | some v =>
        rw [h2] at h1
        have := (List.getElem?_eq_some_iff.mp h2).2
        simp at this h1
        omega
    have hFl := good_len T.g
    have hfl := found_len w caps F
    have hfk := found_keys w caps F
    simp only [↓wS, ↓wE, ↓wC, ↓wI, wV, wX, wM, wY, wB, wK]
    refine ⟨by omega, W_map (fun u : Pl × NW => enc u.1) (fun u _ => by simp only [↓wS, ↓wE, ↓wC, ↓wI, wV, wX, wM, wY, wB, wK, rdS]) ?_⟩
    rw [show ((foundL w caps F).map fun u => (enc u.1 : D)) = ((foundL w caps F).map (·.1)).map enc by rw [List.map_map]; rfl, hfk]
    simp only [↓wS, ↓wE, ↓wC, ↓wI, wV, wX, wM, wY, wB, wK]
    obtain ⟨nb, hnb⟩ : ∃ nb : Pl → Bool, nb = fun p => !isin p (fsts F) && !(stepsIn w caps (fsts F) p).isEmpty := ⟨_, rfl⟩
    obtain ⟨nr, hnr⟩ : ∃ nr : Pl → Pl × NW, nr = fun p => (p, ((k, some (wayIn w caps (fsts F) p)) : NW)) := ⟨_, rfl⟩
    refine W_for (fun pre2 τ t => ∃ o8 o9, s = t ∧ τ = [some (eW w), some (eT caps), some (enc goal), some (.lst ((placesOf w.sd caps).map enc)), some (.lst ((foundL w caps F).map rdS)), some (.int k), some (.lst ((fsts F).map enc)), some (.lst (((pre2.filter nb).map nr).map rdS)), o8, o9, none, none]) ⟨o8, o9, rfl, rfl⟩ ?_ ?_
    · rintro pre2 p post2 τ t hx2 ⟨o8, o9, rfl, rfl⟩
      have hp : p ∈ placesOf w.sd caps := by rw [hx2]; simp
      have hlet := letL_len w p
      have hlen2 : (pre2.filter nb).length ≤ pre2.length := List.length_filter_le _ _
      have hlen3 : pre2.length ≤ 600 := by
        have := congrArg List.length hx2
        simp at this
        omega
      simp only [↓wS, ↓wE, ↓wC, ↓wI, wV, wX, wM, wY, wB, wK]
      refine brS_by (fun hin => ?_) (fun hin => ?_)
      · simp only [↓wS, ↓wE, ↓wC, ↓wI, wV, wX, wM, wY, wB, wK, c_law_let W h (hgp p hp)]
        refine ⟨by omega, W_filter (fun i => !(comesL w caps p i).any fun g => !isin g (fsts F)) enc (fun i hi => ?_) ?_⟩
        · obtain ⟨st, h0, h1, h2, h3⟩ := letL_comes h hi
          have hcl := comes_len h (caps := caps) (p := p) (i := i)
          simp only [↓wS, ↓wE, ↓wC, ↓wI, wV, wX, wM, wY, wB, wK, c_comes_out W h hc h0 h1, ← h3]
          refine ⟨by omega, W_eqN (fun g => !isin g (fsts F)) (fun g => g) (fun g _ => ?_) ?_⟩
          · simp only [↓wS, ↓wE, ↓wC, ↓wI, wV, wX, wM, wY, wB, wK]
            exact brT_if rfl fun _ => by simp only [↓wS, ↓wE, ↓wC, ↓wI, wV, wX, wM, wY, wB, wK]
          · exact brT_if rfl fun _ => by simp only [↓wS, ↓wE, ↓wC, ↓wI, wV, wX, wM, wY, wB, wK]
        · have e : ((letL w p).filter fun i => !(comesL w caps p i).any fun g => !isin g (fsts F)) = stepsIn w caps (fsts F) p := by
            unfold stepsIn rowL
            rw [List.filter_map, List.map_map]
            show _ = (List.filter _ (letL w p)).map id
            rw [List.map_id]
            apply List.filter_congr
            intro i _
            show _ = (comesL w caps p i).all fun g => isin g (fsts F)
            rw [List.all_eq_not_any_not]
          rw [e]
          simp only [↓wS, ↓wE, ↓wC, ↓wI, wV, wX, wM, wY, wB, wK]
          have hnp : nb p = !(stepsIn w caps (fsts F) p).isEmpty := by rw [hnb]; show (!isin p (fsts F) && _) = _; rw [hin, Bool.true_and]
          cases es : stepsIn w caps (fsts F) p with
          | nil =>
            rw [es] at hnp
            have hfil : (pre2 ++ [p]).filter nb = pre2.filter nb := by rw [List.filter_append, List.filter_cons, hnp]; simp
            simp only [↓wS, ↓wE, ↓wC, ↓wI, wV, wX, wM, wY, wB, wK, List.map_nil, List.isEmpty_nil]
            rw [hfil, List.append_nil]
            exact ⟨by simp; omega, _, _, rfl⟩
          | cons a as =>
            rw [es] at hnp
            have e2 : wayIn w caps (fsts F) p = a := by unfold wayIn; rw [es]; rfl
            have hfil : (pre2 ++ [p]).filter nb = pre2.filter nb ++ [p] := by rw [List.filter_append, List.filter_cons, hnp]; simp
            simp only [↓wS, ↓wE, ↓wC, ↓wI, wV, wX, wM, wY, wB, wK, List.map_cons, List.isEmpty_cons]
            rw [hfil, List.map_append, List.map_append]
            refine ⟨by simp; omega, some (enc p), some (.lst (D.int a :: as.map enc)), ?_⟩
            rw [hnr, ← e2]
            rfl
      · have hnp : nb p = false := by rw [hnb]; show (!isin p (fsts F) && _) = _; rw [hin, Bool.false_and]
        have hfil : (pre2 ++ [p]).filter nb = pre2.filter nb := by rw [List.filter_append, List.filter_cons, hnp]; simp
        simp only [↓wS, ↓wE, ↓wC, ↓wI, wV, wX, wM, wY, wB, wK]
        rw [hfil]
        exact ⟨_, _, rfl⟩
    · rintro τ t ⟨o8, o9, rfl, rfl⟩
      have hnew : (placesOf w.sd caps).filter nb = newL (placesOf w.sd caps) (sureP w caps goal) F := by
        unfold newL
        apply List.filter_congr
        intro p hp
        rw [hnb]
        show (!isin p (fsts F) && !(stepsIn w caps (fsts F) p).isEmpty) = _
        rw [← steps_any]
        unfold sureP
        cases e : isin p (fsts F) with
        | true => rfl
        | false =>
          have : atG goal p = false := by
            cases ea : atG goal p with
            | false => rfl
            | true =>
              have := hat p hp ea
              rw [isin_not] at e
              exact absurd this e
          rw [this]
          rfl
      have hnl : (newL (placesOf w.sd caps) (sureP w caps goal) F).length ≤ (placesOf w.sd caps).length := List.length_filter_le _ _
      simp only [↓wS, ↓wE, ↓wC, ↓wI, wV, wX, wM, wY, wB, wK, hnew, c_eqNy (s := s) (fun u _ => py_rdS _ u) (fun u _ => lay_yS3 u) (fun u _ => dep_yS3 u)]
      refine brS_by (fun he => ?_) (fun he => ?_)
      · have he : newL (placesOf w.sd caps) (sureP w caps goal) F = [] := by simpa using he
        have hF := turn_end T he
        simp only [↓wS, ↓wE, ↓wC, ↓wI, wV, wX, wM, wY, wB, wK]
        rw [hF]
        have hLn : ((sureL w caps goal).map (·.1)).Nodup := by rw [sureL_keys]; exact final_nodup hk
        have hLl : (sureL w caps goal).length ≤ (placesOf w.sd caps).length := by
          have : (fsts (sureF w caps goal)).length ≤ (placesOf w.sd caps).length := nodup_len (final_nodup hk) fun p hp => final_sub hk hp
          rw [← sureL_keys, List.length_map] at this
          exact this
        rw [show foundL w caps (final (placesOf w.sd caps) (sureP w caps goal)) = sureL w caps goal from rfl]
        refine ⟨by omega, W_map (fun u : Pl × NW => enc u.1) (fun u _ => by simp only [↓wS, ↓wE, ↓wC, ↓wI, wV, wX, wM, wY, wB, wK, rdS]) ?_⟩
        rw [show ((sureL w caps goal).map fun u => (enc u.1 : D)) = ((sureL w caps goal).map (·.1)).map enc by rw [List.map_map]; rfl, sureL_keys]
        simp only [↓wS, ↓wE, ↓wC, ↓wI, wV, wX, wM, wY, wB, wK, v_sortS hLn, sort_found]
        refine ⟨by omega, W_filter (fun p => !isin p (fsts (sureF w caps goal))) enc (fun p _ => ?_) ?_⟩
        · simp only [↓wS, ↓wE, ↓wC, ↓wI, wV, wX, wM, wY, wB, wK]
          exact brT_if rfl fun _ => by simp only [↓wS, ↓wE, ↓wC, ↓wI, wV, wX, wM, wY, wB, wK]
        · simp only [↓wS, ↓wE, ↓wC, ↓wI, wV, wX, wM, wY, wB, wK]
          exact ⟨rfl, Over.refl _⟩
      · have he : newL (placesOf w.sd caps) (sureP w caps goal) F ≠ [] := by
          intro z
          rw [z] at he
          cases he
        obtain ⟨m', hm', T'⟩ := turn_next hk T he
        have hz : ¬ (pre.length : Int) + 1 = 0 := by omega
        have hnx := found_next (w := w) (caps := caps) (fun q hq => T.g.num q hq) (newL (placesOf w.sd caps) (sureP w caps goal) F)
        simp only [hz, if_false] at hnx
        simp only [↓wS, ↓wE, ↓wC, ↓wI, wV, wX, wM, wY, wB, wK]
        refine ⟨by rw [List.length_append, List.length_map, List.length_map, List.length_map]; omega, F ++ (newL (placesOf w.sd caps) (sureP w caps goal) F).map (fun p => (p, (pre.length : Int) + 1)), m', some (.int k), some (.lst ((fsts F).map enc)), some (.lst (((newL (placesOf w.sd caps) (sureP w caps goal) F).map nr).map rdS)), o8, o9, by rw [List.length_append]; simpa using T', by rw [List.length_append]; simp; omega, fun p hp ha => ?_, ?_⟩
        · rw [fsts_app]
          exact List.mem_append.mpr (.inl (hat p hp ha))
        · rw [hnx, List.map_append, hnr, hkk]
  · rintro τ t ⟨F, m, o5, o6, o7, o8, o9, T, hm, hat, rfl, rfl⟩
    rw [up_len] at hm
    have hm0 : m = 0 := by omega
    subst hm0
    have hF : F = sureF w caps goal := T.fin
    rw [hF]
    exact Fl.W.mono (hdone _ _ _ _ _ _ _ rfl rfl) (fun _ _ h => h.elim) (fun _ _ h => h) (fun _ _ h => h) (fun _ _ h => h)
end
end Mi.L86
set_option Elab.async false
set_option linter.all false
set_option maxRecDepth 100000
set_option maxHeartbeats 400000
namespace Mi.L86
open PySem PySem.W
open Mi.En (enc)
/-! ### the law's judge of sure tables -/
def cntAt1 (r : Rw) : Bool := match r.parts with
  | _ :: q :: _ => cntQ q
  | _ => false
def bad3 (w : Wea) (caps : List Int) (r : Rw) : Bool := r.lst || (!decide (r.parts.length = 3) || (!headOk (withinQ w.sd caps) r || !cntAt1 r))
theorem stepOk_int (w : Wea) (caps : List Int) (us : List U3) (p : Pl) (k i : Int) : stepOk w caps us p k (.int i) = (isin i (letL w p) && (comesL w caps p i).all fun g => isin g (lessU us k)) := rfl
theorem pd_int (i : Int) : (Pt.int i).d = .int i := rfl
theorem entry_eq (w : Wea) (caps : List Int) (goal : Pl) (us : List U3) (u : U3) : entryOk w caps goal us u = if (atG goal u.1 || (decide (u.2.1 = 0) || isNonQ u.2.2)) = true then !(!atG goal u.1 || (!decide (u.2.1 = 0) || !isNonQ u.2.2)) else stepOk w caps us u.1 u.2.1 u.2.2 := by
  unfold entryOk
  cases atG goal u.1 <;> cases isNonQ u.2.2 <;> cases decide (u.2.1 = 0) <;> rfl
section
variable {wf n : Nat} {s : S}
theorem c_law_count (W : Wf s) {q : Pt} : callN tab wf (n + 1) 79 [q.d] s = .ok (.bl (cntQ q)) s := by
  refine call_W t__law_is_count rfl W rfl ?_
  simp only [↓wS, ↓wE, ↓wC, ↓wI, wV, wX, wM, wY, wB, wK, wT, b__law_is_count, Pt.tyOf]
  cases q with
  | int i => simp only [↓wS, ↓wE, ↓wC, ↓wI, wV, wX, wM, wY, wB, wK, Pt.ty, pd_int, wO, cntQ]
  | non => simp only [↓wS, ↓wE, ↓wC, ↓wI, wV, wX, wM, wY, wB, wK, Pt.ty, wO, cntQ]
  | bl b => simp only [↓wS, ↓wE, ↓wC, ↓wI, wV, wX, wM, wY, wB, wK, Pt.ty, Pt.tyOf, wO, cntQ]
  | str x => simp only [↓wS, ↓wE, ↓wC, ↓wI, wV, wX, wM, wY, wB, wK, Pt.ty, wO, cntQ]
  | tup xs => simp only [↓wS, ↓wE, ↓wC, ↓wI, wV, wX, wM, wY, wB, wK, Pt.ty, wO, cntQ]
  | pl p => simp only [↓wS, ↓wE, ↓wC, ↓wI, wV, wX, wM, wY, wB, wK, Pt.ty, wO, cntQ]
theorem c_law_is_table (W : Wf s) {w : Wea} (h : w.Ok) {caps : List Int} (hc : CapOk w caps) {goal : Pl} {v : Vl} (hv : v.Ok) : callN tab wf (n + 3) 49 [eW w, eT caps, enc goal, .lst ((placesOf w.sd caps).map enc), v.d] s = .ok (.bl (tableB w caps goal v)) s := by
  have hP := places_600 h hc
  have hshown : ∀ y ∈ (placesOf w.sd caps).map (fun p => PyData.shown (Datum.toD p)), PyData.strOk y = true := fun y hy => by
    obtain ⟨p, hp, rfl⟩ := List.mem_map.mp hy
    exact (Fit_place h hc hp).ok
  have eS : ((placesOf w.sd caps).map fun p => D.str (PyData.shown (Datum.toD p))) = ((placesOf w.sd caps).map fun p => PyData.shown (Datum.toD p)).map D.str := by rw [List.map_map]; rfl
  refine call_W t__law_is_table rfl W rfl ?_
  simp only [↓wS, ↓wE, ↓wC, ↓wI, wV, wX, wM, wY, wB, wK, wT, b__law_is_table]
  refine ⟨by omega, W_map (fun p => .str (PyData.shown (Datum.toD p))) (fun p hp => by simp only [↓wS, ↓wE, ↓wC, ↓wI, wV, wX, wM, wY, wB, wK, v_repr (py_en s p) ((Fit_place h hc hp).mono (by decide) (by decide))]) ?_⟩
  rw [eS]
  simp only [↓wS, ↓wE, ↓wC, ↓wI, wV, wX, wM, wY, wB, wK, Vl.tyOf]
  cases v with
  | non => simp only [↓wS, ↓wE, ↓wC, ↓wI, wV, wX, wM, wY, wB, wK, Vl.ty, wO, tableB, rowsP]
  | int i => simp only [↓wS, ↓wE, ↓wC, ↓wI, wV, wX, wM, wY, wB, wK, Vl.ty, wO, tableB, rowsP]
  | rows tl rs =>
    have hl := hv.2
    have e1 : (Ty.isa (Vl.rows tl rs).ty .lst || Ty.isa (Vl.rows tl rs).ty .tup) = true := by cases tl <;> rfl
    simp only [↓wS, ↓wE, ↓wC, ↓wI, wV, wX, wM, wY, wB, wK, e1]
    simp only [↓wS, ↓wE, ↓wC, ↓wI, wV, wX, wM, wY, wB, wK, Vl.walk]
    refine ⟨by omega, W_neNy (bad3 w caps) Rw.d Rw.y (fun r _ => py_row r) (fun r hr => Rw.lay (hv.1 r hr)) (fun r _ => Nat.le_trans Rw.depth (by decide)) (fun r hr => ?_) ?_⟩
    · unfold bad3
      simp only [↓wS, ↓wE, ↓wC, ↓wI, wV, wX, wM, wY, wB, wK, Rw.tyOf]
      have e2 : (!Ty.isa r.ty .tup) = r.lst := by obtain ⟨b, qs⟩ := r; cases b <;> rfl
      rw [e2]
      refine brOr_pure (!decide (r.parts.length = 3) || (!headOk (withinQ w.sd caps) r || !cntAt1 r)) (fun hlst => ?_) ?_
      · simp only [↓wS, ↓wE, ↓wC, ↓wI, wV, wX, wM, wY, wB, wK, Rw.len]
        have e3 : decide ((r.parts.length : Int) = 3) = decide (r.parts.length = 3) := by rw [Bool.eq_iff_iff, decide_eq_true_eq, decide_eq_true_eq]; omega
        rw [e3]
        refine brOr_pure (!headOk (withinQ w.sd caps) r || !cntAt1 r) (fun hlen => ?_) ?_
        · rw [Bool.not_eq_false', decide_eq_true_eq] at hlen
          have hrk := hv.1 _ hr
          obtain ⟨b, qs⟩ := r
          cases hlst
          match qs, hlen with
          | [q1, q2, q3], _ =>
            have hfit : Fit 16777216 64 q1.y := (hrk.2.2 q1 rfl).mono (by decide) (by decide)
            simp only [↓wS, ↓wE, ↓wC, ↓wI, wV, wX, wM, wY, wB, wK, show (Rw.mk false [q1, q2, q3]).d = .tup [q1.d, q2.d, q3.d] from rfl, v_repr (show s.py q1.d = some q1.y from Pt.py _) hfit]
            rw [c_notinstr hfit.ok hshown, isin_shown, isPl_within]
            refine brOr_pure (!cntQ q2) (fun _ => by simp only [↓wS, ↓wE, ↓wC, ↓wI, wV, wX, wM, wY, wB, wK, c_law_count W]) ?_
            exact ⟨rfl, rfl⟩
        · simp only [↓wS, ↓wE, ↓wC, ↓wI, wV, wX, wM, wY, wB, wK]
      · simp only [↓wS, ↓wE, ↓wC, ↓wI, wV, wX, wM, wY, wB, wK]
        exact brT_if rfl fun _ => by simp only [↓wS, ↓wE, ↓wC, ↓wI, wV, wX, wM, wY, wB, wK]
    · cases hA : rs.any (bad3 w caps) with
      | true =>
        have e3 : tableB w caps goal (.rows tl rs) = false := by
          rw [List.any_eq_true] at hA
          obtain ⟨r, hr, hb⟩ := hA
          unfold tableB
          cases hm : rowsP (within w.sd caps) 3 (.rows tl rs) with
          | none => rfl
          | some ts =>
            obtain ⟨tl', e, k1, _⟩ := rowsP_eq hm
            cases e
            obtain ⟨t, ht, rfl⟩ := List.mem_map.mp hr
            obtain ⟨k2, k3⟩ := k1 t ht
            have : cnt3 t = false := by
              unfold bad3 at hb
              have k4 : ((PRow.r t).parts.length) = 3 := k2
              have k5 : headOk (withinQ w.sd caps) (PRow.r t) = true := k3
              rw [k5, decide_eq_true k4] at hb
              have hb : cntAt1 (PRow.r t) = false := by simpa [PRow.r] using hb
              obtain ⟨p, qs⟩ := t
              cases qs with
              | nil => rfl
              | cons q qs => exact hb
            have : ts.all cnt3 = false := by
              rw [List.all_eq_false]
              exact ⟨t, ht, by rw [this]; exact Bool.false_ne_true⟩
            simp only [this, Bool.false_and]
        simp only [↓wS, ↓wE, ↓wC, ↓wI, wV, wX, wM, wY, wB, wK, e3, wO]
      | false =>
        rw [List.any_eq_false] at hA
        have hb0 : ∀ r ∈ rs, r.lst = false ∧ r.parts.length = 3 ∧ headOk (withinQ w.sd caps) r = true ∧ cntAt1 r = true := fun r hr => by
          have := hA r hr
          unfold bad3 at this
          simp only [Bool.or_eq_true, Bool.not_eq_true', decide_eq_false_iff_not, not_or, Bool.not_eq_true, Classical.not_not, Bool.not_eq_false] at this
          exact this
        obtain ⟨ts, rfl, hts⟩ := rows_of (ok := within w.sd caps) (k := 3) (rs := rs) fun r hr => ⟨(hb0 r hr).1, (hb0 r hr).2.1, (hb0 r hr).2.2.1⟩
        have hcn : ts.all cnt3 = true := by
          rw [List.all_eq_true]
          intro t ht
          have := (hb0 _ (List.mem_map.mpr ⟨t, ht, rfl⟩)).2.2.2
          obtain ⟨p, qs⟩ := t
          cases qs with
          | nil => cases this
          | cons q qs => exact this
        obtain ⟨us, rfl, hu0⟩ := cnt3_rows (fun t ht => (hts t ht).1) hcn
        have eR1 : ((us.map rr3).map fun t => (PRow.r t).d) = us.map rd3t := by rw [List.map_map]; rfl
        have eR2 : (us.map rr3).map un3 = us := by rw [List.map_map]; exact List.map_id us
        rw [List.length_map, List.length_map] at hl
        have eR : tableB w caps goal (.rows tl ((us.map rr3).map PRow.r)) = (risingB (us.map rr3) && us.all (entryOk w caps goal us)) := by
          unfold tableB
          rw [rowsP_map]
          have e5 : ((us.map rr3).all fun t => decide (t.2.length + 1 = 3) && within w.sd caps t.1) = true := by
            rw [List.all_eq_true]
            intro t ht
            rw [Bool.and_eq_true, decide_eq_true_eq]
            exact hts t ht
          rw [e5, Bool.true_and]
          show (match (if risingB (us.map rr3) = true then some (us.map rr3) else none) with | some ts => _ | none => _) = _
          cases risingB (us.map rr3) with
          | true =>
            rw [if_pos rfl]
            simp only [hcn, eR2, Bool.true_and]
          | false => rw [if_neg (by decide), Bool.false_and]
        rw [eR]
        simp only [↓wS, ↓wE, ↓wC, ↓wI, wV, wX, wM, wY, wB, wK, slice_rows, ← List.map_drop, walkST, isTup_rows, zipD_map]
        refine ⟨by rw [List.length_zip, List.length_map]; omega, W_neNy (fun q : PRow × PRow => !DatumOrd.lt q.1.1 q.2.1) (fun q => (PRow.r q.1).d) (fun q => (PRow.r q.1).y) (fun q _ => py_row _) (fun q hq => Rw.lay (hv.1 _ (List.mem_map.mpr ⟨q.1, (List.of_mem_zip hq).1, rfl⟩))) (fun q _ => Nat.le_trans Rw.depth (by decide)) (fun q _ => ?_) ?_⟩
        · simp only [↓wS, ↓wE, ↓wC, ↓wI, wV, wX, wM, wY, wB, wK, x_row0]
          exact brT_if rfl fun _ => by simp only [↓wS, ↓wE, ↓wC, ↓wI, wV, wX, wM, wY, wB, wK]
        have eZ : (((us.map rr3).zip ((us.drop 1).map rr3)).any fun q : PRow × PRow => !DatumOrd.lt q.1.1 q.2.1) = !risingB (us.map rr3) := by
          unfold risingB
          rw [List.not_all_eq_any_not, List.map_drop]
        rw [eZ]
        cases risingB (us.map rr3) with
        | false => simp only [↓wS, ↓wE, ↓wC, ↓wI, wV, wX, wM, wY, wB, wK, wO]
        | true =>
          simp only [↓wS, ↓wE, ↓wC, ↓wI, wV, wX, wM, wY, wB, wK, walkT, eR1]
          refine W_fall (entryOk w caps goal us) (fun τ t => s = t ∧ ∃ o6 o7 o8 o9, τ = [some (eW w), some (eT caps), some (enc goal), some (.lst ((placesOf w.sd caps).map enc)), some (Vl.rows tl ((us.map rr3).map PRow.r)).d, some (.lst (((placesOf w.sd caps).map fun p => PyData.shown (Datum.toD p)).map D.str)), o6, o7, o8, o9, none, none, none, none]) (fun d t => d = .bl false ∧ Over s t) ⟨rfl, none, none, none, none, rfl⟩ ?_ ?_ ?_
          · rintro ⟨p, k, q⟩ hu τ t ⟨rfl, o6, o7, o8, o9, rfl⟩
            have hwi : within w.sd caps p = true := (hts _ (List.mem_map.mpr ⟨_, hu, rfl⟩)).2
            have hpl : p.2.items.length ≤ 64 := by
              have := within_len hwi
              have := caps_len h hc
              omega
            have hll := letL_len w p
            have hsl := h.sl
            rw [entry_eq]
            simp only [↓wS, ↓wE, ↓wC, ↓wI, wV, wX, wM, wY, wB, wK, rd3t, c_law_at (goal := goal) W hpl]
            refine brOr_pure (decide (k = 0) || isNonQ q) (fun _ => ?_) ?_
            · simp only [↓wS, ↓wE, ↓wC, ↓wI, wV, wX, wM, wY, wB, wK]
              refine brOr_pure (isNonQ q) (fun _ => by simp only [↓wS, ↓wE, ↓wC, ↓wI, wV, wX, wM, wY, wB, wK, isNon_pt]) ?_
              simp only [↓wS, ↓wE, ↓wC, ↓wI, wV, wX, wM, wY, wB, wK]
            simp only [↓wS, ↓wE, ↓wC, ↓wI, wV, wX, wM, wY, wB, wK]
            refine brS_by (fun hb => ?_) (fun hb => ?_)
            · rw [if_pos hb]
              simp only [↓wS, ↓wE, ↓wC, ↓wI, wV, wX, wM, wY, wB, wK, c_law_at (goal := goal) W hpl]
              refine brOr_pure (!decide (k = 0) || !isNonQ q) (fun _ => ?_) ?_
              · simp only [↓wS, ↓wE, ↓wC, ↓wI, wV, wX, wM, wY, wB, wK]
                refine brOr_pure (!isNonQ q) (fun _ => by simp only [↓wS, ↓wE, ↓wC, ↓wI, wV, wX, wM, wY, wB, wK, isNon_pt]) ?_
                simp only [↓wS, ↓wE, ↓wC, ↓wI, wV, wX, wM, wY, wB, wK]
              simp only [↓wS, ↓wE, ↓wC, ↓wI, wV, wX, wM, wY, wB, wK]
              refine brS_by (fun hz => ?_) (fun hz => ?_)
              · simp only [↓wS, ↓wE, ↓wC, ↓wI, wV, wX, wM, wY, wB, wK]
                exact ⟨by rw [hz]; rfl, Over.refl _⟩
              · simp only [↓wS, ↓wE, ↓wC, ↓wI, wV, wX, wM, wY, wB, wK]
                exact ⟨by rw [hz]; rfl, _, _, _, _, rfl⟩
            · rw [if_neg (by rw [hb]; exact Bool.false_ne_true)]
              simp only [↓wS, ↓wE, ↓wC, ↓wI, wV, wX, wM, wY, wB, wK, walkT, eR1]
              refine ⟨by omega, W_filter (fun r : U3 => decide (r.2.1 < k)) (fun r => enc r.1) (fun r _ => ?_) ?_⟩
              · simp only [↓wS, ↓wE, ↓wC, ↓wI, wV, wX, wM, wY, wB, wK, rd3t]
                exact brT_if rfl fun _ => by simp only [↓wS, ↓wE, ↓wC, ↓wI, wV, wX, wM, wY, wB, wK]
              rw [show ((us.filter fun r : U3 => decide (r.2.1 < k)).map fun r => (enc r.1 : D)) = (lessU us k).map enc by unfold lessU; rw [List.map_map]; rfl]
              simp only [↓wS, ↓wE, ↓wC, ↓wI, wV, wX, wM, wY, wB, wK, c_law_count W]
              have hno : ∀ q : Pt, cntQ q = false → stepOk w caps us p k q = false := fun q hq => by
                cases q with
                | int i =>
                  have hi : ¬ 0 ≤ i := by simpa [cntQ] using hq
                  have : isin i (letL w p) = false := by
                    rw [isin_not, mem_letL]
                    rintro ⟨t, h0, _⟩
                    exact hi h0
                  rw [stepOk_int]
                  rw [this, Bool.false_and]
                | _ => rfl
              cases hcq : cntQ q with
              | false =>
                simp only [↓wS, ↓wE, ↓wC, ↓wI, wV, wX, wM, wY, wB, wK]
                exact ⟨hno q hcq, Over.refl _⟩
              | true =>
                obtain ⟨i, rfl⟩ : ∃ i, q = .int i := by cases q with
                  | int i => exact ⟨i, rfl⟩
                  | _ => cases hcq
                have hgl := comes_len h (caps := caps) (p := p) (i := i)
                simp only [↓wS, ↓wE, ↓wC, ↓wI, wV, wX, wM, wY, wB, wK, c_law_let W h hpl, pd_int]
                cases hil : isin i (letL w p) with
                | false =>
                  simp only [↓wS, ↓wE, ↓wC, ↓wI, wV, wX, wM, wY, wB, wK]
                  exact ⟨by rw [stepOk_int]; rw [hil]; rfl, Over.refl _⟩
                | true =>
                  obtain ⟨t, h0, h1, h2, h3⟩ := letL_comes h (isin_iff.mp hil)
                  simp only [↓wS, ↓wE, ↓wC, ↓wI, wV, wX, wM, wY, wB, wK, c_comes_out W h hc h0 h1, ← h3]
                  refine ⟨by omega, W_neN (fun g => !isin g (lessU us k)) (fun g => g) (fun g _ => ?_) ?_⟩
                  · simp only [↓wS, ↓wE, ↓wC, ↓wI, wV, wX, wM, wY, wB, wK]
                    exact brT_if rfl fun _ => by simp only [↓wS, ↓wE, ↓wC, ↓wI, wV, wX, wM, wY, wB, wK]
                  · have eA : stepOk w caps us p k (.int i) = !((comesL w caps p i).any fun g => !isin g (lessU us k)) := by
                      rw [stepOk_int]
                      rw [hil, Bool.true_and, List.all_eq_not_any_not]
                    rw [eA]
                    simp only [↓wS, ↓wE, ↓wC, ↓wI, wV, wX, wM, wY, wB, wK]
                    refine brS_by (fun hz => ?_) (fun hz => ?_)
                    · simp only [↓wS, ↓wE, ↓wC, ↓wI, wV, wX, wM, wY, wB, wK]
                      exact ⟨by rw [hz]; rfl, Over.refl _⟩
                    · simp only [↓wS, ↓wE, ↓wC, ↓wI, wV, wX, wM, wY, wB, wK]
                      exact ⟨by rw [hz]; rfl, _, _, _, _, rfl⟩
          · rintro ha τ t ⟨rfl, o6, o7, o8, o9, rfl⟩
            simp only [↓wS, ↓wE, ↓wC, ↓wI, wV, wX, wM, wY, wB, wK, ha, wO]
          · rintro ha d t ⟨rfl, o⟩
            rw [ha]
            exact ⟨rfl, o⟩
end
end Mi.L86
set_option Elab.async false
set_option linter.all false
set_option maxRecDepth 100000
set_option maxHeartbeats 400000
namespace Mi.L86
open PySem PySem.W
open Mi.En (enc)
/-! ### the law's judge of dodges -/
def letOk (w : Wea) (caps : List Int) (ps : List Pl) (p : Pl) : Bool := (letL w p).all fun i => anyIn (comesL w caps p i) ps
theorem dodge_split (w : Wea) (caps : List Int) (goal : Pl) (ps : List Pl) : ∀ qs : List Pl, qs.all (dodgeP w caps goal ps) = (!qs.any (atG goal) && qs.all (letOk w caps ps))
  | [] => rfl
  | q :: qs => by
    rw [List.all_cons, List.any_cons, List.all_cons, dodge_split w caps goal ps qs]
    show ((!atG goal q && letOk w caps ps q) && _) = _
    cases atG goal q <;> cases letOk w caps ps q <;> cases qs.any (atG goal) <;> rfl
section
variable {wf n : Nat} {s : S}
theorem c_law_is_dodge (W : Wf s) {w : Wea} (h : w.Ok) {caps : List Int} (hc : CapOk w caps) {goal : Pl} {v : Vl} (hv : VlK v) : callN tab wf (n + 3) 80 [eW w, eT caps, enc goal, .lst ((placesOf w.sd caps).map enc), v.d] s = .ok (.bl (dodgeB w caps goal v)) s := by
  have hP := places_600 h hc
  have hshown : ∀ y ∈ (placesOf w.sd caps).map (fun p => PyData.shown (Datum.toD p)), PyData.strOk y = true := fun y hy => by
    obtain ⟨p, hp, rfl⟩ := List.mem_map.mp hy
    exact (Fit_place h hc hp).ok
  have eS : ((placesOf w.sd caps).map fun p => D.str (PyData.shown (Datum.toD p))) = ((placesOf w.sd caps).map fun p => PyData.shown (Datum.toD p)).map D.str := by rw [List.map_map]; rfl
  refine call_W t__law_is_dodge rfl W rfl ?_
  simp only [↓wS, ↓wE, ↓wC, ↓wI, wV, wX, wM, wY, wB, wK, wT, b__law_is_dodge]
  refine ⟨by omega, W_map (fun p => .str (PyData.shown (Datum.toD p))) (fun p hp => by simp only [↓wS, ↓wE, ↓wC, ↓wI, wV, wX, wM, wY, wB, wK, v_repr (py_en s p) ((Fit_place h hc hp).mono (by decide) (by decide))]) ?_⟩
  rw [eS]
  simp only [↓wS, ↓wE, ↓wC, ↓wI, wV, wX, wM, wY, wB, wK, Vl.tyOf]
  cases v with
  | non => simp only [↓wS, ↓wE, ↓wC, ↓wI, wV, wX, wM, wY, wB, wK, Vl.ty, wO, dodgeB]
  | int i => simp only [↓wS, ↓wE, ↓wC, ↓wI, wV, wX, wM, wY, wB, wK, Vl.ty, wO, dodgeB]
  | rows tl rs =>
    have hl := hv.2
    have e1 : (Ty.isa (Vl.rows tl rs).ty .lst || Ty.isa (Vl.rows tl rs).ty .tup) = true := by cases tl <;> rfl
    simp only [↓wS, ↓wE, ↓wC, ↓wI, wV, wX, wM, wY, wB, wK, e1]
    simp only [↓wS, ↓wE, ↓wC, ↓wI, wV, wX, wM, wY, wB, wK, Vl.walk]
    refine ⟨by omega, W_neNy (fun r : Rw => !withinR w.sd caps r) Rw.d Rw.y (fun r _ => py_row r) (fun r hr => Rw.lay (hv.1 r hr).ok) (fun r _ => Nat.le_trans Rw.depth (by decide)) (fun r hr => ?_) ?_⟩
    · have hfit : Fit 16777216 64 r.y := (hv.1 r hr).fit.mono (by decide) (by decide)
      simp only [↓wS, ↓wE, ↓wC, ↓wI, wV, wX, wM, wY, wB, wK, v_repr (py_row r) hfit]
      rw [c_notinstr hfit.ok hshown, isin_row (hv.1 r hr).gd]
      exact brT_if rfl fun _ => by simp only [↓wS, ↓wE, ↓wC, ↓wI, wV, wX, wM, wY, wB, wK]
    · have eA : (rs.any fun r : Rw => !withinR w.sd caps r) = !rs.all (withinR w.sd caps) := by rw [List.not_all_eq_any_not]
      rw [eA]
      cases hA : rs.all (withinR w.sd caps) with
      | false => simp only [↓wS, ↓wE, ↓wC, ↓wI, wV, wX, wM, wY, wB, wK, dodge_none hA, wO]
      | true =>
        obtain ⟨ps, rfl, hps⟩ := all_within hA
        rw [List.length_map] at hl
        rw [vP_eq, dodge_map, hps]
        simp only [↓wS, ↓wE, ↓wC, ↓wI, wV, wX, wM, wY, wB, wK, vP_slice, vP_walkS, vP_tup, zipD_map]
        refine ⟨by rw [List.length_zip]; omega, W_neN (fun q : Pl × Pl => !DatumOrd.lt q.1 q.2) (fun q => q.1) (fun q _ => ?_) ?_⟩
        · simp only [↓wS, ↓wE, ↓wC, ↓wI, wV, wX, wM, wY, wB, wK]
          exact brT_if rfl fun _ => by simp only [↓wS, ↓wE, ↓wC, ↓wI, wV, wX, wM, wY, wB, wK]
        have eB : ((ps.zip (ps.drop 1)).any fun q : Pl × Pl => !DatumOrd.lt q.1 q.2) = !riseP ps := by unfold riseP; rw [List.not_all_eq_any_not]
        rw [eB]
        have hpl : ∀ p ∈ ps, p.2.items.length ≤ 64 := fun p hp => by
          have := within_len (List.all_eq_true.mp hps p hp)
          have := caps_len h hc
          omega
        refine brOr_pure (ps.any (atG goal)) (fun _ => ?_) ?_
        · simp only [↓wS, ↓wE, ↓wC, ↓wI, wV, wX, wM, wY, wB, wK, vP_walk]
          refine ⟨by omega, W_neN (atG goal) (fun p => p) (fun p hp => ?_) ?_⟩
          · simp only [↓wS, ↓wE, ↓wC, ↓wI, wV, wX, wM, wY, wB, wK, c_law_at (goal := goal) W (hpl p hp)]
            exact brT_if rfl fun _ => by simp only [↓wS, ↓wE, ↓wC, ↓wI, wV, wX, wM, wY, wB, wK]
          · simp only [↓wS, ↓wE, ↓wC, ↓wI, wV, wX, wM, wY, wB, wK]
        rw [dodge_split]
        simp only [↓wS, ↓wE, ↓wC, ↓wI, wV, wX, wM, wY, wB, wK]
        refine brS_by (fun hb => ?_) (fun hb => ?_)
        · have : (riseP ps && (!ps.any (atG goal) && ps.all (letOk w caps ps))) = false := by
            cases e1 : riseP ps with
            | false => rfl
            | true =>
              rw [e1] at hb
              have hb : ps.any (atG goal) = true := hb
              rw [hb]
              rfl
          rw [this]
          simp only [↓wS, ↓wE, ↓wC, ↓wI, wV, wX, wM, wY, wB, wK, wO]
        · have hb2 : riseP ps = true ∧ ps.any (atG goal) = false := by
            cases e1 : riseP ps with
            | false => rw [e1] at hb; cases hb
            | true => rw [e1] at hb; exact ⟨rfl, hb⟩
          rw [hb2.1, hb2.2]
          simp only [↓wS, ↓wE, ↓wC, ↓wI, wV, wX, wM, wY, wB, wK, vP_walk]
          refine W_fall (letOk w caps ps) (fun τ t => s = t ∧ ∃ o6 o7, τ = [some (eW w), some (eT caps), some (enc goal), some (.lst ((placesOf w.sd caps).map enc)), some (vP tl ps), some (.lst (((placesOf w.sd caps).map fun p => PyData.shown (Datum.toD p)).map D.str)), o6, o7, none, none]) (fun d t => d = .bl false ∧ Over s t) ⟨rfl, none, none, rfl⟩ ?_ ?_ ?_
          · rintro p hp τ t ⟨rfl, o6, o7, rfl⟩
            have hll := letL_len w p
            have hsl := h.sl
            simp only [↓wS, ↓wE, ↓wC, ↓wI, wV, wX, wM, wY, wB, wK, c_law_let W h (hpl p hp)]
            refine W_fall (fun i => anyIn (comesL w caps p i) ps) (fun τ t => s = t ∧ ∃ o7, τ = [some (eW w), some (eT caps), some (enc goal), some (.lst ((placesOf w.sd caps).map enc)), some (vP tl ps), some (.lst (((placesOf w.sd caps).map fun p => PyData.shown (Datum.toD p)).map D.str)), some (enc p), o7, none, none]) (fun d t => d = .bl false ∧ Over s t) ⟨rfl, o7, rfl⟩ ?_ ?_ ?_
            · rintro i hi τ t ⟨rfl, o7, rfl⟩
              obtain ⟨t, h0, h1, h2, h3⟩ := letL_comes h hi
              have hgl := comes_len h (caps := caps) (p := p) (i := i)
              simp only [↓wS, ↓wE, ↓wC, ↓wI, wV, wX, wM, wY, wB, wK, c_comes_out W h hc h0 h1, ← h3]
              refine ⟨by omega, W_eqN (fun q => isin q ps) (fun q => q) (fun q _ => ?_) ?_⟩
              · simp only [↓wS, ↓wE, ↓wC, ↓wI, wV, wX, wM, wY, wB, wK]
                rw [vP_has]
                exact brT_if rfl fun _ => by simp only [↓wS, ↓wE, ↓wC, ↓wI, wV, wX, wM, wY, wB, wK]
              · simp only [↓wS, ↓wE, ↓wC, ↓wI, wV, wX, wM, wY, wB, wK]
                refine brS_by (fun hq => ?_) (fun hq => ?_)
                · rw [Bool.not_eq_true'] at hq
                  simp only [↓wS, ↓wE, ↓wC, ↓wI, wV, wX, wM, wY, wB, wK]
                  exact ⟨hq, Over.refl _⟩
                · rw [Bool.not_eq_false'] at hq
                  simp only [↓wS, ↓wE, ↓wC, ↓wI, wV, wX, wM, wY, wB, wK]
                  exact ⟨hq, _, rfl⟩
            · rintro ha τ t ⟨rfl, o7, rfl⟩
              simp only [↓wS, ↓wE, ↓wC, ↓wI, wV, wX, wM, wY, wB, wK]
              exact ⟨ha, _, _, rfl⟩
            · rintro ha d t ⟨rfl, o⟩
              exact ⟨ha, rfl, o⟩
          · rintro ha τ t ⟨rfl, o6, o7, rfl⟩
            simp only [↓wS, ↓wE, ↓wC, ↓wI, wV, wX, wM, wY, wB, wK, ha, wO]
          · rintro ha d t ⟨rfl, o⟩
            rw [ha]
            exact ⟨rfl, o⟩
end
end Mi.L86
set_option Elab.async false
set_option linter.all false
set_option maxRecDepth 100000
set_option maxHeartbeats 400000
namespace Mi.L86
open PySem PySem.W
open Mi.En (enc)
/-! ### what is drawn -/
section
variable {wf n : Nat} {s : S} {p : Nat}
theorem ints_low' {m : Nat} {b : Bool} {xs : List Int} : belowC m (.lst b (xs.map enc)) = true := lows_map m xs
theorem mulOk_r {i j : Int} (h0 : -18446744073709551616 < j) (h1 : j < 18446744073709551616) : mulOk i j = true := by
  simp only [mulOk, Bool.or_eq_true, Bool.and_eq_true, decide_eq_true_eq]
  right
  omega
theorem mulOk_l {i j : Int} (h0 : -18446744073709551616 < i) (h1 : i < 18446744073709551616) : mulOk i j = true := by
  simp only [mulOk, Bool.or_eq_true, Bool.and_eq_true, decide_eq_true_eq]
  left
  omega
theorem c_draw (hp : PotAt s p) {m : Int} (h0 : 0 < m) (h1 : m < 1073741824) : (callN tab wf (n + 1) 38 [.ref p, .int m] s).W fun d t => ∃ v, d = .int v ∧ 0 ≤ v ∧ v < m ∧ Mv s p t := by
  refine call_Wex t__law_draw rfl ?_
  obtain ⟨a, b, e⟩ := hp.at_
  unfold pc at e
  simp only [↓wS, ↓wE, ↓wC, ↓wI, wV, wX, wM, wY, wB, wK, wT, b__law_draw, e]
  have g1 : ∀ x y, (s.put p (.lst false [.int x, .int y])).get p = some (.lst false [.int x, .int y]) := fun x y => get_put e
  refine brS_by (fun hq => ?_) (fun hq => ?_)
  · simp only [↓wS, ↓wE, ↓wC, ↓wI, wV, wX, wM, wY, wB, wK, e]
    exact ⟨⟨h0, h1⟩, s.put p (pc _ _), rfl, hp.wf.put pc_low, Over.refl _, rfl, _, rfl, Int.emod_nonneg _ (by omega), Int.emod_lt_of_pos _ h0, _, _, rfl⟩
  · simp only [↓wS, ↓wE, ↓wC, ↓wI, wV, wX, wM, wY, wB, wK, e]
    refine ⟨mulOk_r (by decide) (by decide), by decide, ?_⟩
    simp only [↓wS, ↓wE, ↓wC, ↓wI, wV, wX, wM, wY, wB, wK, e, g1]
    refine ⟨mulOk_r (by omega) (by omega), by decide, ⟨by decide, by decide⟩, h0, ?_⟩
    exact ⟨s.put p (pc _ _), rfl, hp.wf.put pc_low, Over.refl _, rfl, _, rfl, Int.emod_nonneg _ (by omega), Int.emod_lt_of_pos _ h0, _, _, rfl⟩
theorem c_pick (hp : PotAt s p) {ds : List D} (h0 : 0 < ds.length) (h1 : ds.length < 1073741824) (hb : ∀ d ∈ ds, below s.nx d = true) : (callN tab wf (n + 2) 39 [.ref p, .lst ds] s).W fun d t => d ∈ ds ∧ Mv s p t := by
  refine call_Wex t__law_pick rfl ?_
  simp only [↓wS, ↓wE, ↓wC, ↓wI, wV, wX, wM, wY, wB, wK, wT, b__law_pick]
  refine (c_draw hp (by omega) (by omega)).mono ?_
  rintro d t ⟨v, rfl, hv0, hv1, hm⟩
  have hlt : v.toNat < ds.length := by omega
  have hg : ds[v.toNat]? = some (ds[v.toNat]'hlt) := List.getElem?_eq_getElem hlt
  simp only [↓wS, ↓wE, ↓wC, ↓wI, wV, wX, wM, wY, wB, wK, at_of hv0, hg]
  have hmem := List.getElem_mem hlt
  have hnx := hm.nx
  exact ⟨t, hnx, (hp.mv hm).wf, Over.refl t, hb _ hmem, hmem, hm⟩
/-- an outcome that is drawn -/
structure OutOk (sd : Int) (wants : List Int) (o : Pl) : Prop where
  g : 0 ≤ o.1 ∧ o.1 < sd
  l : o.2.items.length = wants.length
  e : ∀ x ∈ o.2.items, -3 ≤ x ∧ x ≤ 3
  w : ∀ q ∈ wants.zip o.2.items, 0 ≤ q.1 + q.2
theorem zip_snoc {α β : Type} {a : α} {b : β} : ∀ {xs : List α} {ys : List β}, ys.length = xs.length → (xs ++ [a]).zip (ys ++ [b]) = xs.zip ys ++ [(a, b)]
  | [], [], _ => rfl
  | x :: xs, y :: ys, h => by
    simp only [List.cons_append, List.zip_cons_cons]
    rw [zip_snoc (by simpa using h)]
theorem c_outcome_d (hp : PotAt s p) {sd : Int} (h0 : 0 < sd) (h1 : sd ≤ 64) {wants : List Int} (hl : wants.length ≤ 3) (hw : ∀ x ∈ wants, 0 ≤ x ∧ x ≤ 3) : (callN tab wf (n + 3) 40 [.ref p, .int sd, eT wants] s).W fun d t => ∃ o, d = enc o ∧ OutOk sd wants o ∧ Mv s p t := by
  refine call_Wex t__law_outcome rfl ?_
  simp only [↓wS, ↓wE, ↓wC, ↓wI, wV, wX, wM, wY, wB, wK, wT, b__law_outcome, wW]
  refine W_for (fun pre τ t => ∃ (xs : List Int) (u : S) (o : Option D), Mv s p u ∧ t = u.add (.lst false (xs.map enc)) ∧ xs.length = pre.length ∧ (∀ x ∈ xs, -3 ≤ x ∧ x ≤ 3) ∧ (∀ q ∈ pre.zip xs, 0 ≤ q.1 + q.2) ∧ τ = [some (.ref p), some (.int sd), some (eT wants), some (.ref s.nx), o]) ⟨[], s, none, Mv.refl hp, rfl, rfl, (fun _ h => by cases h), (fun _ h => by cases h), rfl⟩ ?_ ?_
  · rintro pre x post τ t hx ⟨xs, u, o, hm, rfl, hxl, hxe, hxw, rfl⟩
    have hxr := hw x (by rw [hx]; simp)
    have hpl : pre.length < 3 := by rw [hx] at hl; simp at hl; omega
    have hpu : PotAt (u.add (.lst false (xs.map enc))) p := (hp.mv hm).add ints_low'
    have enx : u.nx = s.nx := hm.nx
    rw [← enx]
    simp only [↓wS, ↓wE, ↓wC, ↓wI, wV, wX, wM, wY, wB, wK]
    refine (c_draw hpu (by omega) (by omega)).mono ?_
    rintro d t ⟨v, rfl, hv0, hv1, hm2⟩
    have hpt := hpu.mv hm2
    simp only [↓wS, ↓wE, ↓wC, ↓wI, wV, wX, wM, wY, wB, wK]
    refine (c_pick hpt (by simp) (by simp) (by intro d hd; simp at hd; rcases hd with rfl | rfl | rfl | rfl <;> rfl)).mono ?_
    rintro d t2 ⟨hd, hm3⟩
    obtain ⟨u2, hm4, rfl⟩ := Mv.add (hp.mv hm) (hm2.trans hm3)
    have hy : ∃ y, d = .int y ∧ -3 ≤ y ∧ y ≤ 3 ∧ 0 ≤ x + y := by
      simp at hd
      rcases hd with rfl | rfl | rfl | rfl
      · exact ⟨0, rfl, by omega, by omega, by omega⟩
      · exact ⟨1, rfl, by omega, by omega, by omega⟩
      · exact ⟨_, rfl, by omega, by omega, by omega⟩
      · exact ⟨_, rfl, by omega, by omega, by omega⟩
    obtain ⟨y, rfl, hy0, hy1, hy2⟩ := hy
    have enx2 : u.nx = u2.nx := hm4.nx.symm
    rw [enx2]
    simp only [↓wS, ↓wE, ↓wC, ↓wI, wV, wX, wM, wY, wB, wK]
    refine ⟨by omega, xs ++ [y], u2, some (.int x), hm.trans hm4, by simp [e_int], by simp [hxl], ?_, ?_, ?_⟩
    · intro z hz
      rcases List.mem_append.mp hz with hz | hz
      · exact hxe z hz
      · rw [List.mem_singleton.mp hz]; exact ⟨hy0, hy1⟩
    · rw [zip_snoc hxl]
      intro q hq
      rcases List.mem_append.mp hq with hq | hq
      · exact hxw q hq
      · rw [List.mem_singleton.mp hq]; exact hy2
    · rw [← enx2, enx]
  · rintro τ t ⟨xs, u, o, hm, rfl, hxl, hxe, hxw, rfl⟩
    have enx : u.nx = s.nx := hm.nx
    rw [← enx]
    simp only [↓wS, ↓wE, ↓wC, ↓wI, wV, wX, wM, wY, wB, wK]
    have hpu : PotAt (u.add (.lst true (xs.map enc))) p := (hp.mv hm).add ints_low'
    refine (c_draw (n := n + 1) (wf := wf) hpu h0 (show sd < 1073741824 by omega)).mono ?_
    rintro d t ⟨v, rfl, hv0, hv1, hm2⟩
    obtain ⟨u2, hm4, rfl⟩ := Mv.add (hp.mv hm) hm2
    simp only [↓wS, ↓wE, ↓wC, ↓wI, wV, wX, wM, wY, wB, wK]
    have hm5 := hm.trans hm4
    refine ⟨u2, by rw [hm5.nx, enx], (hp.mv hm5).wf, Over.add (Over.refl _), ?_, (v, ⟨xs⟩), rfl, ⟨⟨hv0, hv1⟩, hxl, hxe, hxw⟩, hm5⟩
    show (below u.nx (.int v) && (below u.nx (.tup (xs.map enc)) && true)) = true
    rw [show below u.nx (.tup (xs.map enc)) = true from lows_map _ _]
    rfl
end
end Mi.L86
set_option Elab.async false
set_option linter.all false
set_option maxRecDepth 100000
set_option maxHeartbeats 400000
namespace Mi.L86
open PySem PySem.W
open Mi.En (enc)
/-! ### weather farms, caps that are drawn -/
def Stp.Dr (t : Stp) : Prop := (∀ x ∈ t.wants, x ≤ 3) ∧ (∀ o ∈ t.outs, ∀ x ∈ o.2.items, -3 ≤ x ∧ x ≤ 3)
structure DrawnW (A B C : Int) (w : Wea) : Prop where
  ok : w.Ok
  sd : w.sd ≤ A
  sk : w.sk ≤ B
  sl : (w.steps.length : Int) ≤ C
  dr : ∀ t ∈ w.steps, t.Dr
theorem stp_of_outs {sd sk : Int} {wants : List Int} {at_ : Int} {outs : List Pl} (h0 : 0 ≤ at_) (h1 : at_ < sd) (hl : (wants.length : Int) = sk) (hw : ∀ x ∈ wants, 0 ≤ x ∧ x ≤ 3) (o1 : 1 ≤ outs.length) (o3 : outs.length ≤ 3) (ho : ∀ o ∈ outs, OutOk sd wants o) : Stp.Ok sd sk ⟨at_, wants, outs⟩ ∧ Stp.Dr ⟨at_, wants, outs⟩ :=
  ⟨⟨h0, h1, hl, fun x hx => by have := hw x hx; omega, o1, o3, fun o h => (ho o h).g, fun o h => by have h2 := (ho o h).l; show (o.2.items.length : Int) = sk; omega, fun o h x hx => by have := (ho o h).e x hx; omega, fun o h q hq => (ho o h).w q hq⟩,
    fun x hx => (hw x hx).2, fun o h x hx => (ho o h).e x hx⟩
theorem steps_low {m : Nat} {b : Bool} {ts : List Stp} : belowC m (.lst b (ts.map eS)) = true := by
  show belows m (ts.map eS) = true
  induction ts with
  | nil => rfl
  | cons t ts ih =>
    show (below m (eS t) && belows m (ts.map eS)) = true
    rw [ih]
    show ((true && (true && (belows m (t.wants.map enc) && (belows m (t.outs.map enc) && true)))) && true) = true
    rw [lows_map, lows_map]
    rfl
theorem weather_low {m : Nat} {w : Wea} : below m (eW w) = true := by
  show (true && (true && (true && (belows m (w.steps.map eS) && true)))) = true
  rw [show belows m (w.steps.map eS) = true from steps_low (b := false)]
  rfl
section
variable {wf n : Nat} {s : S} {p : Nat}
theorem c_weather_d (hp : PotAt s p) {A B C : Int} (hA : 1 ≤ A ∧ A ≤ 6) (hB : 1 ≤ B ∧ B ≤ 3) (hC : 0 ≤ C ∧ C ≤ 8) : (callN tab wf (n + 4) 41 [.ref p, .int A, .int B, .int C] s).W fun d t => ∃ w, d = eW w ∧ DrawnW A B C w ∧ Mv s p t := by
  refine call_Wex t__law_weather rfl ?_
  simp only [↓wS, ↓wE, ↓wC, ↓wI, wV, wX, wM, wY, wB, wK, wT, b__law_weather]
  refine (c_draw (n := n + 2) hp (by omega) (by omega)).mono ?_
  rintro d t ⟨sd, rfl, hsd0, hsd1, hm⟩
  simp only [↓wS, ↓wE, ↓wC, ↓wI, wV, wX, wM, wY, wB, wK]
  refine (c_draw (n := n + 2) (hp.mv hm) (by omega) (by omega)).mono ?_
  rintro d t2 ⟨sk, rfl, hsk0, hsk1, hm2⟩
  have hm := hm.trans hm2
  clear hm2
  simp only [↓wS, ↓wE, ↓wC, ↓wI, wV, wX, wM, wY, wB, wK]
  have enx : t2.nx = s.nx := hm.nx
  refine (c_draw (n := n + 2) ((hp.mv hm).add (c := .lst false []) rfl) (by omega) (by omega)).mono ?_
  rintro d t3 ⟨k, rfl, hk0, hk1, hm2⟩
  obtain ⟨u, hm3, rfl⟩ := Mv.add (hp.mv hm) hm2
  have hm := hm.trans hm3
  clear hm2 hm3
  simp only [↓wS, ↓wE, ↓wC, ↓wI, wV, wX, wM, wY, wB, wK, rangeD_up]
  rw [enx]
  refine ⟨by omega, W_for (fun pre τ t => ∃ (ts : List Stp) (u : S) (o7 o8 o9 : Option D), Mv s p u ∧ t = u.add (.lst false (ts.map eS)) ∧ ts.length = pre.length ∧ (∀ t ∈ ts, t.Ok (1 + sd) (1 + sk) ∧ t.Dr) ∧ τ = [some (.ref p), some (.int A), some (.int B), some (.int C), some (.int (1 + sd)), some (.int (1 + sk)), some (.ref s.nx), o7, o8, o9, none, none]) ⟨[], u, none, none, none, hm, rfl, rfl, (fun _ h => by cases h), rfl⟩ ?_ ?_⟩
  · rintro pre x post τ t hx ⟨ts, u, o7, o8, o9, hm, rfl, htl, hts, rfl⟩
    have hpl : pre.length < 8 := by
      have := congrArg List.length hx
      rw [up_len] at this
      simp at this
      omega
    have enx : u.nx = s.nx := hm.nx
    rw [← enx]
    simp only [↓wS, ↓wE, ↓wC, ↓wI, wV, wX, wM, wY, wB, wK, rangeD_up]
    refine ⟨by omega, by rw [up_len]; omega, ?_⟩
    refine W_ex (fun t => ∃ u, Mv s p u ∧ t = u.add (.lst false (ts.map eS))) (fun y : Int => 0 ≤ y ∧ y ≤ 3) (enc : Int → D) ⟨u, hm, rfl⟩ ?_ ?_
    · rintro i hi t ⟨u, hm, rfl⟩
      have hpu := (hp.mv hm).add (c := .lst false (ts.map eS)) steps_low
      simp only [↓wS, ↓wE, ↓wC, ↓wI, wV, wX, wM, wY, wB, wK]
      refine (c_draw (n := n + 2) hpu (by omega) (by omega)).mono ?_
      rintro d t ⟨v, rfl, hv0, hv1, hm2⟩
      have hpt := hpu.mv hm2
      simp only [↓wS, ↓wE, ↓wC, ↓wI, wV, wX, wM, wY, wB, wK]
      refine (c_pick (n := n + 1) hpt (by simp) (by simp) (by intro d hd; simp at hd; rcases hd with rfl | rfl | rfl <;> rfl)).mono ?_
      rintro d t2 ⟨hd, hm3⟩
      obtain ⟨u2, hm4, rfl⟩ := Mv.add (hp.mv hm) (hm2.trans hm3)
      have hy : ∃ y, d = .int y ∧ 0 ≤ y ∧ y ≤ 3 := by
        simp at hd
        rcases hd with rfl | rfl | rfl
        · exact ⟨0, rfl, by omega, by omega⟩
        · exact ⟨1, rfl, by omega, by omega⟩
        · exact ⟨_, rfl, by omega, by omega⟩
      obtain ⟨y, rfl, hy0, hy1⟩ := hy
      simp only [↓wS, ↓wE, ↓wC, ↓wI, wV, wX, wM, wY, wB, wK]
      exact ⟨y, rfl, ⟨u2, hm.trans hm4, rfl⟩, hy0, hy1⟩
    · rintro wants t hwl hwr ⟨u1, hm1, rfl⟩
      rw [up_len] at hwl
      have enx1 : u.nx = u1.nx := by rw [enx, hm1.nx]
      rw [enx1]
      simp only [↓wS, ↓wE, ↓wC, ↓wI, wV, wX, wM, wY, wB, wK]
      have hpu := (hp.mv hm1).add (c := .lst false (ts.map eS)) steps_low
      refine (c_draw (n := n + 2) hpu (by omega) (by omega)).mono ?_
      rintro d t ⟨v, rfl, hv0, hv1, hm2⟩
      obtain ⟨u2, hm3, rfl⟩ := Mv.add (hp.mv hm1) hm2
      have hm2 := hm1.trans hm3
      simp only [↓wS, ↓wE, ↓wC, ↓wI, wV, wX, wM, wY, wB, wK, rangeD_up]
      refine ⟨by omega, by rw [up_len]; omega, ?_⟩
      refine W_ex (fun t => ∃ u, Mv s p u ∧ t = u.add (.lst false (ts.map eS))) (OutOk (1 + sd) wants) (enc : Pl → D) ⟨u2, hm2, rfl⟩ ?_ ?_
      · rintro i hi t ⟨u, hm, rfl⟩
        have hpu := (hp.mv hm).add (c := .lst false (ts.map eS)) steps_low
        simp only [↓wS, ↓wE, ↓wC, ↓wI, wV, wX, wM, wY, wB, wK]
        refine (c_outcome_d (n := n) (wf := wf) hpu (show 0 < 1 + sd by omega) (by omega) (show wants.length ≤ 3 by omega) hwr).mono ?_
        rintro d t ⟨o, rfl, ho, hm2⟩
        obtain ⟨u3, hm4, rfl⟩ := Mv.add (hp.mv hm) hm2
        simp only [↓wS, ↓wE, ↓wC, ↓wI, wV, wX, wM, wY, wB, wK]
        exact ⟨o, rfl, ⟨u3, hm.trans hm4, rfl⟩, ho⟩
      · rintro outs t hol hor ⟨u3, hm4, rfl⟩
        rw [up_len] at hol
        have enx3 : u1.nx = u3.nx := by rw [← enx1, enx, hm4.nx]
        rw [enx3]
        simp only [↓wS, ↓wE, ↓wC, ↓wI, wV, wX, wM, wY, wB, wK]
        have hpu := (hp.mv hm4).add (c := .lst false (ts.map eS)) steps_low
        refine (c_draw (n := n + 2) hpu (by omega) (by omega)).mono ?_
        rintro d t ⟨at_, rfl, ha0, ha1, hm5⟩
        obtain ⟨u5, hm6, rfl⟩ := Mv.add (hp.mv hm4) hm5
        have enx5 : u3.nx = u5.nx := hm6.nx.symm
        rw [enx5]
        simp only [↓wS, ↓wE, ↓wC, ↓wI, wV, wX, wM, wY, wB, wK]
        obtain ⟨h1, h2⟩ := stp_of_outs (sd := 1 + sd) (sk := 1 + sk) (wants := wants) (at_ := at_) (outs := outs) ha0 ha1 (by omega) hwr (by omega) (by omega) hor
        refine ⟨by omega, ts ++ [⟨at_, wants, outs⟩], u5, some (.int x), some (.tup (wants.map enc)), some (.tup (outs.map enc)), hm4.trans hm6, ?_, by simp [htl], ?_, rfl⟩
        · rw [List.map_append]
          rfl
        · intro z hz
          rcases List.mem_append.mp hz with hz | hz
          · exact hts z hz
          · rw [List.mem_singleton.mp hz]
            exact ⟨h1, h2⟩
  · rintro τ t ⟨ts, u, o7, o8, o9, hm, rfl, htl, hts, rfl⟩
    rw [up_len] at htl
    have enx : u.nx = s.nx := hm.nx
    rw [← enx]
    simp only [↓wS, ↓wE, ↓wC, ↓wI, wV, wX, wM, wY, wB, wK]
    refine ⟨u, rfl, (hp.mv hm).wf, Over.add (Over.refl _), weather_low (w := ⟨1 + sd, 1 + sk, ts⟩), ⟨1 + sd, 1 + sk, ts⟩, rfl, ⟨⟨by show 1 ≤ 1 + sd; omega, by show 1 + sd ≤ 6; omega, by show 1 ≤ 1 + sk; omega, by show 1 + sk ≤ 3; omega, by show ts.length ≤ 8; omega, fun t ht => (hts t ht).1⟩, by show 1 + sd ≤ A; omega, by show 1 + sk ≤ B; omega, by show (ts.length : Int) ≤ C; omega, fun t ht => (hts t ht).2⟩, hm⟩
theorem c_caps_d (hp : PotAt s p) {w : Wea} (hw : w.Ok) (h3 : w.sd ≤ 3) : (callN tab wf (n + 2) 42 [.ref p, eW w] s).W fun d t => ∃ caps, d = eT caps ∧ CapOk w caps ∧ (∀ c ∈ caps, c ≤ 5) ∧ (w.sk = 2 → ∀ c ∈ caps, c ≤ 4) ∧ (w.sk = 3 → ∀ c ∈ caps, c ≤ 2) ∧ Mv s p t := by
  refine call_Wex t__law_caps rfl ?_
  have k1 := hw.sk1
  have k3 := hw.sk3
  have hsd1 := hw.sd1
  simp only [↓wS, ↓wE, ↓wC, ↓wI, wV, wX, wM, wY, wB, wK, wT, b__law_caps, wW, rangeD_up]
  obtain ⟨L, hL⟩ : ∃ L : Int, L = (if w.sk = 1 then 6 else if w.sk = 2 then 5 else 3) := ⟨_, rfl⟩
  have hL3 : L ≤ 6 ∧ 3 ≤ L := by rw [hL]; split <;> (try split) <;> omega
  have hix : ∀ (s : S) (Q : VQ), (evIx (.lst [.int 6, .int 5, .int 3]) (.int (w.sk - 1)) s).W Q = Q (.int L) s := by
    intro s Q
    have : w.sk = 1 ∨ w.sk = 2 ∨ w.sk = 3 := by omega
    rcases this with h | h | h <;> rw [hL, h] <;> rfl
  refine ⟨by omega, by rw [up_len]; omega, ?_⟩
  refine W_ex (fun t => Mv s p t) (fun y : Int => 0 ≤ y ∧ y < L) (enc : Int → D) (Mv.refl hp) ?_ ?_
  · rintro i hi t hm
    simp only [↓wS, ↓wE, ↓wC, ↓wI, wV, wX, wM, wY, wB, wK, wW, hix]
    refine (c_draw (n := n) (hp.mv hm) (by omega) (by omega)).mono ?_
    rintro d t2 ⟨v, rfl, hv0, hv1, hm2⟩
    simp only [↓wS, ↓wE, ↓wC, ↓wI, wV, wX, wM, wY, wB, wK]
    exact ⟨v, rfl, hm.trans hm2, hv0, hv1⟩
  · rintro caps t hl hr hm
    rw [up_len] at hl
    simp only [↓wS, ↓wE, ↓wC, ↓wI, wV, wX, wM, wY, wB, wK]
    have hbd : ∀ c ∈ caps, 0 ≤ c ∧ c < L := hr
    have hlen : (caps.length : Int) = w.sk := by omega
    have hfew : many w.sd caps ≤ 600 := by
      have hs : w.sd * 1 ≤ 3 := by omega
      have mulb : ∀ (a c M N : Int), 0 ≤ a → a ≤ M → 0 ≤ c → c + 1 ≤ N → 0 ≤ a * (c + 1) ∧ a * (c + 1) ≤ M * N := by
        intro a c M N h1 h2 h3 h4
        exact ⟨Int.mul_nonneg h1 (by omega), Int.mul_le_mul h2 h4 (by omega) (by omega)⟩
      have : w.sk = 1 ∨ w.sk = 2 ∨ w.sk = 3 := by omega
      rcases this with h | h | h
      · have hl1 : caps.length = 1 := by omega
        rw [h] at hL
        simp at hL
        match caps, hl1 with
        | [a], _ =>
          have ha := hbd a (by simp)
          have := mulb w.sd a 3 6 (by omega) (by omega) ha.1 (by omega)
          show w.sd * (a + 1) ≤ 600
          omega
      · have hl1 : caps.length = 2 := by omega
        rw [h] at hL
        simp at hL
        match caps, hl1 with
        | [a, b], _ =>
          have ha := hbd a (by simp)
          have hb := hbd b (by simp)
          have h1 := mulb w.sd a 3 5 (by omega) (by omega) ha.1 (by omega)
          have h2 := mulb (w.sd * (a + 1)) b 15 5 (by omega) (by omega) hb.1 (by omega)
          show w.sd * (a + 1) * (b + 1) ≤ 600
          omega
      · have hl1 : caps.length = 3 := by omega
        rw [h] at hL
        simp at hL
        match caps, hl1 with
        | [a, b, c], _ =>
          have ha := hbd a (by simp)
          have hb := hbd b (by simp)
          have hc := hbd c (by simp)
          have h1 := mulb w.sd a 3 3 (by omega) (by omega) ha.1 (by omega)
          have h2 := mulb (w.sd * (a + 1)) b 9 3 (by omega) (by omega) hb.1 (by omega)
          have h3 := mulb (w.sd * (a + 1) * (b + 1)) c 27 3 (by omega) (by omega) hc.1 (by omega)
          show w.sd * (a + 1) * (b + 1) * (c + 1) ≤ 600
          omega
    have hL' := hL
    refine ⟨t, hm.nx, (hp.mv hm).wf, Over.refl _, lows_map _ _, caps, rfl, ⟨hlen, fun c hc => by have := hbd c hc; omega, hfew⟩, fun c hc => by have := hbd c hc; omega, fun h2 c hc => ?_, fun h2 c hc => ?_, hm⟩
    · have := hbd c hc
      rw [h2] at hL
      simp at hL
      omega
    · have := hbd c hc
      rw [h2] at hL
      simp at hL
      omega
theorem allInt_map (ns : List Int) : allInt (ns.map .int) = some ns := by
  induction ns with
  | nil => rfl
  | cons n ns ih => rw [List.map_cons, allInt, ih]; rfl
theorem v_sum {s : S} {Q : VQ} {d : D} {ns : List Int} (h : (s.items d).bind allInt = some ns) : (evBi .sum [d] s).W Q = Q (.int ns.sum) s := by
  have e : evBi .sum [d] s = match (s.items d).bind allInt with | some ns => .ok (.int ns.sum) s | none => .stuck := rfl
  rw [e, h]
  rfl
theorem cutD_map {α : Type} (f : α → D) (xs : List α) (lo hi : Option Int) : ∃ ys : List α, cutD (xs.map f) lo hi = ys.map f :=
  ⟨(xs.drop (HT.sIx xs.length 0 lo)).take (HT.sIx xs.length xs.length hi - HT.sIx xs.length 0 lo), by
    unfold cutD
    rw [List.length_map, ← List.map_drop, ← List.map_take]⟩
theorem c_pot (W : Wf s) {ns : List Int} {k : Int} (h0 : 0 ≤ k) (h1 : k ≤ 100) : ∃ a b, callN tab wf (n + 1) 37 [.inp ns, .int k] s = .ok (.ref s.nx) (s.add (pc a b)) := by
  have hex : ∃ a b, evSs (cc tab wf n) b__law_pot (startT 3 [.inp ns, .int k]) s = .rt (.ref s.nx) (s.add (pc a b)) := by
    have hW : (evSs (cc tab wf n) b__law_pot (startT 3 [.inp ns, .int k]) s).W noT (fun d t => ∃ a b, d = .ref s.nx ∧ t = s.add (pc a b)) noT noT := by
      simp only [↓wS, ↓wE, ↓wC, ↓wI, wV, wX, wM, wY, wB, wK, wT, b__law_pot]
      refine brE_by (fun hq => ?_) (fun hq => ?_)
      · have hq := of_decide_eq_true hq
        have hlt : k.toNat < ns.length := by omega
        simp only [↓wS, ↓wE, ↓wC, ↓wI, wV, wX, wM, wY, wB, wK, at_of h0, List.getElem?_eq_getElem hlt]
        exact ⟨⟨⟨by decide, by decide⟩, by decide⟩, by decide, mulOk_r (by decide) (by decide), mulOk_r (by omega) (by omega), by decide, _, _, rfl⟩
      · simp only [↓wS, ↓wE, ↓wC, ↓wI, wV, wX, wM, wY, wB, wK]
        refine ⟨mulOk_r (by omega) (by omega), ?_⟩
        obtain ⟨ys, e⟩ := cutD_map D.int ns none (some 1)
        simp only [↓wS, ↓wE, ↓wC, ↓wI, wV, wX, wM, wY, wB, wK, e]
        rw [v_sum (show (S.items s (.lst (ys.map D.int))).bind allInt = some ys from allInt_map ys)]
        simp only [↓wS, ↓wE, ↓wC, ↓wI, wV, wX, wM, wY, wB, wK]
        exact ⟨by decide, ⟨⟨by decide, by decide⟩, by decide⟩, by decide, mulOk_r (by decide) (by decide), mulOk_r (by omega) (by omega), by decide, _, _, rfl⟩
    cases e : evSs (cc tab wf n) b__law_pot (startT 3 [.inp ns, .int k]) s with
    | rt d t => rw [e] at hW; obtain ⟨a, b, rfl, rfl⟩ := hW; exact ⟨a, b, rfl⟩
    | nx => rw [e] at hW; exact hW.elim
    | ct => rw [e] at hW; exact hW.elim
    | bk => rw [e] at hW; exact hW.elim
    | exc => rw [e] at hW; exact hW.elim
    | stuck => rw [e] at hW; exact hW.elim
  obtain ⟨a, b, e⟩ := hex
  exact ⟨a, b, call_Wcell t__law_pot rfl W pc_low (by rw [e]; exact ⟨_, rfl, Nat.le_refl _, get_add, Over.add (Over.refl _)⟩)⟩
end
end Mi.L86
set_option Elab.async false
set_option linter.all false
set_option maxRecDepth 100000
set_option maxHeartbeats 400000
namespace Mi.L86
open PySem PySem.W PyProof.Rows
open Mi.En (enc)
/-! ### tables with one thing otherwise -/
/-- a row of a table: a place and numbers -/
def tR (u : Pl × List Int) : Rw := ⟨false, .pl u.1 :: u.2.map .int⟩
structure PlB (p : Pl) : Prop where
  a : p.1.natAbs < 100
  b : ∀ x ∈ p.2.items, x.natAbs < 100
  l : p.2.items.length ≤ 8
theorem PlB.fit {p : Pl} (h : PlB p) : Fit 381 2 (Datum.toD p) := Fit_pl (by have := h.a; omega) (fun x hx => by have := h.b x hx; omega) h.l
theorem plb_place {w : Wea} (h : w.Ok) {caps : List Int} (hc : CapOk w caps) {p : Pl} (hp : p ∈ placesOf w.sd caps) : PlB p := by
  have hl := place_len h hc hp
  rw [mem_places] at hp
  unfold within at hp
  simp only [Bool.and_eq_true, decide_eq_true_eq] at hp
  have h6 := h.sd6
  have hcc := hc.c
  refine ⟨by omega, ?_, by omega⟩
  have key : ∀ (xs cs : List Int), xs.length = cs.length → (∀ c ∈ cs, 0 ≤ c ∧ c ≤ 9) → (xs.zip cs).all (fun q => decide (0 ≤ q.1) && decide (q.1 ≤ q.2)) = true → ∀ x ∈ xs, x.natAbs < 100 := by
    intro xs
    induction xs with
    | nil => intro _ _ _ _ x hx; cases hx
    | cons y xs ih =>
      intro cs hl hcs ha x hx
      cases cs with
      | nil => cases hl
      | cons c cs =>
        rw [List.zip_cons_cons, List.all_cons, Bool.and_eq_true] at ha
        rcases List.mem_cons.mp hx with rfl | hx
        · have h1 := ha.1
          have h2 := hcs c List.mem_cons_self
          simp at h1
          omega
        · exact ih cs (by simpa using hl) (fun d hd => hcs d (List.mem_cons_of_mem _ hd)) ha.2 x hx
  exact key _ _ hp.2.1 hcc hp.2.2
structure TrOk (u : Pl × List Int) : Prop where
  pb : PlB u.1
  l1 : 1 ≤ u.2.length
  l2 : u.2.length ≤ 4
  sm : ∀ x ∈ u.2, x.natAbs < 10 ^ 20
theorem TrOk.fit {u : Pl × List Int} (h : TrOk u) : Fit 1000 4 (Datum.toD u.1) := h.pb.fit.mono (by decide) (by decide)
theorem lay_ints {xs : List Int} : ∀ q ∈ xs.map Pt.int, q.Ok := fun q hq => by
  obtain ⟨x, _, rfl⟩ := List.mem_map.mp hq
  exact Pt.lay_int x
theorem tR_ok {u : Pl × List Int} (h : TrOk u) : (tR u).Ok := by
  refine ⟨fun q hq => ?_, ?_, fun q hq => ?_⟩
  · rcases List.mem_cons.mp hq with rfl | hq
    · exact Pt.lay_pl _
    · exact lay_ints q hq
  · have := h.l2
    show (u.2.map Pt.int).length + 1 ≤ 8
    rw [List.length_map]
    omega
  · cases hq
    exact h.fit
def tV (us : List (Pl × List Int)) : Vl := .rows false (us.map tR)
theorem str_ok (i : Int) : PyData.strOk (Str.ofString (toString i)) = true := strOk_tx fun c hc => by
  have := itx_sign i c hc
  omega
theorem v_str {s : S} {Q : VQ} {i : Int} (h : i.natAbs < 10 ^ 20) : (evBi .str [.int i] s).W Q = Q (.str (Str.ofString (toString i))) s := by
  have hlog : i.natAbs.log2 < 1920 := by
    have : i.natAbs < 2 ^ 1920 := Nat.lt_trans h (by decide +kernel)
    by_cases z : i.natAbs = 0
    · rw [z]; decide
    · exact (Nat.log2_lt z).mpr this
  show Res.W (if i.natAbs.log2 < 1920 then .ok (.str (toString i)) s else .stuck) Q = _
  rw [if_pos hlog]
  rfl
theorem vl_ok {tl : Bool} {rs : List Rw} (h : ∀ r ∈ rs, r.Ok) (hl : rs.length ≤ 2000) : (Vl.rows tl rs).Ok := ⟨h, hl⟩
section
variable {wf n : Nat} {s : S} {p : Nat}
theorem pick_vl (hp : PotAt s p) {ds : List D} {vs : List Vl} (e : ds = vs.map Vl.d) (h0 : 0 < vs.length) (h1 : vs.length < 100) (hv : ∀ v ∈ vs, v.Ok) : (callN tab wf (n + 2) 39 [.ref p, .lst ds] s).W fun d t => ∃ v : Vl, d = v.d ∧ v.Ok ∧ Mv s p t := by
  subst e
  refine (c_pick hp (by rw [List.length_map]; exact h0) (by rw [List.length_map]; omega) fun d hd => by obtain ⟨v, _, rfl⟩ := List.mem_map.mp hd; exact Vl.low _).mono ?_
  rintro d t ⟨hd, hm⟩
  obtain ⟨v, hv', rfl⟩ := List.mem_map.mp hd
  exact ⟨v, rfl, hv v hv', hm⟩
theorem fit00 : Fit 1000 4 (Datum.toD ((0, ⟨[0]⟩) : Pl)) := (Fit_pl (p := (0, ⟨[0]⟩)) (by decide) (by intro x hx; rw [List.mem_singleton.mp hx]; decide) (by decide)).mono (by decide) (by decide)
end
end Mi.L86
set_option Elab.async false
set_option linter.all false
set_option maxRecDepth 100000
set_option maxHeartbeats 400000
namespace Mi.L86
open PySem PySem.W PyProof.Rows
open Mi.En (enc)
/-! ### rows with one thing otherwise -/
structure PtK (q : Pt) : Prop where
  ok : q.Ok
  fit : Fit 1000 4 q.y
def odds : List Pt := [.non, .int 0, .int 1, .int 2, .bl true, .str "0", .tup [0]]
theorem odds_k : ∀ q ∈ odds, PtK q := by
  intro q hq
  simp only [odds, List.mem_cons, List.not_mem_nil, or_false] at hq
  rcases hq with rfl | rfl | rfl | rfl | rfl | rfl | rfl
  · exact ⟨Pt.lay_non, Fit.none.mono (by decide) (by decide)⟩
  · exact ⟨Pt.lay_int _, (Fit.int (by decide)).mono (by decide) (by decide)⟩
  · exact ⟨Pt.lay_int _, (Fit.int (by decide)).mono (by decide) (by decide)⟩
  · exact ⟨Pt.lay_int _, (Fit.int (by decide)).mono (by decide) (by decide)⟩
  · exact ⟨Pt.lay_bl _, (Fit.bool true).mono (by decide) (by decide)⟩
  · exact ⟨Pt.lay_str (by decide +kernel), ⟨rfl, rfl, by decide +kernel, Nat.zero_le _, by decide +kernel⟩⟩
  · exact ⟨Pt.lay_tup _, (Fit_tup (xs := [0]) (by intro x hx; rw [List.mem_singleton.mp hx]; decide) (by decide)).mono (by decide) (by decide)⟩
theorem rwk_of {b : Bool} {qs : List Pt} (h : ∀ q ∈ qs, PtK q) (hl : qs.length ≤ 4) (hg : gdB ⟨b, qs⟩ = true) : RwK ⟨b, qs⟩ := by
  refine ⟨⟨fun q hq => (h q hq).ok, by show qs.length ≤ 8; omega, fun q hq => (h q (List.mem_of_mem_head? hq)).fit⟩, hg, ?_⟩
  have hf : ∀ y ∈ qs.map Pt.y, Fit 1000 4 y := fun y hy => by
    obtain ⟨q, hq, rfl⟩ := List.mem_map.mp hy
    exact (h q hq).fit
  cases b with
  | true => exact (Fit.list (n := 1000) (d := 4) (k := 4) hf (by rw [List.length_map]; exact hl) (Nat.le_refl _)).mono (by decide) (by decide)
  | false => exact (Fit.tup (n := 1000) (d := 4) (k := 4) hf (by rw [List.length_map]; exact hl) (Nat.le_refl _)).mono (by decide) (by decide)
structure Bd (r : Rw) : Prop where
  lst : r.lst = false
  pts : ∀ q ∈ r.parts, PtK q
  l1 : 1 ≤ r.parts.length
  l2 : r.parts.length ≤ 3
  gd : gdB r = true
  bent : ∀ k q, k < r.parts.length → (q ∈ odds ∨ r.parts[k]? = some q) → gdB ⟨false, r.parts.take k ++ [q] ++ r.parts.drop (k + 1)⟩ = true
theorem Bd.k {r : Rw} (h : Bd r) : RwK r := by
  obtain ⟨b, qs⟩ := r
  exact rwk_of h.pts (by have h2 : qs.length ≤ 3 := h.l2; omega) h.gd
theorem odd_nopl {q : Pt} (h : q ∈ odds) : ∀ z, q ≠ .pl z := by
  intro z e
  subst e
  simp [odds] at h
theorem bd_table {p : Pl} (hp : Fit 1000 4 (Datum.toD p)) {n : Int} (hn : n.natAbs < 10 ^ 20) {o : Pt} (ho : PtK o) : Bd ⟨false, [.pl p, .int n, o]⟩ := by
  refine ⟨rfl, fun q hq => ?_, by simp, by simp, rfl, ?_⟩
  · simp only [List.mem_cons, List.not_mem_nil, or_false] at hq
    rcases hq with rfl | rfl | rfl
    · exact ⟨Pt.lay_pl _, hp⟩
    · exact ⟨Pt.lay_int _, (Fit.int hn).mono (by decide) (by decide)⟩
    · exact ho
  · intro k q hk hq
    have hk : k < 3 := hk
    match k, hk with
    | 0, _ =>
      show gdB ⟨false, [q, .int n, o]⟩ = true
      cases q <;> rfl
    | 1, _ =>
      show gdB ⟨false, [.pl p, q, o]⟩ = true
      cases q <;> rfl
    | 2, _ =>
      show gdB ⟨false, [.pl p, .int n, q]⟩ = true
      rfl
theorem bd_place {p : Pl} (h1 : p.1.natAbs < 10 ^ 20) (hx : ∀ x ∈ p.2.items, x.natAbs < 10 ^ 20) (hl : p.2.items.length ≤ 8) : Bd (plR p) := by
  obtain ⟨a, ⟨xs⟩⟩ := p
  have e : plR (a, ⟨xs⟩) = ⟨false, [.int a, .tup xs]⟩ := rfl
  rw [e]
  refine ⟨rfl, fun q hq => ?_, by simp, by simp, rfl, ?_⟩
  · simp only [List.mem_cons, List.not_mem_nil, or_false] at hq
    rcases hq with rfl | rfl
    · exact ⟨Pt.lay_int _, (Fit.int h1).mono (by decide) (by decide)⟩
    · exact ⟨Pt.lay_tup _, (Fit_tup hx hl).mono (by decide) (by decide)⟩
  · intro k q hk hq
    have hk : k < 2 := hk
    match k, hk with
    | 0, _ =>
      show gdB ⟨false, [q, .tup xs]⟩ = true
      cases q <;> rfl
    | 1, _ =>
      show gdB ⟨false, [.int a, q]⟩ = true
      rcases hq with hq | hq
      · have := odd_nopl hq
        cases q with
        | pl z => exact absurd rfl (this z)
        | _ => rfl
      · have hq : some (Pt.tup xs) = some q := hq
        cases hq
        rfl
theorem vlk_of {tl : Bool} {rs : List Rw} (h : ∀ r ∈ rs, RwK r) (hl : rs.length ≤ 2000) : VlK (.rows tl rs) := ⟨h, hl⟩
section
variable {wf n : Nat} {s : S} {p : Nat}
theorem pick_vk (hp : PotAt s p) {ds : List D} {vs : List Vl} (e : ds = vs.map Vl.d) (h0 : 0 < vs.length) (h1 : vs.length < 100) (hv : ∀ v ∈ vs, VlK v) : (callN tab wf (n + 2) 39 [.ref p, .lst ds] s).W fun d t => ∃ v : Vl, d = v.d ∧ VlK v ∧ Mv s p t := by
  subst e
  refine (c_pick hp (by rw [List.length_map]; exact h0) (by rw [List.length_map]; omega) fun d hd => by obtain ⟨v, _, rfl⟩ := List.mem_map.mp hd; exact Vl.low _).mono ?_
  rintro d t ⟨hd, hm⟩
  obtain ⟨v, hv', rfl⟩ := List.mem_map.mp hd
  exact ⟨v, rfl, hv v hv', hm⟩
theorem c_bent (hp : PotAt s p) {rs : List Rw} (hr : ∀ r ∈ rs, Bd r) (hl : rs.length ≤ 1000) : (callN tab wf (n + 3) 51 [.ref p, .lst (rs.map Rw.d)] s).W fun d t => ∃ v : Vl, d = v.d ∧ VlK v ∧ Mv s p t := by
  refine call_Wex t__law_bent rfl ?_
  have hrs : ∀ r ∈ rs, RwK r := fun r h => (hr r h).k
  have hfin : ∀ (d : D) (t : S), (∃ v : Vl, d = v.d ∧ VlK v ∧ Mv s p t) → ∃ u, u.nx = s.nx ∧ Wf u ∧ Over u t ∧ below s.nx d = true ∧ ∃ v : Vl, d = v.d ∧ VlK v ∧ Mv s p u := by
    rintro d t ⟨v, rfl, hv, hm⟩
    exact ⟨t, hm.nx, (hp.mv hm).wf, Over.refl t, Vl.low _, v, rfl, hv, hm⟩
  simp only [↓wS, ↓wE, ↓wC, ↓wI, wV, wX, wM, wY, wB, wK, wT, b__law_bent]
  rw [c_eqNy (fun r _ => Rw.py _) (fun r h => Rw.lay (hrs r h).ok) (fun r _ => Nat.le_trans Rw.depth (by decide))]
  simp only [↓wS, ↓wE, ↓wC, ↓wI, wV, wX, wM, wY, wB, wK]
  refine brS_by (fun he => ?_) (fun he => ?_)
  · simp only [↓wS, ↓wE, ↓wC, ↓wI, wV, wX, wM, wY, wB, wK]
    refine (pick_vk (n := n) (wf := wf) hp (vs := [.non, .rows true [], .rows false [⟨false, [.pl (0, ⟨[0]⟩), .int 0, .non]⟩], .rows false [⟨false, [.int 0, .tup [0]]⟩], .int 0]) rfl (by decide) (by decide) ?_).mono ?_
    · intro v hv
      simp only [List.mem_cons, List.not_mem_nil, or_false] at hv
      rcases hv with rfl | rfl | rfl | rfl | rfl
      · trivial
      · exact vlk_of (fun r hr => by cases hr) (by decide)
      · exact vlk_of (fun r hr => by rw [List.mem_singleton.mp hr]; exact (bd_table fit00 (by decide) (odds_k .non (by simp [odds]))).k) (by simp)
      · exact vlk_of (fun r hr => by rw [List.mem_singleton.mp hr]; exact (bd_place (p := (0, ⟨[0]⟩)) (by decide) (by intro x hx; rw [List.mem_singleton.mp hx]; decide) (by decide)).k) (by simp)
      · trivial
    · exact hfin
  · have hpos : 0 < rs.length := by
      cases rs with
      | nil => cases he
      | cons => simp
    simp only [↓wS, ↓wE, ↓wC, ↓wI, wV, wX, wM, wY, wB, wK]
    refine (c_draw (n := n + 1) hp (by omega) (by omega)).mono ?_
    rintro d t ⟨at_, rfl, ha0, ha1, hm⟩
    have hlt : at_.toNat < rs.length := by omega
    have hg : rs[at_.toNat]? = some (rs[at_.toNat]'hlt) := List.getElem?_eq_getElem hlt
    have hum := List.getElem_mem hlt
    generalize rs[at_.toNat]'hlt = r at hg hum
    have hb := hr r hum
    obtain ⟨b, qs⟩ := r
    have hbl : b = false := hb.lst
    subst hbl
    have hl1 : 1 ≤ qs.length := hb.l1
    have hl2 : qs.length ≤ 3 := hb.l2
    have hone : (Rw.mk false qs).d = .tup (qs.map Pt.d) := rfl
    simp only [↓wS, ↓wE, ↓wC, ↓wI, wV, wX, wM, wY, wB, wK, at_of ha0, List.getElem?_map, hg, Option.map_some, hone]
    refine (c_draw (n := n + 1) (hp.mv hm) (by omega) (by omega)).mono ?_
    rintro d t2 ⟨sp, rfl, hs0, hs1, hm2⟩
    have hm := hm.trans hm2
    clear hm2
    have hsl : sp.toNat < qs.length := by omega
    have hx : qs[sp.toNat]? = some (qs[sp.toNat]'hsl) := List.getElem?_eq_getElem hsl
    have hxm := List.getElem_mem hsl
    generalize qs[sp.toNat]'hsl = x at hx hxm
    simp only [↓wS, ↓wE, ↓wC, ↓wI, wV, wX, wM, wY, wB, wK, at_of hs0, List.getElem?_map, hx, Option.map_some]
    refine ⟨by simp, ?_⟩
    refine Res.W.mono (c_pick (n := n) (hp.mv hm) (by simp) (by simp) (by intro d hd; simp at hd; rcases hd with rfl | rfl | rfl | rfl | rfl | rfl | rfl | rfl <;> first | rfl | exact Pt.low _)) ?_
    rintro d t3 ⟨hd, hm2⟩
    have hm := hm.trans hm2
    clear hm2
    obtain ⟨q, rfl, hq⟩ : ∃ q : Pt, d = q.d ∧ (q ∈ odds ∨ qs[sp.toNat]? = some q) := by
      simp at hd
      rcases hd with rfl | rfl | rfl | rfl | rfl | rfl | rfl | rfl
      · exact ⟨.non, rfl, .inl (by simp [odds])⟩
      · exact ⟨.int 0, rfl, .inl (by simp [odds])⟩
      · exact ⟨.int 1, rfl, .inl (by simp [odds])⟩
      · exact ⟨.int 2, rfl, .inl (by simp [odds])⟩
      · exact ⟨.bl true, rfl, .inl (by simp [odds])⟩
      · exact ⟨.str "0", rfl, .inl (by simp [odds])⟩
      · exact ⟨.tup [0], rfl, .inl (by simp [odds])⟩
      · exact ⟨x, rfl, .inr hx⟩
    have hqk : PtK q := by
      rcases hq with hq | hq
      · exact odds_k q hq
      · exact hb.pts q (List.mem_of_getElem? hq)
    have hsp2 : 0 ≤ sp + 1 := by omega
    have hat2 : 0 ≤ at_ + 1 := by omega
    simp only [↓wS, ↓wE, ↓wC, ↓wI, wV, wX, wM, wY, wB, wK, cutD_cut, cutL_to hs0, cutL_from hsp2, cutL_to ha0, cutL_from hat2, cutL_to (show (0 : Int) ≤ 1 by decide)]
    obtain ⟨parts, hparts⟩ : ∃ ps : List Pt, ps = qs.take sp.toNat ++ [q] ++ qs.drop (sp + 1).toNat := ⟨_, rfl⟩
    have hbr : RwK ⟨false, parts⟩ := by
      refine rwk_of (fun z hz => ?_) ?_ ?_
      · rw [hparts] at hz
        rcases List.mem_append.mp hz with hz | hz
        · rcases List.mem_append.mp hz with hz | hz
          · exact hb.pts z (List.mem_of_mem_take hz)
          · rw [List.mem_singleton.mp hz]; exact hqk
        · exact hb.pts z (List.mem_of_mem_drop hz)
      · rw [hparts]
        simp only [List.length_append, List.length_take, List.length_drop, List.length_cons, List.length_nil]
        omega
      · rw [hparts, show (sp + 1).toNat = sp.toNat + 1 by omega]
        exact hb.bent sp.toNat q hsl hq
    have hlen8 : ∀ k, (qs.take k).length ≤ 3 := fun k => by rw [List.length_take]; omega
    have hlen9 : ∀ k, (qs.drop k).length ≤ 3 := fun k => by rw [List.length_drop]; omega
    have hlt1 : ∀ k, (rs.take k).length ≤ 1000 := fun k => by rw [List.length_take]; omega
    have hld1 : ∀ k, (rs.drop k).length ≤ 1000 := fun k => by rw [List.length_drop]; omega
    have a1 := hlen8 sp.toNat
    have a2 := hlen9 (sp + 1).toNat
    have a3 := hlt1 at_.toNat
    have a4 := hld1 (at_ + 1).toNat
    have a5 := hlt1 (Int.toNat 1)
    simp only [List.length_append, List.length_map, List.length_cons, List.length_nil, List.length_reverse] at a1 a2 a3 a4 a5 ⊢
    refine ⟨by omega, by omega, by omega, by omega, by omega, by omega, by omega, by omega, by omega, ?_⟩
    have mt : ∀ k, ∀ r ∈ rs.take k, RwK r := fun k r hr => hrs r (List.mem_of_mem_take hr)
    have md : ∀ k, ∀ r ∈ rs.drop k, RwK r := fun k r hr => hrs r (List.mem_of_mem_drop hr)
    have hlr : RwK ⟨true, qs⟩ := rwk_of hb.pts (by omega) rfl
    have mid : ∀ r0 : Rw, RwK r0 → VlK (Vl.rows false (rs.take at_.toNat ++ [r0] ++ rs.drop (at_ + 1).toNat)) := fun r0 h0 => vlk_of (fun r hr => by
      rcases List.mem_append.mp hr with hr | hr
      · rcases List.mem_append.mp hr with hr | hr
        · exact mt _ r hr
        · rw [List.mem_singleton.mp hr]; exact h0
      · exact md _ r hr) (by simp only [List.length_append, List.length_take, List.length_drop, List.length_cons, List.length_nil]; omega)
    refine Res.W.mono (pick_vk (n := n) (hp.mv hm) (vs := [.rows false (rs.take at_.toNat ++ rs.drop (at_ + 1).toNat), .rows false (rs ++ rs.take (Int.toNat 1)), .rows false rs.reverse, .rows true rs, .rows false (rs.take at_.toNat ++ [⟨true, qs⟩] ++ rs.drop (at_ + 1).toNat), .non,
      .rows false (rs.take at_.toNat ++ [⟨false, parts⟩] ++ rs.drop (at_ + 1).toNat), .rows false (rs.take at_.toNat ++ [⟨false, parts⟩] ++ rs.drop (at_ + 1).toNat), .rows false (rs.take at_.toNat ++ [⟨false, parts⟩] ++ rs.drop (at_ + 1).toNat)]) ?_ (by simp) (by simp) ?_) ?_
    · subst hparts
      simp only [List.map_cons, List.map_nil, List.cons_append, List.nil_append, Vl.d, List.map_append, Rw.d, List.map_reverse]
    · intro v hv
      simp only [List.mem_cons, List.not_mem_nil, or_false] at hv
      rcases hv with rfl | rfl | rfl | rfl | rfl | rfl | rfl | rfl | rfl
      · exact vlk_of (fun r hr => (List.mem_append.mp hr).elim (mt _ r) (md _ r)) (by simp only [List.length_append, List.length_take, List.length_drop]; omega)
      · exact vlk_of (fun r hr => (List.mem_append.mp hr).elim (hrs r) (mt _ r)) (by simp only [List.length_append, List.length_take]; omega)
      · exact vlk_of (fun r hr => hrs r (List.mem_reverse.mp hr)) (by simp only [List.length_reverse]; omega)
      · exact vlk_of hrs (by omega)
      · exact mid _ hlr
      · trivial
      · exact mid _ hbr
      · exact mid _ hbr
      · exact mid _ hbr
    · rintro d t ⟨v, rfl, hv, hm2⟩
      exact hfin _ _ ⟨v, rfl, hv, hm.trans hm2⟩
end
end Mi.L86
set_option Elab.async false
set_option linter.all false
set_option maxRecDepth 100000
set_option maxHeartbeats 1000000
namespace Mi.L86
open PySem PySem.W
open Mi.En (enc)
/-! ### texts of a weather farm, of tables -/
def yS (t : Stp) : PyData := .tuple [.str "step", .int t.at_, .tuple (t.wants.map .int), .tuple (t.outs.map Datum.toD)]
def yW (w : Wea) : PyData := .tuple [.str "weather", .int w.sd, .int w.sk, .tuple (w.steps.map yS)]
theorem py_S (lk : Nat → Option PyData) (t : Stp) : toPy lk (eS t) = some (yS t) := by
  show (toPys lk [.str "step", .int t.at_, eT t.wants, .tup (t.outs.map enc)]).map PyData.tuple = _
  have h1 : toPy lk (eT t.wants) = some (.tuple (t.wants.map .int)) := by
    show (toPys lk (t.wants.map enc)).map PyData.tuple = _
    rw [toPys_map]
    rfl
  have h2 : toPy lk (.tup (t.outs.map enc)) = some (.tuple (t.outs.map Datum.toD)) := by
    show (toPys lk (t.outs.map enc)).map PyData.tuple = _
    rw [toPys_map]
    rfl
  simp only [toPys, h1, h2]
  rfl
theorem py_W (s : S) (w : Wea) : s.py (eW w) = some (yW w) := by
  show (toPys _ [.str "weather", .int w.sd, .int w.sk, .tup (w.steps.map eS)]).map PyData.tuple = _
  have h2 : ∀ lk, toPy lk (.tup (w.steps.map eS)) = some (.tuple (w.steps.map yS)) := fun lk => by
    show (toPys lk (w.steps.map eS)).map PyData.tuple = _
    rw [toPys_of (py_S lk)]
    rfl
  simp only [toPys, h2]
  rfl
theorem Fit_step {sd sk : Int} {t : Stp} (h : t.Ok sd sk) (h6 : sd ≤ 6) (h3 : sk ≤ 3) : Fit 4619 4 (yS t) := by
  have a0 := h.at0
  have a1 := h.at1
  have wl := h.wl
  have o3 := h.o3
  refine Fit.tup (n := 1152) (d := 3) (k := 4) ?_ (Nat.le_refl 4) (by decide)
  intro q hq
  simp only [List.mem_cons, List.not_mem_nil, or_false] at hq
  rcases hq with rfl | rfl | rfl | rfl
  · exact ⟨rfl, rfl, by decide +kernel, Nat.zero_le _, by decide +kernel⟩
  · exact (Fit.int (by omega)).mono (by decide) (by decide)
  · exact (Fit_tup (fun x hx => by have := h.wr x hx; omega) (by omega)).mono (by decide) (by decide)
  · refine Fit.tup (n := 381) (d := 2) (k := 3) ?_ (by rw [List.length_map]; exact o3) (by decide)
    intro q hq
    obtain ⟨o, ho, rfl⟩ := List.mem_map.mp hq
    have hg := h.og o ho
    have hl := h.ol o ho
    exact Fit_pl (by omega) (fun x hx => by have := h.oe o ho x hx; omega) (by omega)
theorem Fit_wea {w : Wea} (h : w.Ok) : Fit 16777216 64 (yW w) := by
  have h6 := h.sd6
  have h1 := h.sd1
  have k3 := h.sk3
  have k1 := h.sk1
  refine Fit.mono (n := 147895) (d := 6) ?_ (by decide) (by decide)
  refine Fit.tup (n := 36971) (d := 5) (k := 4) ?_ (Nat.le_refl 4) (by decide)
  intro q hq
  simp only [List.mem_cons, List.not_mem_nil, or_false] at hq
  rcases hq with rfl | rfl | rfl | rfl
  · exact ⟨rfl, rfl, by decide +kernel, Nat.zero_le _, by decide +kernel⟩
  · exact (Fit.int (by omega)).mono (by decide) (by decide)
  · exact (Fit.int (by omega)).mono (by decide) (by decide)
  · refine Fit.tup (n := 4619) (d := 4) (k := 8) ?_ (by rw [List.length_map]; exact h.sl) (by decide)
    intro q hq
    obtain ⟨t, ht, rfl⟩ := List.mem_map.mp hq
    exact Fit_step (h.st t ht) h6 k3
theorem py_bls (s : S) (a b : Bool) : s.py (.lst [.bl a, .bl b]) = some (.list [.bool a, .bool b]) := rfl
theorem Fit_bls (a b : Bool) : Fit 16777216 64 (.list [.bool a, .bool b]) := by
  refine Fit.mono (n := 16) (d := 1) (Fit.list (n := 5) (d := 0) (k := 2) ?_ (Nat.le_refl 2) (by decide)) (by decide) (by decide)
  intro q hq
  simp only [List.mem_cons, List.not_mem_nil, or_false] at hq
  rcases hq with rfl | rfl <;> exact Fit.bool _
end Mi.L86
set_option Elab.async false
set_option linter.all false
set_option maxRecDepth 100000
set_option maxHeartbeats 1000000
namespace Mi.L86
open PySem PySem.W
open Mi.En (enc)
/-! ### sure places: the mathematics -/
theorem oY_oP (o : Option Int) : True := trivial
def oP : Option Int → Pt
  | none => .non
  | some i => .int i
def tabR (u : Pl × NW) : Rw := ⟨false, [.pl u.1, .int u.2.1, oP u.2.2]⟩
theorem tabR_d (u : Pl × NW) : (tabR u).d = rdS u := by
  obtain ⟨p, a, b⟩ := u
  cases b <;> rfl
theorem less_zero {w : Wea} {caps : List Int} {goal : Pl} : lessF (sureF w caps goal) 0 = [] := by
  unfold lessF fsts
  rw [List.filter_eq_nil_iff.mpr]
  · rfl
  · intro r hr
    have := final_num (places_nodup _ _) hr
    simp
    exact this
theorem any_nil {w : Wea} (h : w.Ok) {caps : List Int} {p : Pl} : (rowL w caps p).any (fun r => allIn r.2 []) = false := by
  rw [List.any_eq_false]
  intro r hr z
  have hne := row_ne h hr
  cases e : r.2 with
  | nil => exact hne e
  | cons g gs =>
    rw [e] at z
    simp [isin] at z
theorem zero_at {w : Wea} (h : w.Ok) {caps : List Int} {goal : Pl} {q : Pl × Int} (hq : q ∈ sureF w caps goal) (h0 : q.2 = 0) : atG goal q.1 = true := by
  have hr := final_rank (places_nodup _ _) hq
  rw [h0] at hr
  have hr : sureP w caps goal (lessF (sureF w caps goal) 0) q.1 = true := hr
  rw [less_zero] at hr
  unfold sureP at hr
  rw [any_nil h, Bool.or_false] at hr
  exact hr
theorem way_spec {w : Wea} (h : w.Ok) {caps : List Int} {goal : Pl} {q : Pl × Int} (hq : q ∈ sureF w caps goal) (hn : atG goal q.1 = false) : ∃ i, nwAt w caps goal q.1 = (q.2, some i) ∧ i ∈ letL w q.1 ∧ ∀ g ∈ comesL w caps q.1 i, ∃ m, (g, m) ∈ sureF w caps goal ∧ m < q.2 := by
  have hr := final_rank (places_nodup _ _) hq
  have hr : sureP w caps goal (lessF (sureF w caps goal) q.2) q.1 = true := hr
  unfold sureP at hr
  rw [hn, Bool.false_or, steps_any] at hr
  have hne : stepsIn w caps (lessF (sureF w caps goal) q.2) q.1 ≠ [] := fun z => by rw [z] at hr; cases hr
  have hm := steps_mem.mp (way_mem hne)
  have hz : ¬ q.2 = 0 := fun z => by rw [zero_at h hq z] at hn; cases hn
  refine ⟨wayIn w caps (lessF (sureF w caps goal) q.2) q.1, ?_, hm.1, fun g hg => ?_⟩
  · rw [nw_mem hq]
    unfold nwOf
    rw [if_neg hz]
  · obtain ⟨⟨g', m⟩, h1, e⟩ := List.mem_map.mp (hm.2 g hg)
    have e : g' = g := e
    subst e
    obtain ⟨h1, h2⟩ := List.mem_filter.mp h1
    exact ⟨m, h1, by simpa using h2⟩
theorem nw_small {w : Wea} (h : w.Ok) {caps : List Int} (hc : CapOk w caps) {goal p : Pl} (hp : p ∈ fsts (sureF w caps goal)) : (0 ≤ (nwAt w caps goal p).1 ∧ (nwAt w caps goal p).1 < 600) ∧ ∀ i, (nwAt w caps goal p).2 = some i → i.natAbs < 10 ^ 20 := by
  obtain ⟨q, hq, rfl⟩ := List.mem_map.mp hp
  have hP := places_600 h hc
  have h1 := final_num (places_nodup _ _) hq
  have h2 := final_lt (places_nodup _ _) hq
  have e1 : (nwAt w caps goal q.1).1 = q.2 := by rw [nw_mem hq]; rfl
  refine ⟨by rw [e1]; omega, fun i hi => ?_⟩
  cases hat : atG goal q.1 with
  | false =>
    obtain ⟨j, hj, hl, _⟩ := way_spec h hq hat
    rw [hj] at hi
    cases hi
    obtain ⟨t, h0, h1, _⟩ := mem_letL.mp hl
    have := (List.getElem?_eq_some_iff.mp h1).1
    have := h.sl
    omega
  | true =>
    rw [nw_mem hq] at hi
    unfold nwOf at hi
    by_cases hz : q.2 = 0
    · rw [if_pos hz] at hi
      cases hi
    · rw [if_neg hz] at hi
      have hi : wayIn w caps (lessF (sureF w caps goal) q.2) q.1 = i := by simpa using hi
      unfold wayIn at hi
      cases e : stepsIn w caps (lessF (sureF w caps goal) q.2) q.1 with
      | nil =>
        rw [e] at hi
        simp at hi
        rw [← hi]
        decide
      | cons a as =>
        rw [e] at hi
        have hi : a = i := hi
        have hm : a ∈ stepsIn w caps (lessF (sureF w caps goal) q.2) q.1 := by rw [e]; exact List.mem_cons_self
        obtain ⟨t, h0, h1, _⟩ := mem_letL.mp (steps_mem.mp hm).1
        have := (List.getElem?_eq_some_iff.mp h1).1
        have := h.sl
        omega
/-! lesser goals -/
theorem ge_set : ∀ {xs ys : List Int} {k : Nat} {v : Int}, (∀ y, ys[k]? = some y → v ≤ y) → geAll xs ys = true → geAll xs (ys.set k v) = true
  | [], ys, k, v, _, _ => by unfold geAll; simp
  | x :: xs, [], k, v, _, h => by simpa using h
  | x :: xs, y :: ys, 0, v, hv, h => by
    have hv := hv y rfl
    unfold geAll at h ⊢
    rw [List.zip_cons_cons, List.all_cons, Bool.and_eq_true, decide_eq_true_eq] at h
    rw [List.set_cons_zero, List.zip_cons_cons, List.all_cons, h.2, Bool.and_true, decide_eq_true_eq]
    have := h.1
    simp at this ⊢
    omega
  | x :: xs, y :: ys, k + 1, v, hv, h => by
    have ih := ge_set (xs := xs) (ys := ys) (k := k) (v := v) (fun z hz => hv z (by simpa using hz))
    unfold geAll at h ih ⊢
    rw [List.zip_cons_cons, List.all_cons, Bool.and_eq_true] at h
    rw [List.set_cons_succ, List.zip_cons_cons, List.all_cons, h.1, Bool.true_and]
    exact ih h.2
theorem row_set : ∀ {ys cs : List Int} {k : Nat} {v : Int}, 0 ≤ v → (∀ y, ys[k]? = some y → v ≤ y) → (ys.zip cs).all (fun q => decide (0 ≤ q.1) && decide (q.1 ≤ q.2)) = true → ((ys.set k v).zip cs).all (fun q => decide (0 ≤ q.1) && decide (q.1 ≤ q.2)) = true
  | [], cs, k, v, _, _, h => by simpa using h
  | y :: ys, [], k, v, _, _, h => by
    cases k <;> simp
  | y :: ys, c :: cs, 0, v, h0, hv, h => by
    have hv := hv y rfl
    rw [List.zip_cons_cons, List.all_cons, Bool.and_eq_true] at h
    rw [List.set_cons_zero, List.zip_cons_cons, List.all_cons, h.2, Bool.and_true]
    have := h.1
    simp at this ⊢
    omega
  | y :: ys, c :: cs, k + 1, v, h0, hv, h => by
    rw [List.zip_cons_cons, List.all_cons, Bool.and_eq_true] at h
    rw [List.set_cons_succ, List.zip_cons_cons, List.all_cons, h.1, Bool.true_and]
    exact row_set h0 (fun z hz => hv z (by simpa using hz)) h.2
theorem less_in {w : Wea} {caps : List Int} {goal : Pl} (hg : goal ∈ placesOf w.sd caps) {k : Nat} {v : Int} (h0 : 0 ≤ v) (hv : ∀ y, goal.2.items[k]? = some y → v ≤ y) : ((goal.1, ⟨goal.2.items.set k v⟩) : Pl) ∈ placesOf w.sd caps := by
  rw [mem_places] at hg ⊢
  unfold within at hg ⊢
  simp only [Bool.and_eq_true] at hg ⊢
  refine ⟨hg.1, ?_, row_set h0 hv hg.2.2⟩
  show decide ((goal.2.items.set k v).length = caps.length) = true
  rw [List.length_set]
  exact hg.2.1
theorem easier {w : Wea} {caps : List Int} {goal : Pl} {k : Nat} {v : Int} (hv : ∀ y, goal.2.items[k]? = some y → v ≤ y) : ∀ p ∈ sureK w caps goal, p ∈ sureK w caps (goal.1, ⟨goal.2.items.set k v⟩) := by
  intro p hp
  rw [mem_sureK] at hp ⊢
  refine final_le (lost := sureP w caps goal) (lost' := sureP w caps (goal.1, ⟨goal.2.items.set k v⟩)) (places_nodup _ _) ?_ ?_ p hp
  · intro F q hl _
    unfold sureP at hl ⊢
    rw [Bool.or_eq_true] at hl ⊢
    rcases hl with hl | hl
    · left
      unfold atG at hl ⊢
      rw [Bool.and_eq_true] at hl ⊢
      exact ⟨hl.1, ge_set hv hl.2⟩
    · exact .inr hl
  · intro F G q hFG hl
    unfold sureP at hl ⊢
    rw [Bool.or_eq_true] at hl ⊢
    rcases hl with hl | hl
    · exact .inl hl
    · right
      rw [List.any_eq_true] at hl ⊢
      obtain ⟨r, hr, ha⟩ := hl
      refine ⟨r, hr, ?_⟩
      rw [List.all_eq_true] at ha ⊢
      exact fun g hg => isin_iff.mpr (hFG g (isin_iff.mp (ha g hg)))
/-! texts -/
def yTold (w : Wea) (caps : List Int) (goal : Pl) : PyData := .list [.list ((toldS w caps goal).map yS3), .list ((restS w caps goal).map Datum.toD)]
theorem told_len {w : Wea} (h : w.Ok) {caps : List Int} (hc : CapOk w caps) {goal : Pl} : (toldS w caps goal).length ≤ 600 ∧ (restS w caps goal).length ≤ 600 := by
  have hP := places_600 h hc
  have h1 : (sureK w caps goal).length ≤ (placesOf w.sd caps).length := List.length_filter_le _ _
  have h2 : (restS w caps goal).length ≤ (placesOf w.sd caps).length := List.length_filter_le _ _
  exact ⟨by unfold toldS; rw [List.length_map]; omega, by omega⟩
theorem told_mem {w : Wea} {caps : List Int} {goal : Pl} {u : Pl × NW} (hu : u ∈ toldS w caps goal) : u.1 ∈ fsts (sureF w caps goal) ∧ u.1 ∈ placesOf w.sd caps ∧ u.2 = nwAt w caps goal u.1 := by
  obtain ⟨p, hp, rfl⟩ := List.mem_map.mp hu
  have := mem_sureK.mp hp
  exact ⟨this, final_sub (places_nodup _ _) this, rfl⟩
theorem Fit_told {w : Wea} (h : w.Ok) {caps : List Int} (hc : CapOk w caps) {goal : Pl} : Fit 16777216 64 (yTold w caps goal) := by
  obtain ⟨l1, l2⟩ := told_len h hc (goal := goal)
  refine Fit.mono (n := 1384814) (d := 5) ?_ (by decide) (by decide)
  refine Fit.list (n := 692402) (d := 4) (k := 2) ?_ (Nat.le_refl 2) (by decide)
  intro q hq
  simp only [List.mem_cons, List.not_mem_nil, or_false] at hq
  rcases hq with rfl | rfl
  · refine Fit.list (n := 1152) (d := 3) (k := 600) ?_ (by rw [List.length_map]; exact l1) (by decide)
    intro q hq
    obtain ⟨u, hu, rfl⟩ := List.mem_map.mp hq
    obtain ⟨m1, m2, m3⟩ := told_mem hu
    have hs := nw_small h hc m1
    rw [← m3] at hs
    refine Fit.tup (n := 381) (d := 2) (k := 3) ?_ (Nat.le_refl 3) (by decide)
    intro q hq
    simp only [List.mem_cons, List.not_mem_nil, or_false] at hq
    rcases hq with rfl | rfl | rfl
    · exact Fit_place h hc m2
    · exact (Fit.int (by omega)).mono (by decide) (by decide)
    · cases e : u.2.2 with
      | none => exact Fit.none.mono (by decide) (by decide)
      | some i => exact (Fit.int (hs.2 i e)).mono (by decide) (by decide)
  · refine Fit.mono (n := 229802) (d := 3) (Fit.list (n := 381) (d := 2) (k := 600) ?_ (by rw [List.length_map]; exact l2) (by decide)) (by decide) (by decide)
    intro q hq
    obtain ⟨p, hp, rfl⟩ := List.mem_map.mp hq
    exact Fit_place h hc (mem_restS.mp hp).1
theorem py_own (s : S) (w : Wea) (caps : List Int) (goal : Pl) : s.py (.lst [.lst ((toldS w caps goal).map rdS), .lst ((restS w caps goal).map enc)]) = some (yTold w caps goal) := by
  show (toPys _ [.lst ((toldS w caps goal).map rdS), .lst ((restS w caps goal).map enc)]).map PyData.list = _
  simp only [toPys, toPy, toPys_map, toPys_of (py_rdS _), Option.map_some]
  rfl
theorem py_cells {s : S} {i j : Nat} {w : Wea} {caps : List Int} {goal : Pl} {a b : Bool} (h1 : s.get i = some (.lst a ((toldS w caps goal).map rdS))) (h2 : s.get j = some (.lst b ((restS w caps goal).map enc))) : s.py (.lst [.ref i, .ref j]) = some (yTold w caps goal) := by
  show (toPys (s.look 4) [.ref i, .ref j]).map PyData.list = _
  simp only [toPys, toPy, look_lst h1, look_lst h2, toPys_map, toPys_of (py_rdS _), Option.map_some]
  rfl
theorem py_ints2 (s : S) (a b : Int) : s.py (.lst [.int a, .int b]) = some (.list [.int a, .int b]) := rfl
theorem Fit_ints2 {a b : Int} (ha : a.natAbs < 10 ^ 20) (hb : b.natAbs < 10 ^ 20) : Fit 16777216 64 (.list [.int a, .int b]) := by
  refine Fit.mono (n := 48) (d := 1) (Fit.list (n := 21) (d := 0) (k := 2) ?_ (Nat.le_refl 2) (by decide)) (by decide) (by decide)
  intro q hq
  simp only [List.mem_cons, List.not_mem_nil, or_false] at hq
  rcases hq with rfl | rfl
  · exact Fit.int ha
  · exact Fit.int hb
theorem table_bd {w : Wea} (h : w.Ok) {caps : List Int} (hc : CapOk w caps) {goal : Pl} : ∀ r ∈ (toldS w caps goal).map tabR, Bd r := by
  intro r hr
  obtain ⟨u, hu, rfl⟩ := List.mem_map.mp hr
  obtain ⟨m1, m2, m3⟩ := told_mem hu
  have hs := nw_small h hc m1
  rw [← m3] at hs
  refine bd_table ((Fit_place h hc m2).mono (by decide) (by decide)) (by omega) ?_
  cases e : u.2.2 with
  | none => exact odds_k .non (by simp [odds])
  | some i => exact ⟨Pt.lay_int _, (Fit.int (hs.2 i e)).mono (by decide) (by decide)⟩
theorem rest_bd {w : Wea} (h : w.Ok) {caps : List Int} (hc : CapOk w caps) {goal : Pl} : ∀ r ∈ (restS w caps goal).map plR, Bd r := by
  intro r hr
  obtain ⟨p, hp, rfl⟩ := List.mem_map.mp hr
  have hb := plb_place h hc (mem_restS.mp hp).1
  exact bd_place (by have := hb.a; omega) (fun x hx => by have := hb.b x hx; omega) hb.l
end Mi.L86
set_option Elab.async false
set_option linter.all false
set_option maxRecDepth 100000
set_option maxHeartbeats 400000
/-! W8: the least of pairs. -/
namespace Mi
open PySem PySem.W PyProof.Rows
open Mi.En (enc)
instance : Sh (Int × Int) := ⟨by decide⟩
def minP (q : Int × Int) (qs : List (Int × Int)) : Int × Int := qs.foldl (fun a y => if DatumOrd.lt y a = true then y else a) q
def two (q : Int × Int) : List Int := [q.1, q.2]
theorem two_lt (a b : Int × Int) : dataLt (tupP (two a)) (tupP (two b)) = DatumOrd.lt a b := by
  rw [← DatumOrd.lt_eq]
  rfl
theorem minTI_two (q : Int × Int) (qs : List (Int × Int)) : minTI (two q) (qs.map two) = two (minP q qs) := by
  unfold minTI minP
  induction qs generalizing q with
  | nil => rfl
  | cons y qs ih =>
    rw [List.map_cons, List.foldl_cons, List.foldl_cons, two_lt]
    by_cases h : DatumOrd.lt y q = true
    · rw [if_pos h, if_pos h, ih]
    · rw [if_neg h, if_neg h, ih]
theorem allInt_pairs (qs : List (Int × Int)) (q : Int × Int) : allInt ((q :: qs).map enc) = none := rfl
theorem allTupI_pairs : ∀ qs : List (Int × Int), allTupI (qs.map enc) = some (qs.map two)
  | [] => rfl
  | q :: qs => by
    have ih := allTupI_pairs qs
    show (match allInt [.int q.1, .int q.2], allTupI (qs.map enc) with | some a, some b => some (a :: b) | _, _ => none) = _
    rw [ih]
    rfl
theorem v_minP {s : S} {Q : VQ} {q : Int × Int} {qs : List (Int × Int)} : (evBi .min2 [.lst ((q :: qs).map enc)] s).W Q = Q (enc (minP q qs)) s := by
  have hal : alikeTs ((q :: qs).map two) = true := by
    unfold alikeTs
    rw [List.all_eq_true]
    intro x hx
    rw [List.all_eq_true]
    intro y hy
    rw [List.map_map] at hx hy
    obtain ⟨a, _, rfl⟩ := List.mem_map.mp hx
    obtain ⟨b, _, rfl⟩ := List.mem_map.mp hy
    exact DatumOrd.alike a b
  show Res.W (match allInt ((q :: qs).map enc) with | some (n :: ns) => .ok (.int (ns.foldl min n)) s | some [] => .stuck | none => (match allTupI ((q :: qs).map enc) with | some (t :: ts) => if alikeTs (t :: ts) = true then .ok (.tup ((minTI t ts).map .int)) s else .stuck | _ => .stuck)) Q = _
  rw [allInt_pairs, allTupI_pairs, List.map_cons]
  simp only
  rw [List.map_cons] at hal
  rw [if_pos hal, minTI_two]
  rfl
theorem minP_spec : ∀ (qs : List (Int × Int)) (q : Int × Int), minP q qs ∈ q :: qs ∧ ∀ y ∈ q :: qs, DatumOrd.lt y (minP q qs) = false
  | [], q => ⟨List.mem_cons_self, fun y hy => by rw [List.mem_singleton.mp hy]; exact lt_irr _⟩
  | k :: qs, q => by
    have e : minP q (k :: qs) = minP (if DatumOrd.lt k q = true then k else q) qs := rfl
    rw [e]
    obtain ⟨h1, h2⟩ := minP_spec qs (if DatumOrd.lt k q = true then k else q)
    by_cases h : DatumOrd.lt k q = true
    · rw [if_pos h] at h1 h2 ⊢
      refine ⟨List.mem_cons_of_mem _ h1, fun y hy => ?_⟩
      rcases List.mem_cons.mp hy with rfl | hy
      · cases z : DatumOrd.lt y (minP k qs) with
        | false => rfl
        | true => rw [← h2 k List.mem_cons_self, lt_trans h z]
      · exact h2 y hy
    · rw [if_neg h] at h1 h2 ⊢
      refine ⟨?_, fun y hy => ?_⟩
      · rcases List.mem_cons.mp h1 with h1 | h1
        · rw [h1]; exact List.mem_cons_self
        · exact List.mem_cons_of_mem _ (List.mem_cons_of_mem _ h1)
      · rcases List.mem_cons.mp hy with rfl | hy
        · exact h2 y List.mem_cons_self
        · rcases List.mem_cons.mp hy with rfl | hy
          · cases z : DatumOrd.lt y (minP q qs) with
            | false => rfl
            | true =>
              -- y less than the least so far, q not above y
              have hq := h2 q List.mem_cons_self
              have e1 : ∀ a b : Int × Int, DatumOrd.lt a b = if a.1 = b.1 then decide (a.2 < b.2) else decide (a.1 < b.1) := fun a b => rfl
              rw [e1] at z hq h
              split at z <;> split at hq <;> split at h <;> simp at z hq h <;> omega
          · exact h2 y (List.mem_cons_of_mem _ hy)
/-- the least pair is this one -/
theorem minP_eq {q : Int × Int} {qs : List (Int × Int)} {m : Int × Int} (h1 : m ∈ q :: qs) (h2 : ∀ y ∈ q :: qs, DatumOrd.lt y m = false) : minP q qs = m := by
  obtain ⟨k1, k2⟩ := minP_spec qs q
  have z1 := h2 _ k1
  have z2 := k2 _ h1
  have e1 : ∀ a b : Int × Int, DatumOrd.lt a b = if a.1 = b.1 then decide (a.2 < b.2) else decide (a.1 < b.1) := fun a b => rfl
  rw [e1] at z1 z2
  have : (minP q qs).1 = m.1 ∧ (minP q qs).2 = m.2 := by
    split at z1 <;> split at z2 <;> simp at z1 z2 <;> omega
  exact Prod.ext this.1 this.2
/-! ### where in a list -/
section
variable {α : Type} [DecidableEq α]
def pos0 (a : α) : List α → Nat
  | [] => 0
  | x :: xs => if x = a then 0 else pos0 a xs + 1
theorem pos0_at {a : α} : ∀ {xs : List α}, a ∈ xs → xs[pos0 a xs]? = some a
  | x :: xs, h => by
    unfold pos0
    by_cases e : x = a
    · rw [if_pos e, List.getElem?_cons_zero, e]
    · rw [if_neg e, List.getElem?_cons_succ]
      exact pos0_at ((List.mem_cons.mp h).resolve_left fun z => e z.symm)
theorem pos0_first {a : α} : ∀ {xs : List α} {i : Nat}, xs[i]? = some a → pos0 a xs ≤ i
  | [], i, h => by simp at h
  | x :: xs, i, h => by
    unfold pos0
    by_cases e : x = a
    · rw [if_pos e]; exact Nat.zero_le _
    · rw [if_neg e]
      cases i with
      | zero => rw [List.getElem?_cons_zero] at h; exact absurd (Option.some.inj h) e
      | succ i => rw [List.getElem?_cons_succ] at h; have := pos0_first h; omega
variable [En α] [Sh α]
theorem firstIx_en (a : α) : ∀ (xs : List α) (k : Nat), a ∈ xs → firstIx (Datum.toD a) k (xs.map Datum.toD) = some (k + pos0 a xs)
  | x :: xs, k, h => by
    rw [List.map_cons, firstIx, Datum.eqv, pos0]
    by_cases e : x = a
    · simp [e]
    · rw [if_neg (by simpa using e), if_neg e, firstIx_en a xs (k + 1) ((List.mem_cons.mp h).resolve_left fun z => e z.symm)]
      congr 1
      omega
theorem m_index {s : S} {Q : VQ} {xs : List α} {a : α} (h : a ∈ xs) : (evMt .index (.lst (xs.map enc)) [enc a] s).W Q = Q (.int (pos0 a xs : Nat)) s := by
  have h1 := Nat.le_trans (Sh.d (α := α)) (show 40 ≤ 64 by decide)
  have h2 := Nat.le_trans (Sh.d (α := α)) (show 40 ≤ 63 by decide)
  show Res.W (match s.py (enc a), s.pys (xs.map enc) with | some p, some ps => if (SeqAt.shaped p && SeqAt.shaped (.list ps)) = true then (match firstIx p 0 ps with | some i => .ok (.int i) s | none => .stuck) else .stuck | _, _ => .stuck) Q = _
  rw [py_en, pys_en]
  simp only [shaped_en a h1, shapeds_en xs h2, Bool.and_self, if_true, firstIx_en a xs 0 h, Nat.zero_add]
  rfl
end
theorem mem_enum {α : Type} {i : Int} {x : α} : ∀ {xs : List α} {k : Nat}, (i, x) ∈ enumL k xs ↔ ∃ n : Nat, i = k + n ∧ xs[n]? = some x
  | [], k => by simp [enumL]
  | y :: ys, k => by
    rw [enumL, List.mem_cons, mem_enum]
    constructor
    · rintro (h | ⟨n, h1, h2⟩)
      · cases h
        exact ⟨0, by omega, rfl⟩
      · exact ⟨n + 1, by omega, by rw [List.getElem?_cons_succ]; exact h2⟩
    · rintro ⟨n, h1, h2⟩
      cases n with
      | zero =>
        rw [List.getElem?_cons_zero] at h2
        cases h2
        exact .inl (by rw [h1]; simp)
      | succ n =>
        rw [List.getElem?_cons_succ] at h2
        exact .inr ⟨n, by omega, h2⟩
end Mi
set_option Elab.async false
set_option linter.all false
set_option maxRecDepth 100000
set_option maxHeartbeats 4000000
namespace Mi.L86
open PySem PySem.W
open Mi.En (enc)
theorem tab_map (us : List (Pl × NW)) : us.map rdS = (us.map tabR).map Rw.d := by
  rw [List.map_map]
  apply List.map_congr_left
  intro u _
  exact (tabR_d u).symm
theorem rest_map (ps : List Pl) : ps.map (enc : Pl → D) = (ps.map plR).map Rw.d := by
  rw [List.map_map]
  rfl
theorem zip_zero : ∀ {caps : List Int}, (∀ c ∈ caps, 0 ≤ c) → ((caps.map fun _ => (0 : Int)).zip caps).all (fun q => decide (0 ≤ q.1) && decide (q.1 ≤ q.2)) = true
  | [], _ => rfl
  | c :: caps, h => by
    have hc := h c List.mem_cons_self
    rw [List.map_cons, List.zip_cons_cons, List.all_cons, zip_zero fun d hd => h d (List.mem_cons_of_mem _ hd)]
    simp
    exact hc
theorem places_pos {w : Wea} (h : w.Ok) {caps : List Int} (hc : CapOk w caps) : 0 < (placesOf w.sd caps).length := by
  have hs := h.sd1
  have hm : ((0, ⟨caps.map fun _ => 0⟩) : Pl) ∈ placesOf w.sd caps := by
    rw [mem_places]
    unfold within
    simp only [Bool.and_eq_true, decide_eq_true_eq]
    exact ⟨⟨by decide, by show (0 : Int) < w.sd; omega⟩, List.length_map _, zip_zero fun c hm => (hc.c c hm).1⟩
  exact List.length_pos_of_mem hm
theorem nonneg_at : ∀ {ys cs : List Int} {k : Nat} {y : Int}, ys.length = cs.length → (ys.zip cs).all (fun q => decide (0 ≤ q.1) && decide (q.1 ≤ q.2)) = true → ys[k]? = some y → 0 ≤ y
  | [], _, _, _, _, _, h => by simp at h
  | _ :: _, [], _, _, hl, _, _ => by simp at hl
  | a :: ys, c :: cs, 0, y, _, h, e => by
    rw [List.zip_cons_cons, List.all_cons, Bool.and_eq_true] at h
    have := h.1
    simp at this e
    omega
  | a :: ys, c :: cs, k + 1, y, hl, h, e => by
    rw [List.zip_cons_cons, List.all_cons, Bool.and_eq_true] at h
    exact nonneg_at (by simpa using hl) h.2 (by simpa using e)
theorem sl_eT {s : S} {Q : VQ} {xs : List Int} {lo hi : Option Int} : (evSl (eT xs) lo hi s).W Q = Q (.tup ((cutL lo hi xs).map enc)) s := by
  show Q (.tup (cutD (xs.map enc) lo hi)) s = _
  rw [cutD_cut]
theorem ix_eT {s : S} {Q : VQ} {xs : List Int} {k : Int} {x : Int} (h0 : 0 ≤ k) (h : xs[k.toNat]? = some x) : (evIx (eT xs) (.int k) s).W Q = Q (.int x) s := by
  show (evIx (.tup (xs.map enc)) (.int k) s).W Q = _
  simp only [↓wS, ↓wE, ↓wC, ↓wI, wV, wX, wM, wY, wB, wK, at_of h0, List.getElem?_map, h, Option.map_some]
theorem told_keys (w : Wea) (caps : List Int) (goal : Pl) : (toldS w caps goal).map (·.1) = sureK w caps goal := by
  unfold toldS
  rw [List.map_map]
  exact List.map_id _
theorem x_told {s : S} {Q : VQ} {w : Wea} {caps : List Int} {goal g : Pl} (h : g ∈ sureK w caps goal) : (evIx (.lst ((toldS w caps goal).map rdS)) (.int (pos0 g (sureK w caps goal) : Nat)) s).W Q = Q (rdS (g, nwAt w caps goal g)) s := by
  have e : ((toldS w caps goal).map rdS)[pos0 g (sureK w caps goal)]? = some (rdS (g, nwAt w caps goal g)) := by
    unfold toldS
    rw [List.getElem?_map, List.getElem?_map, pos0_at h]
    rfl
  simp only [↓wS, ↓wE, ↓wC, ↓wI, wV, wX, wM, wY, wB, wK, at_nat, e]
theorem set_app {xs : List Int} {k : Nat} (h : k < xs.length) (v : Int) : xs.take k ++ [v] ++ xs.drop (k + 1) = xs.set k v := by
  rw [List.set_eq_take_append_cons_drop, if_pos h]
  simp
section
variable {wf n : Nat} {s : S} {p : Nat}
theorem c_law_right (hp : PotAt s p) (hwf : 602 ≤ wf) : (callN tab wf (n + 10) 52 [.ref p] s).W fun d t => d = .bl true ∧ Mv s p t := by
  refine call_Wex t__law_right rfl ?_
  simp only [↓wS, ↓wE, ↓wC, ↓wI, wV, wX, wM, wY, wB, wK, wT, b__law_right]
  refine Res.W.mono (c_weather_d (n := n + 5) hp (A := 3) (B := 3) (C := 6) (by decide) (by decide) (by decide)) ?_
  rintro d t ⟨w, rfl, hw, hm1⟩
  have h := hw.ok
  simp only [↓wS, ↓wE, ↓wC, ↓wI, wV, wX, wM, wY, wB, wK]
  refine Res.W.mono (c_caps_d (n := n + 7) (hp.mv hm1) h hw.sd) ?_
  rintro d t2 ⟨caps, rfl, hc, _, _, _, hm2⟩
  have hm := hm1.trans hm2
  have U := (Up.refl hp).mv hp hm
  clear hm1 hm2
  have hP := places_600 h hc
  simp only [↓wS, ↓wE, ↓wC, ↓wI, wV, wX, wM, wY, wB, wK, v_repr (py_W _ w) (Fit_wea h), c_law_places U.wf h hc]
  have hne : 0 < ((placesOf w.sd caps).map (enc : Pl → D)).length := by
    rw [List.length_map]
    exact places_pos h hc
  refine Res.W.mono (c_pick (n := n + 7) (U.pot hp) hne (by rw [List.length_map]; omega) fun d hd => by obtain ⟨q, _, rfl⟩ := List.mem_map.mp hd; exact En.low _ _) ?_
  rintro d v ⟨hd, hm3⟩
  obtain ⟨goal, hg, rfl⟩ := List.mem_map.mp hd
  have Uv := U.mv hp hm3
  obtain ⟨l1, l2⟩ := told_len h hc (goal := goal)
  have Wv1 : Wf (v.add (.lst false ((toldS w caps goal).map rdS))) := Uv.wf.add (rdSs_low _)
  have g1 : ((v.add (.lst false ((toldS w caps goal).map rdS))).add (.lst false ((restS w caps goal).map enc))).get v.nx = some (.lst false ((toldS w caps goal).map rdS)) := get_add2
  have g2 : ((v.add (.lst false ((toldS w caps goal).map rdS))).add (.lst false ((restS w caps goal).map enc))).get (v.nx + 1) = some (.lst false ((restS w caps goal).map enc)) := get_nx1
  simp only [↓wS, ↓wE, ↓wC, ↓wI, wV, wX, wM, wY, wB, wK, c_law_sure Uv.wf h hc hg, c_sure_table Uv.wf hwf h hc hg, c_dodge Wv1 hwf h hc hg, v_repr (py_cells g1 g2) (Fit_told h hc), v_repr (py_own _ w caps goal) (Fit_told h hc), c_neself (Fit_told h hc).ok]
  refine ⟨by omega, by omega, ?_⟩
  have non_low : ∀ (m : Nat) (ds : List D), belows m ds = true → belows m (ds ++ [D.non]) = true := fun m ds h => by
    induction ds with
    | nil => rfl
    | cons d ds ih => simp only [List.cons_append, belows, Bool.and_eq_true] at h ⊢; exact ⟨h.1, ih h.2⟩
  have Ux := (Uv.add (c := .lst false ((toldS w caps goal).map rdS ++ [D.non])) (show belows _ _ = true from non_low _ _ (rdSs_low _))).add (c := .lst false ((restS w caps goal).map enc ++ [D.non])) (show belows _ _ = true from non_low _ _ (lows_map _ _))
  generalize hx : (v.add (.lst false ((toldS w caps goal).map rdS ++ [D.non]))).add (.lst false ((restS w caps goal).map enc ++ [D.non])) = x at Ux
  have Wx1 : Wf (x.add (.lst false ((toldS w caps goal).map rdS))) := Ux.wf.add (rdSs_low _)
  have k1 : ((x.add (.lst false ((toldS w caps goal).map rdS))).add (.lst false ((restS w caps goal).map enc))).get x.nx = some (.lst false ((toldS w caps goal).map rdS)) := get_add2
  have k2 : ((x.add (.lst false ((toldS w caps goal).map rdS))).add (.lst false ((restS w caps goal).map enc))).get (x.nx + 1) = some (.lst false ((restS w caps goal).map enc)) := get_nx1
  have Uy := (Ux.add (c := .lst false ((toldS w caps goal).map rdS)) (rdSs_low _)).add (c := .lst false ((restS w caps goal).map enc)) (lows_map _ _)
  simp only [↓wS, ↓wE, ↓wC, ↓wI, wV, wX, wM, wY, wB, wK, wP, c_sure_table Ux.wf hwf h hc hg, c_dodge Wx1 hwf h hc hg, v_repr (py_cells k1 k2) (Fit_told h hc), v_repr (py_own _ w caps goal) (Fit_told h hc), c_neself (Fit_told h hc).ok]
  generalize hy : (x.add (.lst false ((toldS w caps goal).map rdS))).add (.lst false ((restS w caps goal).map enc)) = y at Uy
  refine W_for (fun pre τ t => y = t ∧ ∃ o9 o10 o11, τ = [some (.ref p), some (eW w), some (eT caps), some (.str (yW w).shown), some (.lst ((placesOf w.sd caps).map enc)), some (enc goal), some (.lst ((toldS w caps goal).map rdS)), some (.lst ((restS w caps goal).map enc)), some (.lst [.ref v.nx, .ref (v.nx + 1)]), o9, o10, o11, none, none, none, none, none, none, none, none, none, none, none]) ⟨rfl, none, none, none, rfl⟩ ?_ ?_
  · rintro pre u post τ t hxx ⟨rfl, o9, o10, o11, rfl⟩
    have hu : u ∈ toldS w caps goal := by rw [hxx]; simp
    obtain ⟨m1, m2, m3⟩ := told_mem hu
    have hs := nw_small h hc m1
    rw [← m3] at hs
    have ey : yearsD w caps goal u.1 = .int u.2.1 := by unfold yearsD; rw [if_pos (isin_iff.mpr m1), ← m3]
    have hfit : Fit 16777216 64 (.list [.int u.2.1, .int u.2.1]) := Fit_ints2 (by omega) (by omega)
    simp only [↓wS, ↓wE, ↓wC, ↓wI, wV, wX, wM, wY, wB, wK, rdS, wP, c_years_to (n := n) Uy.wf hwf h hc hg m2, ey, v_repr (py_ints2 _ _ _) hfit, c_neself hfit.ok]
    exact ⟨_, _, _, rfl⟩
  rintro τ t ⟨rfl, o9, o10, o11, rfl⟩
  simp only [↓wS, ↓wE, ↓wC, ↓wI, wV, wX, wM, wY, wB, wK]
  refine ⟨by omega, W_neN (fun _ => false) (fun q => q) (fun q hq => ?_) ?_⟩
  · have hqq := mem_restS.mp hq
    have ey : yearsD w caps goal q = .non := by unfold yearsD; rw [if_neg (by rw [isin_iff]; exact hqq.2)]
    simp only [↓wS, ↓wE, ↓wC, ↓wI, wV, wX, wM, wY, wB, wK, c_years_to (n := n) Uy.wf hwf h hc hg hqq.1, ey]
    exact ⟨rfl, rfl⟩
  rw [show (restS w caps goal).any (fun _ => false) = false by simp]
  have hb1 : ∀ t, Up s p t → (callN tab wf (n + 9) 51 [.ref p, .lst ((toldS w caps goal).map rdS)] t).W fun d u => ∃ v : Vl, d = v.d ∧ VlK v ∧ Mv t p u := fun t Ut => by
    rw [tab_map]
    exact c_bent (n := n + 6) (Ut.pot hp) (table_bd h hc) (by rw [List.length_map]; omega)
  have hb2 : ∀ t, Up s p t → (callN tab wf (n + 9) 51 [.ref p, .lst ((restS w caps goal).map enc)] t).W fun d u => ∃ v : Vl, d = v.d ∧ VlK v ∧ Mv t p u := fun t Ut => by
    rw [rest_map]
    exact c_bent (n := n + 6) (Ut.pot hp) (rest_bd h hc) (by rw [List.length_map]; omega)
  simp only [↓wS, ↓wE, ↓wC, ↓wI, wV, wX, wM, wY, wB, wK, rangeD_up]
  refine ⟨⟨by decide, by decide⟩, by rw [up_len]; decide, W_ex (fun t => Up s p t) VlK Vl.d Uy ?_ ?_⟩
  · intro i _ t Ut
    simp only [↓wS, ↓wE, ↓wC, ↓wI, wV, wX, wM, wY, wB, wK]
    refine (hb1 t Ut).mono ?_
    rintro d u ⟨v, rfl, hv, hm⟩
    simp only [↓wS, ↓wE, ↓wC, ↓wI, wV, wX, wM, wY, wB, wK]
    exact ⟨v, rfl, Ut.mv hp hm, hv⟩
  intro vs1 z hl1 hv1 Uz
  rw [up_len] at hl1
  simp only [↓wS, ↓wE, ↓wC, ↓wI, wV, wX, wM, wY, wB, wK, rangeD_up]
  refine ⟨by simp only [List.length_append, List.length_cons, List.length_nil, List.length_map, hl1]; decide, ⟨by decide, by decide⟩, by rw [up_len]; decide, W_ex (fun t => Up s p t) VlK Vl.d Uz ?_ ?_⟩
  · intro i _ t Ut
    simp only [↓wS, ↓wE, ↓wC, ↓wI, wV, wX, wM, wY, wB, wK]
    refine (hb2 t Ut).mono ?_
    rintro d u ⟨v, rfl, hv, hm⟩
    simp only [↓wS, ↓wE, ↓wC, ↓wI, wV, wX, wM, wY, wB, wK]
    exact ⟨v, rfl, Ut.mv hp hm, hv⟩
  intro vs2 z2 hl2 hv2 Uz2
  rw [up_len] at hl2
  obtain ⟨vs, hvs⟩ : ∃ vs : List Vl, vs = [.rows false ((toldS w caps goal).map tabR), .rows false ((restS w caps goal).map plR), .rows false [], .non, .int 0] ++ vs1 ++ vs2 := ⟨_, rfl⟩
  have hvok : ∀ v ∈ vs, VlK v := by
    intro v hv
    rw [hvs] at hv
    rcases List.mem_append.mp hv with hv | hv
    · rcases List.mem_append.mp hv with hv | hv
      · simp only [List.mem_cons, List.not_mem_nil, or_false] at hv
        rcases hv with rfl | rfl | rfl | rfl | rfl
        · exact vlk_of (fun r hr => (table_bd h hc r hr).k) (by rw [List.length_map]; omega)
        · exact vlk_of (fun r hr => (rest_bd h hc r hr).k) (by rw [List.length_map]; omega)
        · exact vlk_of (fun r hr => by cases hr) (by decide)
        · trivial
        · trivial
      · exact hv1 v hv
    · exact hv2 v hv
  have hlist : [.lst ((toldS w caps goal).map rdS), .lst ((restS w caps goal).map enc), .lst [], .non, .int 0] ++ vs1.map Vl.d ++ vs2.map Vl.d = vs.map Vl.d := by
    rw [hvs, List.map_append, List.map_append, tab_map, rest_map]
    rfl
  simp only [↓wS, ↓wE, ↓wC, ↓wI, wV, wX, wM, wY, wB, wK]
  refine ⟨by simp only [List.length_append, List.length_cons, List.length_nil, List.length_map, hl1, hl2]; decide, ?_⟩
  rw [hlist]
  refine W_for (fun pre τ t => Up s p t ∧ ∃ o12 o13, τ = [some (.ref p), some (eW w), some (eT caps), some (.str (yW w).shown), some (.lst ((placesOf w.sd caps).map enc)), some (enc goal), some (.lst ((toldS w caps goal).map rdS)), some (.lst ((restS w caps goal).map enc)), some (.lst [.ref v.nx, .ref (v.nx + 1)]), o9, o10, o11, o12, o13, none, none, none, none, none, none, none, none, none]) ⟨Uz2, none, none, rfl⟩ ?_ ?_
  · rintro pre q post τ t hxx ⟨Ut, o12, o13, rfl⟩
    have hq := hvok q (by rw [hxx]; simp)
    simp only [↓wS, ↓wE, ↓wC, ↓wI, wV, wX, wM, wY, wB, wK, wP, c_law_is_table (n := n + 6) (goal := goal) Ut.wf h hc hq.ok, c_law_is_dodge (n := n + 6) (goal := goal) Ut.wf h hc hq, c_is_sure_table (n := n) Ut.wf h hc hg hq.ok, c_is_dodge (n := n) Ut.wf h hc hg hq, v_repr (py_bls _ _ _) (Fit_bls _ _), c_neself (Fit_bls _ _).ok]
    exact ⟨Ut, _, _, rfl⟩
  rintro τ t ⟨Ut, o12, o13, rfl⟩
  have hfin : ∀ (t : S), Up s p t → ∃ u, u.nx = s.nx ∧ Wf u ∧ Over u t ∧ below s.nx (D.bl true) = true ∧ Mv s p u := fun t Ut => Up.done (d := .bl true) (P := fun _ u => Mv s p u) hp Ut rfl fun u m => m
  have hKl : (sureK w caps goal).length ≤ 600 := by rw [← told_keys, List.length_map]; exact l1
  have hpl : ∀ g ∈ placesOf w.sd caps, g.2.items.length ≤ 64 := fun g hg => by have := place_len h hc hg; omega
  have rest : ∀ (t : S) (g : Pl) (left : Int) (o11 o17 : Option D), Up s p t → g ∈ placesOf w.sd caps → atG goal g = true → (evSs (cc tab wf (n + 9)) (.cons (.set 18 (.call 38 (.cons (.slot 0) (.cons (.bi .len (.cons (.slot 2) .nil)) .nil)))) (.cons (.set 19 (.tup (.cons (.ix (.slot 5) (.cst (.int 0))) (.cons (.bin .add (.bin .add (.sl (.ix (.slot 5) (.cst (.int 1))) .no (.so (.slot 18))) (.tup (.cons (.bi .max2 (.cons (.cst (.int 0)) (.cons (.bin .sub (.ix (.ix (.slot 5) (.cst (.int 1))) (.slot 18)) (.cst (.int 1))) .nil))) .nil))) (.sl (.ix (.slot 5) (.cst (.int 1))) (.so (.bin .add (.slot 18) (.cst (.int 1)))) .no)) .nil)))) (.cons (.set 20 (.comp false (.tp (.cons (.nm 9) (.cons (.nm 10) (.cons (.nm 22) .nil)))) (.it (.frz (.call 72 (.cons (.slot 1) (.cons (.slot 2) (.cons (.slot 19) .nil)))))) .no (.slot 9) [9, 10, 22])) (.cons (.ret (.and (.call 77 (.cons (.slot 5) (.cons (.slot 14) .nil))) (.and (.cmp .eq (.comp false (.nm 9) (.it (.slot 16)) (.so (.cmp .notin (.slot 9) (.slot 20))) (.slot 9) [9]) (.lst .nil)) (.cmp .eq (.bi .repr (.cons (.slot 1) .nil)) (.slot 3))))) .nil)))) [some (.ref p), some (eW w), some (eT caps), some (.str (yW w).shown), some (.lst ((placesOf w.sd caps).map enc)), some (enc goal), some (.lst ((toldS w caps goal).map rdS)), some (.lst ((restS w caps goal).map enc)), some (.lst [.ref v.nx, .ref (v.nx + 1)]), o9, o10, o11, o12, o13, some (enc g), some (.int left), some (.lst ((sureK w caps goal).map enc)), o17, none, none, none, none, none] t).W (fun _ _ => False) (fun d t => ∃ u, u.nx = s.nx ∧ Wf u ∧ Over u t ∧ below s.nx d = true ∧ d = .bl true ∧ Mv s p u) noT noT := by
    intro t g left o11 o17 Ut hgp hat
    have hcl : (caps.length : Int) = w.sk := hc.l
    have hsk := h.sk1
    have hsk3 := h.sk3
    simp only [↓wS, ↓wE, ↓wC, ↓wI, wV, wX, wM, wY, wB, wK, wW]
    refine (c_draw (n := n + 8) (Ut.pot hp) (by omega) (by omega)).mono ?_
    rintro d u ⟨k, rfl, hk0, hk1, hm⟩
    have Uu := Ut.mv hp hm
    have hgl : goal.2.items.length = caps.length := within_len (mem_places.mp hg)
    have hlt : k.toNat < goal.2.items.length := by omega
    have hx : goal.2.items[k.toNat]? = some (goal.2.items[k.toNat]'hlt) := List.getElem?_eq_getElem hlt
    generalize goal.2.items[k.toNat]'hlt = x at hx
    have hk2 : 0 ≤ k + 1 := by omega
    have hx0 : 0 ≤ x := by
      have hw := mem_places.mp hg
      unfold within at hw
      simp only [Bool.and_eq_true] at hw
      exact nonneg_at hgl hw.2.2 hx
    obtain ⟨v0, hv0⟩ : ∃ v0 : Int, v0 = if 0 < x - 1 then x - 1 else 0 := ⟨_, rfl⟩
    have hv1 : 0 ≤ v0 ∧ v0 ≤ x := by rw [hv0]; split <;> omega
    have hv2 : ∀ y, goal.2.items[k.toNat]? = some y → v0 ≤ y := fun y hy => by rw [hx] at hy; cases hy; exact hv1.2
    have hlg := less_in hg (k := k.toNat) hv1.1 hv2
    have eL : (D.tup [.int goal.1, .tup ((goal.2.items.take k.toNat).map enc ++ [D.int v0] ++ (goal.2.items.drop (k + 1).toNat).map enc)] : D) = enc ((goal.1, ⟨goal.2.items.set k.toNat v0⟩) : Pl) := by
      have e1 : (goal.2.items.take k.toNat).map enc ++ [D.int v0] ++ (goal.2.items.drop (k + 1).toNat).map enc = (goal.2.items.set k.toNat v0).map enc := by
        rw [← set_app hlt v0, List.map_append, List.map_append, show (k + 1).toNat = k.toNat + 1 by omega]
        rfl
      rw [e1]
      rfl
    have hcc := caps_len h hc
    have t1 : (goal.2.items.take k.toNat).length ≤ 3 := by rw [List.length_take]; omega
    have t2 : (goal.2.items.drop (k + 1).toNat).length ≤ 3 := by rw [List.length_drop]; omega
    simp only [↓wS, ↓wE, ↓wC, ↓wI, wV, wX, wM, wY, wB, wK, wW, sl_eT, cutL_to hk0, cutL_from hk2, ix_eT hk0 hx, ← hv0]
    simp only [List.length_append, List.length_map, List.length_cons, List.length_nil]
    refine ⟨by omega, by omega, ?_⟩
    rw [eL]
    obtain ⟨j1, _⟩ := told_len h hc (goal := (goal.1, ⟨goal.2.items.set k.toNat v0⟩))
    simp only [↓wS, ↓wE, ↓wC, ↓wI, wV, wX, wM, wY, wB, wK, c_sure_table Uu.wf hwf h hc hlg]
    have Uw := Uu.add (c := .lst true ((toldS w caps (goal.1, ⟨goal.2.items.set k.toNat v0⟩)).map rdS)) (rdSs_low _)
    refine ⟨by omega, W_map (fun u : Pl × NW => enc u.1) (fun u _ => by simp only [↓wS, ↓wE, ↓wC, ↓wI, wV, wX, wM, wY, wB, wK, rdS]) ?_⟩
    rw [show ((toldS w caps (goal.1, ⟨goal.2.items.set k.toNat v0⟩)).map fun u => (enc u.1 : D)) = ((toldS w caps (goal.1, ⟨goal.2.items.set k.toNat v0⟩)).map (·.1)).map enc by rw [List.map_map]; rfl, told_keys]
    simp only [↓wS, ↓wE, ↓wC, ↓wI, wV, wX, wM, wY, wB, wK, c_law_at (goal := goal) Uw.wf (hpl g hgp), hat]
    refine ⟨by omega, W_eqN (fun q => !isin q (sureK w caps (goal.1, ⟨goal.2.items.set k.toNat v0⟩))) (fun q => q) (fun q _ => ?_) ?_⟩
    · simp only [↓wS, ↓wE, ↓wC, ↓wI, wV, wX, wM, wY, wB, wK]
      exact brT_if rfl fun _ => by simp only [↓wS, ↓wE, ↓wC, ↓wI, wV, wX, wM, wY, wB, wK]
    have hno : ((sureK w caps goal).any fun q => !isin q (sureK w caps (goal.1, ⟨goal.2.items.set k.toNat v0⟩))) = false := by
      rw [List.any_eq_false]
      intro q hq
      rw [isin_neg]
      exact fun z => z (easier hv2 q hq)
    rw [hno]
    simp only [↓wS, ↓wE, ↓wC, ↓wI, wV, wX, wM, wY, wB, wK, v_repr (py_W _ w) (Fit_wea h), c_eqs (Fit_wea h).ok (Fit_wea h).ok, eq_self]
    exact hfin _ Uw
  simp only [↓wS, ↓wE, ↓wC, ↓wI, wV, wX, wM, wY, wB, wK]
  have hgF : goal ∈ fsts (sureF w caps goal) := by
    refine final_closed (places_nodup _ _) hg ?_
    unfold sureP
    rw [at_self]
    rfl
  have hne2 : 0 < ((toldS w caps goal).map rdS).length := by
    rw [List.length_map, ← List.length_map (f := fun u : Pl × NW => u.1), told_keys]
    exact List.length_pos_of_mem (mem_sureK.mpr hgF)
  refine Res.W.mono (c_pick (n := n + 7) (Ut.pot hp) hne2 (by rw [List.length_map]; omega) fun d hd => by obtain ⟨q, _, rfl⟩ := List.mem_map.mp hd; exact rdS_low _) ?_
  rintro d u ⟨hd, hm⟩
  have Uu := Ut.mv hp hm
  obtain ⟨u0, hu0, rfl⟩ := List.mem_map.mp hd
  obtain ⟨m1, m2, m3⟩ := told_mem hu0
  have hns := nw_small h hc m1
  rw [← m3] at hns
  obtain ⟨⟨g0, n0⟩, hq0, e0⟩ := List.mem_map.mp m1
  have e0 : g0 = u0.1 := e0
  have en0 : u0.2.1 = n0 := by rw [m3, ← e0, nw_mem hq0]; rfl
  simp only [↓wS, ↓wE, ↓wC, ↓wI, wV, wX, wM, wY, wB, wK, rdS]
  refine ⟨by omega, W_map (fun u : Pl × NW => enc u.1) (fun u _ => by simp only [↓wS, ↓wE, ↓wC, ↓wI, wV, wX, wM, wY, wB, wK, rdS]) ?_⟩
  rw [show ((toldS w caps goal).map fun u => (enc u.1 : D)) = ((toldS w caps goal).map (·.1)).map enc by rw [List.map_map]; rfl, told_keys]
  simp only [↓wS, ↓wE, ↓wC, ↓wI, wV, wX, wM, wY, wB, wK, rangeD_up]
  refine ⟨by omega, W_for (fun pre τ t => Up s p t ∧ ∃ (g : Pl) (m : Int) (left : Int) (o11 o17 : Option D), left = u0.2.1 ∧ (g, m) ∈ sureF w caps goal ∧ m + pre.length ≤ left ∧ τ = [some (.ref p), some (eW w), some (eT caps), some (.str (yW w).shown), some (.lst ((placesOf w.sd caps).map enc)), some (enc goal), some (.lst ((toldS w caps goal).map rdS)), some (.lst ((restS w caps goal).map enc)), some (.lst [.ref v.nx, .ref (v.nx + 1)]), o9, o10, o11, o12, o13, some (enc g), some (.int left), some (.lst ((sureK w caps goal).map enc)), o17, none, none, none, none, none]) ⟨Uu, u0.1, n0, u0.2.1, some (oD u0.2.2), none, rfl, by rw [← e0]; exact hq0, by simp; omega, rfl⟩ ?_ ?_⟩
  · rintro pre k post τ t hxx ⟨Ut, g, m, left, o11, o17, hleft, hgm, hml, rfl⟩
    have hgF : g ∈ fsts (sureF w caps goal) := List.mem_map.mpr ⟨_, hgm, rfl⟩
    have hgp : g ∈ placesOf w.sd caps := final_sub (places_nodup _ _) hgF
    simp only [↓wS, ↓wE, ↓wC, ↓wI, wV, wX, wM, wY, wB, wK, c_law_at (goal := goal) Ut.wf (hpl g hgp)]
    refine brS_by (fun hat => ?_) (fun hat => ?_)
    · rw [s_cons, s_brk]
      exact Fl.W.mono (rest t g left o11 _ Ut hgp hat) (fun _ _ h => h.elim) (fun _ _ h => h) (fun _ _ h => h) (fun _ _ h => h)
    · obtain ⟨i, hi, hil, hall⟩ := way_spec h hgm hat
      have hi : nwAt w caps goal g = (m, some i) := hi
      obtain ⟨st, h0, h1, h2, h3⟩ := letL_comes h hil
      have ho := (h.st st (List.mem_of_getElem? h1)).o1
      have ho3 := (h.st st (List.mem_of_getElem? h1)).o3
      have hxr : ∀ (s : S) (Q : VQ), (evIx (rdS (g, ((m, some i) : NW))) (.int 2) s).W Q = Q (.int i) s := fun s Q => by
        show (evIx (.tup [enc g, .int m, .int i]) (.int 2) s).W Q = _
        simp only [↓wS, ↓wE, ↓wC, ↓wI, wV, wX, wM, wY, wB, wK]
      simp only [↓wS, ↓wE, ↓wC, ↓wI, wV, wX, wM, wY, wB, wK, m_index (mem_sureK.mpr hgF), x_told (mem_sureK.mpr hgF), hi, hxr, c_comes_out Ut.wf h hc h0 h1]
      refine Res.W.mono (c_pick (n := n + 7) (Ut.pot hp) (by rw [List.length_map]; show 0 < (comeL caps g st).length; simp [comeL]; omega) (by rw [List.length_map]; show (comeL caps g st).length < _; simp [comeL]; omega) fun d hd => by obtain ⟨q, _, rfl⟩ := List.mem_map.mp hd; exact En.low _ _) ?_
      rintro d u2 ⟨hd, hm2⟩
      obtain ⟨g2, hg2, rfl⟩ := List.mem_map.mp hd
      rw [← h3] at hg2
      obtain ⟨m2', hm2', hlt2⟩ := hall g2 hg2
      have hlt2 : m2' < m := hlt2
      simp only [↓wS, ↓wE, ↓wC, ↓wI, wV, wX, wM, wY, wB, wK]
      exact ⟨Ut.mv hp hm2, g2, m2', left, _, _, hleft, hm2', by rw [List.length_append]; simp; omega, rfl⟩
  · rintro τ t ⟨Ut, g, m, left, o11, o17, hleft, hgm, hml, rfl⟩
    have hgF : g ∈ fsts (sureF w caps goal) := List.mem_map.mpr ⟨_, hgm, rfl⟩
    have hgp : g ∈ placesOf w.sd caps := final_sub (places_nodup _ _) hgF
    rw [up_len] at hml
    have hm0 := final_num (places_nodup _ _) hgm
    have hm0 : 0 ≤ m := hm0
    have hz : m = 0 := by omega
    have hat := zero_at h hgm hz
    exact Fl.W.mono (rest t g left o11 _ Ut hgp hat) (fun _ _ h => h.elim) (fun _ _ h => h) (fun _ _ h => h) (fun _ _ h => h)
end
end Mi.L86
set_option Elab.async false
set_option linter.all false
set_option maxRecDepth 100000
set_option maxHeartbeats 400000
namespace Mi.L86
open PySem PySem.W
open Mi.En (enc)
def fuel : Nat := 700
def depth : Nat := 14
theorem law_true : ∀ ns : List Int, ns.length ≤ 63 → ∃ s, callN tab fuel depth 53 [.inp ns] ⟨0, []⟩ = .ok (.bl true) s := by
  intro ns hns
  have W0 : Wf (⟨0, []⟩ : S) := fun p hp => by cases hp
  refine ⟨⟨0, []⟩, call_W (n := 13) t_law rfl W0 rfl ?_⟩
  simp only [↓wS, ↓wE, ↓wC, ↓wI, wV, wX, wM, wY, wB, wK, wT, b_law, rangeD_up]
  obtain ⟨m, hm⟩ : ∃ m : Int, m = (if 1 < (if (ns.length : Int) < 3 then (ns.length : Int) else 3) then (if (ns.length : Int) < 3 then (ns.length : Int) else 3) else 1) := ⟨_, rfl⟩
  rw [← hm]
  have hm0 : 1 ≤ m ∧ m ≤ 3 := by rw [hm]; split <;> (try split) <;> omega
  refine ⟨by omega, by rw [up_len]; omega, W_ex (fun t => Wf t ∧ Over ⟨0, []⟩ t) (fun b : Bool => b = true) D.bl ⟨W0, Over.refl _⟩ ?_ ?_⟩
  · rintro i hi t ⟨Wt, ot⟩
    have hi := mem_up.mp hi
    obtain ⟨a, b, e⟩ := c_pot (n := 12) (wf := fuel) Wt (ns := ns) (k := i) hi.1 (by omega)
    simp only [↓wS, ↓wE, ↓wC, ↓wI, wV, wX, wM, wY, wB, wK, e]
    have hp : PotAt (t.add (pc a b)) t.nx := ⟨Wt.add pc_low, a, b, get_add⟩
    refine (c_law_right (n := 3) (wf := fuel) hp (by decide)).mono ?_
    rintro d u ⟨rfl, c, d, rfl⟩
    simp only [↓wS, ↓wE, ↓wC, ↓wI, wV, wX, wM, wY, wB, wK]
    exact ⟨true, rfl, ⟨Wt.add pc_low, ot.add⟩, rfl⟩
  · rintro bs t hl hb ⟨Wt, ot⟩
    simp only [↓wS, ↓wE, ↓wC, ↓wI, wV, wX, wM, wY, wB, wK]
    have h := v_allm (s := t) (Q := fun x t => x = D.bl true ∧ Over ⟨0, []⟩ t) (xs := bs) (h := fun b => b)
    refine (show _ = _ from h) ▸ ?_
    refine ⟨?_, ot⟩
    rw [List.all_eq_true.mpr hb]
end Mi.L86
set_option Elab.async false
set_option linter.all false
set_option maxRecDepth 100000
set_option maxHeartbeats 0
open PySem PySem.W PySem.Calls PyProof.Rows
theorem PySem.Challenge.cw_neverspent_k86_whole_goals_made_sure_of_holds : PySem.Challenge.rw_neverspent_k86_whole_goals_made_sure_of.Holds := by
  w_on; o_law
  refine HandSHeadRun.head_any (r := OpenLaw.row PySem.Challenge.rw_neverspent_k86_whole_goals_made_sure_of) (q := view (OpenLaw.row PySem.Challenge.rw_neverspent_k86_whole_goals_made_sure_of).prog [70]) (H := Mi.L86.hk) (ob := Mi.L86.ob) (M := 6000) (loose := Mi.L86.names) (d := HandSHeadRun.topDef (OpenLaw.row PySem.Challenge.rw_neverspent_k86_whole_goals_made_sure_of).prog 70) (kwd := []) Mi.L86.ob_eq
    (by kernel_rfl) (fun s => by kernel_rfl) Mi.L86.run (by kernel_rfl) (by kernel_rfl) (by kernel_rfl) (by rfl) (by first | assumption | decide +kernel) (by decide +kernel) ⟨rfl, rfl, rfl, rfl, rfl, by decide +kernel⟩ ?hw ?hc
  case hw => w_witness2
  case hc =>
    refine Mi.walk_law (l := PySem.Challenge.rw_neverspent_k86_whole_goals_made_sure_of) (n := 63) (k := Mi.L86.depth) (wf := Mi.L86.fuel) (fl := 53) (tab := Mi.L86.tab) (x := "script") rfl (by decide) (by kernel_rfl) ⟨rfl, by decide, by decide⟩ ?F Mi.L86.law_true
    intro w mg fa h Y G hmg0
    obtain ⟨K, KX, c⟩ := Y
    have hmg : mg ("law" : PySem.Str) = some (.ref fa) := by
      have e : (HandSHeadRun.topDef (OpenLaw.row PySem.Challenge.rw_neverspent_k86_whole_goals_made_sure_of).prog 70).name = ("law" : PySem.Str) := by kernel_rfl
      rw [← e]
      exact hmg0
    exact Mi.Lw.walkF (l := Mi.L86.lw) (d := Mi.L86.d_law) (wf := Mi.L86.fuel) Mi.L86.lw_ok rfl rfl KX G hmg c
