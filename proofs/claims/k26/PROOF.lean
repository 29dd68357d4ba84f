import PyProof.Rows.All
import Wide.All
import OpenK.AllK
import Wide.FinOn
import HandS.EndBits
import HandS.ForMost
import HandS.ForExc
import HandS.TupAny
import HandS.TupMul
import HandS.TupLe
import HandS.WideBits
import HandS.More
import HandS.Deep
import KE.DataEq
import KE.SortData
import HandS.SortInts
import HandS.Conv
import HandS.Style
import HandS.IsInst
import HandS.ExcOwn
import HandS.SetFor
import HandS.Comp
import HandS.Zip
import HandS.Iter
import HandS.DictComp
import HandS.Flow
import HandS.Exc
import HandS.Small
import KE.DataMinMax
import HandS.ExcValue
import PyProof.TupleOfSeq
import HandS.Strs
import PyProof.Walks
import KE.KIndexOf
import HandS.ForSpec
import HandS.WordsExc
import HandS.Ends
import PySem.Challenge.RW_steadyloads_k26_whole_ends
/-! ## Core -/
/-! A small core language: data, slots, an evaluator. Core Lean alone. -/
set_option autoImplicit false
namespace SL

inductive D where
  | non | bl (b : Bool) | int (i : Int) | str (x : List Nat)
  | tup (ds : List D) | lst (ds : List D) | dct (t : Bool) (ks vs : List D)
  /-- a tuple that stands written at the module's top -/
  | wr (ds : List D)
  deriving Repr, Inhabited

def b2i (b : Bool) : Int := if b then 1 else 0
mutual
def D.eqv : D → D → Bool
  | .non, .non => true
  | .bl a, .bl b => a == b
  | .bl a, .int j => b2i a == j
  | .int i, .bl b => i == b2i b
  | .int i, .int j => i == j
  | .str x, .str y => x == y
  | .tup xs, .tup ys => D.eqvs xs ys
  | .lst xs, .lst ys => D.eqvs xs ys
  | _, _ => false
def D.eqvs : List D → List D → Bool
  | [], [] => true
  | x :: xs, y :: ys => D.eqv x y && D.eqvs xs ys
  | _, _ => false
end

def lexNat : List Nat → List Nat → Bool
  | [], [] => false
  | [], _ :: _ => true
  | _ :: _, [] => false
  | x :: xs, y :: ys => if x = y then lexNat xs ys else decide (x < y)
mutual
/-- x < y, of like data -/
def D.lt : D → D → Bool
  | .int i, .int j => decide (i < j)
  | .str x, .str y => lexNat x y
  | .tup xs, .tup ys => D.lts xs ys
  | .lst xs, .lst ys => D.lts xs ys
  | _, _ => false
def D.lts : List D → List D → Bool
  | [], [] => false
  | [], _ :: _ => true
  | _ :: _, [] => false
  | x :: xs, y :: ys => if D.eqv x y then D.lts xs ys else D.lt x y
end
mutual
/-- the two can be compared -/
def D.like : D → D → Bool
  | .int _, .int _ => true
  | .str _, .str _ => true
  | .tup xs, .tup ys => D.likes xs ys
  | .lst xs, .lst ys => D.likes xs ys
  | _, _ => false
def D.likes : List D → List D → Bool
  | x :: xs, y :: ys => D.like x y && D.likes xs ys
  | _, _ => true
end
mutual
/-- no dicts inside -/
def D.plain : D → Bool
  | .tup xs => D.plains xs
  | .lst xs => D.plains xs
  | .dct _ _ _ => false
  | .wr _ => false
  | _ => true
def D.plains : List D → Bool
  | [] => true
  | x :: xs => D.plain x && D.plains xs
end
mutual
def D.depth : D → Nat
  | .tup xs => D.depths xs + 1
  | .lst xs => D.depths xs + 1
  | _ => 0
def D.depths : List D → Nat
  | [] => 0
  | x :: xs => max (D.depth x) (D.depths xs)
end

/-- data that may be compared -/
def D.fine (d : D) : Bool := d.plain && decide (d.depth ≤ 60)
/-- a name's slot: nothing known; a thing that is never changed; a list or dict of this frame's own; one that a caller lent; one of one's own that is walked just now -/
inductive Slot where
  | no | sh (d : D) | mu (d : D) | br (d : D) | lk (d : D)
  deriving Repr, Inhabited
abbrev Env := List Slot
/-- an expression's value: what stands in a slot; a thing; a new list or dict -/
inductive PV where
  | slot (i : Nat) | sh (d : D) | mu (d : D)
  deriving Repr, Inhabited
inductive Res (α : Type) where
  | ok (a : α) (ρ : Env) | exc (k : Nat) (ρ : Env) | stuck
  deriving Repr
def Res.bind {α β : Type} (r : Res α) (f : α → Env → Res β) : Res β :=
  match r with
  | .ok a ρ => f a ρ
  | .exc k ρ => .exc k ρ
  | .stuck => .stuck
/-- an option, in a state -/
def lift {α : Type} (o : Option α) (ρ : Env) : Res α :=
  match o with
  | some a => .ok a ρ
  | none => .stuck
def liftE (o : Option Env) : Res Unit :=
  match o with
  | some ρ => .ok () ρ
  | none => .stuck
/-- within a comprehension nothing may be raised -/
def Res.calm {α : Type} : Res α → Res α
  | .ok a ρ => .ok a ρ
  | _ => .stuck

def cont : Slot → Option D
  | .no => none
  | .sh d => some d
  | .mu d => some d
  | .br d => some d
  | .lk d => some d
def look (ρ : Env) (i : Nat) : Slot := ρ.getD i .no
/-- what a value is, read -/
def peek (ρ : Env) : PV → Option D
  | .slot i => cont (look ρ i)
  | .sh d => some d
  | .mu d => some d
/-- a value that will be kept elsewhere: it is changed no more -/
def frz (ρ : Env) : PV → Option (D × Env)
  | .slot i => match look ρ i with
    | .sh d => some (d, ρ)
    | .mu d => some (d, ρ.set i (.sh d))
    | _ => none
  | .sh d => some (d, ρ)
  | .mu d => some (d, ρ)
def frzR (r : Res PV) : Res D :=
  r.bind fun p ρ => match frz ρ p with
    | some (d, ρ') => .ok d ρ'
    | none => .stuck
/-- a name may be stored -/
def free (ρ : Env) (i : Nat) : Bool :=
  match look ρ i with
  | .br _ => false
  | .lk _ => false
  | _ => decide (i < ρ.length)
def put (ρ : Env) (i : Nat) (s : Slot) : Option Env := if free ρ i then some (ρ.set i s) else none
/-- a list or dict of a slot, changed -/
def upd (ρ : Env) (i : Nat) (d : D) : Option Env :=
  match look ρ i with
  | .mu _ => some (ρ.set i (.mu d))
  | .br _ => some (ρ.set i (.br d))
  | _ => none
/-- one that may be changed -/
def own (ρ : Env) (i : Nat) : Option D :=
  match look ρ i with
  | .mu d => some d
  | .br d => some d
  | _ => none
/-- .. a list -/
def isL (ρ : Env) (i : Nat) : Bool :=
  match own ρ i with
  | some (.lst _) => true
  | _ => false

inductive Op where
  | add | sub | mul | fdiv | mod | pow
  deriving DecidableEq, Repr
inductive Cmp where
  | eq | ne | lt | le | gt | ge | is | isnot | isin | notin
  deriving DecidableEq, Repr
inductive Ty where
  | int | bool | tup | lst | str
  deriving DecidableEq, Repr
inductive Bi where
  | len | abs | max | min | max2 | min2 | sum | sorted | tuple | list | all | any | int | str | lenset | sortset | dict
  deriving DecidableEq, Repr
inductive Tgt where
  | nm (i : Nat) | tp (ts : List Tgt)
  deriving Repr

inductive CE where
  | var (i : Nat) | cst (d : D) | glb (x : String) (d : D)
  | tup (es : List CE) | lst (es : List CE) | dnew
  | bin (o : Op) (a b : CE) | lrep (es : List CE) (k : CE) | neg (a : CE) | not (a : CE)
  | and (es : List CE) | or (es : List CE)
  | cmp (o : Cmp) (a b : CE) | chain (o p : Cmp) (a b c : CE)
  | ite (c a b : CE)
  | call (f : Nat) (ks : List Bool) (es : List CE)
  | bi (b : Bi) (es : List CE)
  | isi (t : Ty) (e : CE)
  | idx (o i : CE) | slc (o : CE) (lo hi : List CE) | rev (o : CE)
  | comp (own : List Nat) (t : Tgt) (it : CE) (cs : List CE) (elt : CE)
  | comp2 (own : List Nat) (t : Tgt) (it : CE) (cs : List CE) (own2 : List Nat) (t2 : Tgt) (it2 : CE) (cs2 : List CE) (elt : CE)
  | dcomp (own : List Nat) (t : Tgt) (it : CE) (cs : List CE) (k v : CE)
  | app (i : Nat) (e : CE) | ext (i : Nat) (e : CE) | pop (i : Nat) | popAt (i : Nat) (e : CE) | rem (i : Nat) (e : CE)
  | index (o e : CE)
  | rng1 (a : CE) | rng2 (a b : CE) | zip (a b : CE) | enum (a : CE)
  | listRng (a : CE) | tupRng (a : CE) | listZip (a b : CE)
  deriving Repr
inductive CS where
  | asg (i : Nat) (e : CE)
  | unp (t : Tgt) (e : CE)
  | par (is : List Nat) (es : List CE)
  | setI (i : Nat) (k e : CE)
  | swap (i : Nat) (k : CE) (j : Nat) (l : CE) (e f : CE)
  | aug (o : Op) (i : Nat) (e : CE)
  | ex (e : CE)
  | ite (c : CE) (t f : List CS)
  | for (t : Tgt) (it : CE) (b : List CS)
  | wh (c : CE) (b : List CS)
  | ret (e : CE)
  | raise (k : Nat)
  | pass
  deriving Repr
inductive Flow where
  | nx | ret (r : PV)
  deriving Repr

/-! ### operations by values -/
def lim : Nat := 1000000
def mulOk (i j : Int) : Bool := decide (i.natAbs < 2 ^ 64) || (decide (j.natAbs < 2 ^ 64) || decide (i.natAbs.log2 + j.natAbs.log2 < 100000000))
def digs (n : Int) : Nat := if n == 0 then 0 else n.natAbs.log2 / 30 + 1
def divOk (i j : Int) : Bool := decide (0 < j) && !(decide (digs j > 300) && decide (digs i > digs j + 150))
def powOk (i j : Int) : Bool := decide (0 ≤ j) && decide (j ≤ 1000) && decide (i.natAbs < 2 ^ 64)
def rep {α : Type} (n : Nat) (xs : List α) : List α := (List.replicate n xs).flatten
/-- a op b; the Bool: a new list -/
def binop : Op → D → D → Option PV
  | .add, .int i, .int j => some (.sh (.int (i + j)))
  | .add, .tup xs, .tup ys => if xs.length + ys.length ≤ lim then some (.sh (.tup (xs ++ ys))) else none
  | .add, .lst xs, .lst ys => if xs.length + ys.length ≤ lim then some (.mu (.lst (xs ++ ys))) else none
  | .add, .str x, .str y => if x.length + y.length ≤ lim then some (.sh (.str (x ++ y))) else none
  | .sub, .int i, .int j => some (.sh (.int (i - j)))
  | .mul, .int i, .int j => if mulOk i j then some (.sh (.int (i * j))) else none
  | .mul, .tup xs, .int k => if ¬ xs.isEmpty ∧ xs.length ≤ 1000 ∧ 1 ≤ k ∧ k ≤ 1000 then some (.sh (.tup (rep k.toNat xs))) else none
  | .fdiv, .int i, .int j => if divOk i j then some (.sh (.int (i / j))) else none
  | .mod, .int i, .int j => if 0 < j then some (.sh (.int (i % j))) else none
  | .pow, .int i, .int j => if powOk i j then some (.sh (.int (i ^ j.toNat))) else none
  | _, _, _ => none
def isInt : D → Bool
  | .int _ => true
  | _ => false
/-- a key of a dict: of tuples of intsD, or of intsD -/
def keyOk (t : Bool) : D → Bool
  | .int _ => !t
  | .tup ds => t && ds.all isInt
  | _ => false
def cmpop : Cmp → D → D → Option Bool
  | .eq, a, b => if a.fine && b.fine then some (a.eqv b) else none
  | .ne, a, b => if a.fine && b.fine then some (!a.eqv b) else none
  | .lt, a, b => if a.like b && a.fine && b.fine then some (a.lt b) else none
  | .le, .int i, .int j => some (decide (i ≤ j))
  | .gt, .int i, .int j => some (decide (j < i))
  | .ge, .int i, .int j => some (decide (j ≤ i))
  | .is, a, .non => some (match a with | .non => true | _ => false)
  | .isnot, a, .non => some (match a with | .non => false | _ => true)
  | .is, .bl a, .bl b => some (a == b)
  | .isnot, .bl a, .bl b => some (!(a == b))
  | .isin, a, .lst xs => if a.fine && (D.lst xs).fine then some (xs.any fun x => x.eqv a) else none
  | .isin, a, .tup xs => if a.fine && (D.lst xs).fine then some (xs.any fun x => x.eqv a) else none
  | .isin, a, .dct t ks _ => if keyOk t a then some (ks.any fun x => x.eqv a) else none
  | .notin, a, .lst xs => if a.fine && (D.lst xs).fine then some (!xs.any fun x => x.eqv a) else none
  | .notin, a, .tup xs => if a.fine && (D.lst xs).fine then some (!xs.any fun x => x.eqv a) else none
  | .notin, a, .dct t ks _ => if keyOk t a then some (!ks.any fun x => x.eqv a) else none
  | _, _, _ => none
def isTy : Ty → D → Bool
  | .int, .int _ => true
  | .int, .bl _ => true
  | .bool, .bl _ => true
  | .tup, .tup _ => true
  | .tup, .wr _ => true
  | .lst, .lst _ => true
  | .str, .str _ => true
  | _, _ => false
def asInt : D → Option Int
  | .int i => some i
  | _ => none
def asBool : D → Option Bool
  | .bl b => some b
  | _ => none
def intsD (ds : List D) : Option (List Int) := ds.mapM asInt
def bools (ds : List D) : Option (List Bool) := ds.mapM asBool
def least : Int → List Int → Int
  | m, [] => m
  | m, x :: xs => least (if x < m then x else m) xs
def most : Int → List Int → Int
  | m, [] => m
  | m, x :: xs => most (if m < x then x else m) xs
def leastD : D → List D → D
  | m, [] => m
  | m, x :: xs => leastD (if x.lt m then x else m) xs
def alikeAll (ds : List D) : Bool := ds.all fun x => ds.all fun y => x.like y
def headed : D → Bool
  | .tup [] => false
  | _ => true
def sortD (ds : List D) : List D := ds.mergeSort fun x y => !y.lt x
def items : D → Option (List D)
  | .lst ds => some ds
  | .tup ds => some ds
  | .wr ds => some ds
  | _ => none
/-- put where it belongs, if it is not there -/
def insR (k : Int) : List Int → List Int
  | [] => [k]
  | x :: xs => if k < x then k :: x :: xs else if k = x then x :: xs else x :: insR k xs
/-- of a list's ints each once, rising -/
def riseI : List Int → List Int
  | [] => []
  | x :: xs => insR x (riseI xs)
/-- of equal things the first -/
def dedup : List D → List D
  | [] => []
  | x :: xs => x :: (dedup xs).filter fun y => !y.eqv x
def bi1 : Bi → D → Option PV
  | .len, .lst ds => some (.sh (.int ds.length))
  | .len, .tup ds => some (.sh (.int ds.length))
  | .len, .dct false ks _ => some (.sh (.int ks.length))
  | .len, .str x => if x.length ≤ lim then some (.sh (.int x.length)) else none
  | .abs, .int i => some (.sh (.int (if i < 0 then -i else i)))
  | .max, .lst ds => match intsD ds with
    | some (x :: xs) => some (.sh (.int (most x xs)))
    | _ => none
  | .max, .tup ds => match intsD ds with
    | some (x :: xs) => some (.sh (.int (most x xs)))
    | _ => none
  | .min, .lst ds => if alikeAll ds && (D.lst ds).fine then match ds with
    | d :: r => some (.sh (leastD d r))
    | [] => none
    else none
  | .min, .tup ds => if alikeAll ds && (D.lst ds).fine then match ds with
    | d :: r => some (.sh (leastD d r))
    | [] => none
    else none
  | .sum, .lst ds => match intsD ds with
    | some xs => some (.sh (.int xs.sum))
    | none => none
  | .sorted, .lst ds => if alikeAll ds && ds.all headed && (D.lst ds).fine then some (.mu (.lst (sortD ds))) else none
  | .sorted, .tup ds => if alikeAll ds && ds.all headed && (D.lst ds).fine then some (.mu (.lst (sortD ds))) else none
  | .tuple, .lst ds => some (.sh (.tup ds))
  | .tuple, .tup ds => some (.sh (.tup ds))
  | .list, .lst ds => some (.mu (.lst ds))
  | .list, .tup ds => some (.mu (.lst ds))
  | .list, .dct false ks _ => some (.mu (.lst ks))
  | .all, .lst ds => match bools ds with
    | some bs => some (.sh (.bl (bs.all id)))
    | none => none
  | .any, .lst ds => match bools ds with
    | some bs => some (.sh (.bl (bs.any id)))
    | none => none
  | .int, .bl b => some (.sh (.int (b2i b)))
  | .int, .int i => some (.sh (.int i))
  | .lenset, .lst ds => match intsD ds with
    | some _ => if ds.length ≤ 4000 then some (.sh (.int (dedup ds).length)) else none
    | none => none
  | .lenset, .tup ds => match intsD ds with
    | some _ => if ds.length ≤ 4000 then some (.sh (.int (dedup ds).length)) else none
    | none => none
  | .sortset, .lst ds => match intsD ds with
    | some ns => if ds.length ≤ 4000 ∧ (riseI ns).length < 64 then some (.mu (.lst ((riseI ns).map .int))) else none
    | none => none
  | .sortset, .tup ds => match intsD ds with
    | some ns => if ds.length ≤ 4000 ∧ (riseI ns).length < 64 then some (.mu (.lst ((riseI ns).map .int))) else none
    | none => none
  | .dict, .dct false ks vs => some (.mu (.dct false ks vs))
  | _, _ => none
def bi2 : Bi → D → D → Option PV
  | .max2, .int i, .int j => some (.sh (.int (if j > i then j else i)))
  | .min2, .int i, .int j => some (.sh (.int (if j < i then j else i)))
  | _, _, _ => none
def bi (b : Bi) : List D → Option PV
  | [d] => bi1 b d
  | [d, e] => bi2 b d e
  | _ => none
/-- a place in a list -/
def place (n : Nat) (i : Int) : Option Nat :=
  if 0 ≤ i then (if i < n then some i.toNat else none) else if -(n : Int) ≤ i then some (i + n).toNat else none
def dget : List D → List D → D → Option D
  | k :: ks, v :: vs, x => if k.eqv x then some v else dget ks vs x
  | _, _, _ => none
/-- the values, that of x replaced -/
def dset : List D → List D → D → D → List D
  | k :: ks, v :: vs, x, y => (if k.eqv x then y else v) :: dset ks vs x y
  | _, _, _, _ => []
def dput (ks vs : List D) (x y : D) : List D × List D := if ks.any (fun k => k.eqv x) then (ks, dset ks vs x y) else (ks ++ [x], vs ++ [y])
def item : D → D → Option D
  | .lst ds, .int i => (place ds.length i).bind fun j => ds[j]?
  | .tup ds, .int i => (place ds.length i).bind fun j => ds[j]?
  | .wr ds, .int i => (place ds.length i).bind fun j => ds[j]?
  | .str x, .int i => if x.length ≤ lim then (place x.length i).bind fun j => (x[j]?).map fun c => .str [c] else none
  | .dct t ks vs, x => if keyOk t x then dget ks vs x else none
  | _, _ => none
def edge (n : Nat) (i : Int) : Nat := if 0 ≤ i then min i.toNat n else (i + n).toNat
def cut {α : Type} (xs : List α) (lo hi : Option Int) : List α :=
  let a := match lo with | some i => edge xs.length i | none => 0
  let b := match hi with | some i => edge xs.length i | none => xs.length
  (xs.drop a).take (b - a)
def slice (lo hi : Option Int) : D → Option PV
  | .lst ds => some (.mu (.lst (cut ds lo hi)))
  | .tup ds => some (.sh (.tup (cut ds lo hi)))
  | .str x => if x.length ≤ lim then some (.sh (.str (cut x lo hi))) else none
  | _ => none
def revD : D → Option PV
  | .lst ds => some (.mu (.lst ds.reverse))
  | .tup ds => some (.sh (.tup ds.reverse))
  | _ => none
def zipV (xs ys : List D) : List D := (xs.zip ys).map fun p => .tup [p.1, p.2]
def zipD : D → D → Option (List D)
  | .lst xs, .lst ys => some (zipV xs ys)
  | .tup xs, .tup ys => some (zipV xs ys)
  | .tup xs, .wr ys => some (zipV xs ys)
  | .wr xs, .tup ys => some (zipV xs ys)
  | .wr xs, .wr ys => some (zipV xs ys)
  | _, _ => none
def range (a b : Int) : List D := (List.range (b - a).toNat).map fun k => .int (a + (k : Nat))
def enumFrom : Nat → List D → List D
  | _, [] => []
  | n, x :: xs => .tup [.int n, x] :: enumFrom (n + 1) xs

mutual
def setT (ρ : Env) : Tgt → D → Option Env
  | .nm i, d => put ρ i (.sh d)
  | .tp ts, .tup ds => setTs ρ ts ds
  | .tp _, _ => none
def setTs (ρ : Env) : List Tgt → List D → Option Env
  | [], [] => some ρ
  | t :: ts, d :: ds => match setT ρ t d with
    | some ρ' => setTs ρ' ts ds
    | none => none
  | _, _ => none
end
/-- the block's own names forgotten -/
def wipe (ρ : Env) : List Nat → Env
  | [] => ρ
  | i :: is => (wipe ρ is).set i .no
/-- back from a block: its own names are as they were -/
def unwipe (ρ0 ρ : Env) : List Nat → Env
  | [] => ρ
  | i :: is => (unwipe ρ0 ρ is).set i (look ρ0 i)
def still (ρ : Env) (own : List Nat) : Bool := own.all fun i => match look ρ i with | .no => true | .sh _ => true | _ => false

/-- the walked list is still locked -/
def guard (o : Option Nat) (ρ : Env) : Bool :=
  match o with
  | none => true
  | some i => match look ρ i with
    | .lk _ => true
    | _ => false
/-- the turns of a comprehension: what is made so far -/
def turns (o : Option Nat) (own : List Nat) (t : Tgt) (body : Env → List D → Res (List D)) : List D → List D → Env → Res (List D)
  | [], acc, ρ => if guard o ρ then .ok acc ρ else .stuck
  | x :: xs, acc, ρ => if guard o ρ then match setT (wipe ρ own) t x with
      | none => .stuck
      | some ρ1 => (body ρ1 acc).calm.bind fun acc' ρ2 => turns o own t body xs acc' ρ2
    else .stuck
/-- a comprehension over items: the names' slots as they were, the walked list locked -/
def block (own : List Nat) (p : PV) (ρ : Env) (run : Option Nat → Env → Res (List D)) : Res (List D) :=
  if still ρ own then
    match p with
    | .slot i => match look ρ i with
      | .mu d => (run (some i) (ρ.set i (.lk d))).bind fun acc ρ2 => match look (unwipe ρ ρ2 own) i with
        | .lk e => .ok acc ((unwipe ρ ρ2 own).set i (.mu e))
        | _ => .stuck
      | .sh _ => (run none ρ).bind fun acc ρ2 => .ok acc (unwipe ρ ρ2 own)
      | .lk _ => (run (some i) ρ).bind fun acc ρ2 => .ok acc (unwipe ρ ρ2 own)
      | _ => .stuck
    | _ => (run none ρ).bind fun acc ρ2 => .ok acc (unwipe ρ ρ2 own)
  else .stuck

/-- what a function answers: its value; what it left of what was lent; an exception -/
inductive Out where
  | ret (r : PV) (lent : List Slot) | exc (k : Nat) (lent : List Slot) | stuck
abbrev Fns := Nat → List Slot → Out

/-- an argument: a thing; what stands in a slot, lent; a new list or dict, given away -/
inductive Ag where
  | val (d : D) | len (i : Nat) | mov (d : D)
  deriving Repr
def argOf (lend : Bool) (p : PV) (ρ : Env) : Option (Ag × Env) :=
  if lend then
    match p with
    | .slot i => match own ρ i with
      | some _ => some (.len i, ρ)
      | none => none
    | .mu d => some (.mov d, ρ)
    | .sh _ => none
  else match frz ρ p with
    | some (d, ρ') => some (.val d, ρ')
    | none => none
/-- the slots that a function starts with -/
def slotsOf (ρ : Env) : List Ag → Option (List Slot)
  | [] => some []
  | .val d :: as => match slotsOf ρ as with
    | some ss => some (.sh d :: ss)
    | none => none
  | .len i :: as => match own ρ i, slotsOf ρ as with
    | some d, some ss => some (.br d :: ss)
    | _, _ => none
  | .mov d :: as => match slotsOf ρ as with
    | some ss => some (.mu d :: ss)
    | none => none
/-- how many are lent or given away -/
def lends : List Ag → Nat
  | [] => 0
  | .val _ :: as => lends as
  | _ :: as => lends as + 1
/-- back to the slots of what was lent -/
def back : List Ag → List Slot → Env → Option Env
  | .len i :: ps, .br d :: ss, ρ => match upd ρ i d with
    | some ρ' => back ps ss ρ'
    | none => none
  | .len _ :: _, _ :: _, _ => none
  | _ :: ps, _ :: ss, ρ => back ps ss ρ
  | [], [], ρ => some ρ
  | _, _, _ => none
def called (f : List Slot → Out) (as : List Ag) (ρ : Env) : Res PV :=
  if lends as ≤ 1 then match slotsOf ρ as with
    | some ss => match f ss with
      | .ret r lent => match r with
        | .slot _ => .stuck
        | r => match back as lent ρ with
          | some ρ' => .ok r ρ'
          | none => .stuck
      | .exc k lent => match back as lent ρ with
        | some ρ' => .exc k ρ'
        | none => .stuck
      | .stuck => .stuck
    | none => .stuck
  else .stuck
def asB (r : Res PV) : Res Bool :=
  r.bind fun p ρ1 => match peek ρ1 p with
    | some (.bl b) => .ok b ρ1
    | _ => .stuck
/-- what is walked: the value itself, its items -/
def asIt (r : Res PV) : Res (PV × List D) :=
  r.bind fun p ρ1 => match peek ρ1 p with
    | some d => match items d with
      | some ds => .ok (p, ds) ρ1
      | none => .stuck
    | none => .stuck
section
variable (Φ : Fns)
mutual
def ev : CE → Env → Res PV
  | .var i, ρ => match look ρ i with
    | .no => .stuck
    | _ => .ok (.slot i) ρ
  | .cst d, ρ => .ok (.sh d) ρ
  | .glb _ d, ρ => .ok (.sh d) ρ
  | .tup es, ρ => (evs es ρ).bind fun ds ρ' => .ok (.sh (.tup ds)) ρ'
  | .lst es, ρ => (evs es ρ).bind fun ds ρ' => .ok (.mu (.lst ds)) ρ'
  | .dnew, ρ => .ok (.mu (.dct true [] [])) ρ
  | .bin o a b, ρ => (ev a ρ).bind fun p ρ1 => (ev b ρ1).bind fun q ρ2 =>
      match peek ρ2 p, peek ρ2 q with
      | some x, some y => lift (binop o x y) ρ2
      | _, _ => .stuck
  | .lrep es k, ρ => (evs es ρ).bind fun ds ρ1 => (ev k ρ1).bind fun p ρ2 => match peek ρ2 p with
      | some (.int n) => if ds.length ≤ 1000 ∧ 0 ≤ n ∧ n ≤ 1000 then .ok (.mu (.lst (rep n.toNat ds))) ρ2 else .stuck
      | _ => .stuck
  | .neg a, ρ => (ev a ρ).bind fun p ρ1 => match peek ρ1 p with
      | some (.int i) => .ok (.sh (.int (-i))) ρ1
      | _ => .stuck
  | .not a, ρ => (asB (ev a ρ)).bind fun b ρ1 => .ok (.sh (.bl (!b))) ρ1
  | .and es, ρ => (evAnd es ρ).bind fun b ρ1 => .ok (.sh (.bl b)) ρ1
  | .or es, ρ => (evOr es ρ).bind fun b ρ1 => .ok (.sh (.bl b)) ρ1
  | .cmp o a b, ρ => (ev a ρ).bind fun p ρ1 => (ev b ρ1).bind fun q ρ2 =>
      match peek ρ2 p, peek ρ2 q with
      | some x, some y => match cmpop o x y with
        | some r => .ok (.sh (.bl r)) ρ2
        | none => .stuck
      | _, _ => .stuck
  | .chain o1 o2 a b c, ρ => (ev a ρ).bind fun p ρ1 => (ev b ρ1).bind fun q ρ2 =>
      match peek ρ2 p, peek ρ2 q with
      | some x, some y => match cmpop o1 x y with
        | some true => (ev c ρ2).bind fun r ρ3 => match peek ρ3 q, peek ρ3 r with
          | some y', some z => match cmpop o2 y' z with
            | some t => .ok (.sh (.bl t)) ρ3
            | none => .stuck
          | _, _ => .stuck
        | some false => .ok (.sh (.bl false)) ρ2
        | none => .stuck
      | _, _ => .stuck
  | .ite c a b, ρ => (asB (ev c ρ)).bind fun t ρ1 => if t then (ev a ρ1).bind fun p ρ2 => .ok p ρ2 else (ev b ρ1).bind fun p ρ2 => .ok p ρ2
  | .call f ks es, ρ => (evArgs ks es ρ).bind fun as ρ1 => called (Φ f) as ρ1
  | .bi b es, ρ => (evp es ρ).bind fun ps ρ1 => match ps.mapM (peek ρ1) with
      | some ds => lift (bi b ds) ρ1
      | none => .stuck
  | .isi t e, ρ => (ev e ρ).bind fun p ρ1 => match peek ρ1 p with
      | some (.dct _ _ _) => .stuck
      | some d => .ok (.sh (.bl (isTy t d))) ρ1
      | none => .stuck
  | .idx o i, ρ => (ev o ρ).bind fun p ρ1 => (ev i ρ1).bind fun q ρ2 =>
      match peek ρ2 p, peek ρ2 q with
      | some x, some y => match item x y with
        | some d => .ok (.sh d) ρ2
        | none => .stuck
      | _, _ => .stuck
  | .slc o lo hi, ρ => (ev o ρ).bind fun p ρ1 => (evOI lo ρ1).bind fun a ρ2 => (evOI hi ρ2).bind fun b ρ3 =>
      match peek ρ3 p with
      | some x => lift (slice a b x) ρ3
      | none => .stuck
  | .rev o, ρ => (ev o ρ).bind fun p ρ1 => match peek ρ1 p with
      | some x => lift (revD x) ρ1
      | none => .stuck
  | .comp own t it cs elt, ρ => (asIt (ev it ρ)).bind fun pi ρ1 => if pi.2.length ≤ lim then (block own pi.1 ρ1 fun o ρ2 =>
      turns o own t (fun ρ3 acc => (evAnd cs ρ3).bind fun b ρ4 => if b then (frzR (ev elt ρ4)).bind fun d ρ5 => .ok (acc ++ [d]) ρ5 else .ok acc ρ4) pi.2 [] ρ2).bind fun acc ρ9 => .ok (.mu (.lst acc)) ρ9 else .stuck
  | .comp2 own t it cs own2 t2 it2 cs2 elt, ρ => (asIt (ev it ρ)).bind fun pi ρ1 => if pi.2.length ≤ lim then (block own pi.1 ρ1 fun o ρ2 =>
      turns o own t (fun ρ3 acc => (evAnd cs ρ3).bind fun b ρ4 => if b then (asIt (ev it2 ρ4)).bind fun pj ρ5 =>
          block own2 pj.1 ρ5 fun o2 ρ6 => turns o2 own2 t2 (fun ρ7 acc => (evAnd cs2 ρ7).bind fun b ρ8 => if b then (frzR (ev elt ρ8)).bind fun d ρ9 => if acc.length < lim then .ok (acc ++ [d]) ρ9 else .stuck else .ok acc ρ8) pj.2 acc ρ6
        else .ok acc ρ4) pi.2 [] ρ2).bind fun acc ρ9 => .ok (.mu (.lst acc)) ρ9 else .stuck
  | .dcomp own t it cs k v, ρ => (asIt (ev it ρ)).bind fun pi ρ1 => if pi.2.length ≤ lim then (block own pi.1 ρ1 fun o ρ2 =>
      turns o own t (fun ρ3 acc => (evAnd cs ρ3).bind fun b ρ4 => if b then (frzR (ev k ρ4)).bind fun d ρ5 => if isInt d then (frzR (ev v ρ5)).bind fun e ρ6 => .ok (acc ++ [.tup [d, e]]) ρ6 else .stuck else .ok acc ρ4) pi.2 [] ρ2).bind fun acc ρ9 =>
      .ok (.mu (acc.foldl (fun m p => match m, p with | .dct t ks vs, .tup [a, b] => .dct t (dput ks vs a b).1 (dput ks vs a b).2 | m, _ => m) (.dct false [] []))) ρ9 else .stuck
  | .app i e, ρ => if isL ρ i then ((frzR (ev e ρ)).bind fun d ρ1 => match own ρ1 i with
      | some (.lst xs) => if xs.length < lim then (liftE (upd ρ1 i (.lst (xs ++ [d])))).bind fun _ ρ2 => .ok (.sh .non) ρ2 else .stuck
      | _ => .stuck) else .stuck
  | .ext i e, ρ => if isL ρ i then ((ev e ρ).bind fun p ρ1 => match p, own ρ1 i with
      | .mu (.lst ys), some (.lst xs) => if xs.length + ys.length ≤ lim then (liftE (upd ρ1 i (.lst (xs ++ ys)))).bind fun _ ρ2 => .ok (.sh .non) ρ2 else .stuck
      | _, _ => .stuck) else .stuck
  | .pop i, ρ => match own ρ i with
      | some (.lst xs) => match xs.getLast? with
        | some d => (liftE (upd ρ i (.lst xs.dropLast))).bind fun _ ρ2 => .ok (.sh d) ρ2
        | none => .stuck
      | _ => .stuck
  | .popAt i e, ρ => if isL ρ i then ((ev e ρ).bind fun p ρ1 => match peek ρ1 p, own ρ1 i with
      | some (.int k), some (.lst xs) => match (place xs.length k) with
        | some j => match xs[j]? with
          | some d => if xs.length ≤ lim then (liftE (upd ρ1 i (.lst (xs.eraseIdx j)))).bind fun _ ρ2 => .ok (.sh d) ρ2 else .stuck
          | none => .stuck
        | none => .stuck
      | _, _ => .stuck) else .stuck
  | .rem i e, ρ => if isL ρ i then ((ev e ρ).bind fun p ρ1 => match peek ρ1 p, own ρ1 i with
      | some (.int k), some (.lst xs) => match intsD xs with
        | some ns => if k ∈ ns then (liftE (upd ρ1 i (.lst ((ns.erase k).map .int)))).bind fun _ ρ2 => .ok (.sh .non) ρ2 else .stuck
        | none => .stuck
      | _, _ => .stuck) else .stuck
  | .index o e, ρ => (ev o ρ).bind fun p ρ1 => match peek ρ1 p with
      | some (.lst _) => (ev e ρ1).bind fun q ρ2 => match peek ρ2 p, peek ρ2 q with
        | some (.lst xs), some (.int k) => match intsD xs with
          | some ns => if k ∈ ns then .ok (.sh (.int (ns.idxOf k : Nat))) ρ2 else .stuck
          | none => .stuck
        | _, _ => .stuck
      | _ => .stuck
  | .listRng a, ρ => (ev a ρ).bind fun p ρ1 => match peek ρ1 p with
      | some (.int n) => if -lim ≤ n ∧ n ≤ lim then .ok (.mu (.lst (range 0 n))) ρ1 else .stuck
      | _ => .stuck
  | .tupRng a, ρ => (ev a ρ).bind fun p ρ1 => match peek ρ1 p with
      | some (.int n) => if -lim ≤ n ∧ n ≤ lim then .ok (.sh (.tup (range 0 n))) ρ1 else .stuck
      | _ => .stuck
  | .listZip a b, ρ => (ev a ρ).bind fun p ρ1 => (ev b ρ1).bind fun q ρ2 => match peek ρ2 p, peek ρ2 q with
      | some x, some y => match zipD x y with
        | some ds => .ok (.mu (.lst ds)) ρ2
        | none => .stuck
      | _, _ => .stuck
  | .rng1 a, ρ => (ev a ρ).bind fun p ρ1 => match peek ρ1 p with
      | some (.int n) => if -lim ≤ n ∧ n ≤ lim then .ok (.sh (.lst (range 0 n))) ρ1 else .stuck
      | _ => .stuck
  | .rng2 a b, ρ => (ev a ρ).bind fun p ρ1 => (ev b ρ1).bind fun q ρ2 => match peek ρ2 p, peek ρ2 q with
      | some (.int m), some (.int n) => if (-lim ≤ m ∧ m ≤ lim) ∧ -lim ≤ n ∧ n ≤ lim then .ok (.sh (.lst (range m n))) ρ2 else .stuck
      | _, _ => .stuck
  | .zip a b, ρ => (frzR (ev a ρ)).bind fun x ρ1 => (frzR (ev b ρ1)).bind fun y ρ2 => match zipD x y with
      | some ds => .ok (.sh (.lst ds)) ρ2
      | none => .stuck
  | .enum a, ρ => (frzR (ev a ρ)).bind fun x ρ1 => match x with
      | .lst ds => .ok (.sh (.lst (enumFrom 0 ds))) ρ1
      | _ => .stuck
/-- kept: each is changed no more -/
def evs : List CE → Env → Res (List D)
  | [], ρ => .ok [] ρ
  | e :: es, ρ => (frzR (ev e ρ)).bind fun d ρ1 => (evs es ρ1).bind fun ds ρ2 => .ok (d :: ds) ρ2
/-- read -/
def evp : List CE → Env → Res (List PV)
  | [], ρ => .ok [] ρ
  | e :: es, ρ => (ev e ρ).bind fun p ρ1 => (evp es ρ1).bind fun ps ρ2 => .ok (p :: ps) ρ2
def evArgs : List Bool → List CE → Env → Res (List Ag)
  | _, [], ρ => .ok [] ρ
  | ks, e :: es, ρ => (ev e ρ).bind fun p ρ1 => match argOf (ks.headD false) p ρ1 with
    | some (a, ρ2) => (evArgs ks.tail es ρ2).bind fun as ρ3 => .ok (a :: as) ρ3
    | none => .stuck
def evAnd : List CE → Env → Res Bool
  | [], ρ => .ok true ρ
  | e :: es, ρ => (asB (ev e ρ)).bind fun b ρ1 => if b then evAnd es ρ1 else .ok false ρ1
def evOr : List CE → Env → Res Bool
  | [], ρ => .ok false ρ
  | e :: es, ρ => (asB (ev e ρ)).bind fun b ρ1 => if b then .ok true ρ1 else evOr es ρ1
/-- an optional int -/
def evOI : List CE → Env → Res (Option Int)
  | [], ρ => .ok none ρ
  | e :: _, ρ => (ev e ρ).bind fun p ρ1 => match peek ρ1 p with
    | some (.int i) => .ok (some i) ρ1
    | _ => .stuck
end
end

/-- a value stored under a name -/
def store (ρ : Env) (i : Nat) (p : PV) : Res Unit :=
  match p with
  | .mu d => liftE (put ρ i (.mu d))
  | p => match frz ρ p with
    | some (d, ρ') => liftE (put ρ' i (.sh d))
    | none => .stuck
/-- several values, kept as they are till they are stored -/
def stores : List Nat → List PV → Env → Res Unit
  | i :: is, p :: ps, ρ => (store ρ i p).bind fun _ ρ' => stores is ps ρ'
  | [], [], ρ => .ok () ρ
  | _, _, _ => .stuck
/-- a bare name handed on is changed no more; a new list stays one's own -/
def settle (ρ : Env) (p : PV) : Res PV :=
  match p with
  | .slot i => match frz ρ (.slot i) with
    | some (d, ρ') => .ok (.sh d) ρ'
    | none => .stuck
  | p => .ok p ρ
/-- x[k] = d -/
def setItem (ρ : Env) (i : Nat) (k d : D) : Res Unit :=
  match own ρ i with
  | some (.lst xs) => match k with
    | .int n => match place xs.length n with
      | some j => liftE (upd ρ i (.lst (xs.set j d)))
      | none => .stuck
    | _ => .stuck
  | some (.dct t ks vs) => if keyOk t k && decide (ks.length < lim) then liftE (upd ρ i (.dct t (dput ks vs k d).1 (dput ks vs k d).2)) else .stuck
  | _ => .stuck
def WF : Nat := 1000000
/-- while: so many turns at most -/
def whileD (c : Env → Res Bool) (b : Env → Res Flow) : Nat → Env → Res Flow
  | 0, _ => .stuck
  | n + 1, ρ => (c ρ).bind fun t ρ1 => if t then (b ρ1).bind fun f ρ2 => match f with
      | .nx => whileD c b n ρ2
      | .ret r => .ok (.ret r) ρ2
    else .ok .nx ρ1
def forD (t : Tgt) (b : Env → Res Flow) : List D → Env → Res Flow
  | [], ρ => .ok .nx ρ
  | x :: xs, ρ => match setT ρ t x with
    | none => .stuck
    | some ρ1 => (b ρ1).bind fun f ρ2 => match f with
      | .nx => forD t b xs ρ2
      | .ret r => .ok (.ret r) ρ2
section
variable (Φ : Fns)
def evps : List CE → Env → Res (List PV)
  | [], ρ => .ok [] ρ
  | e :: es, ρ => ((ev Φ e ρ).bind fun p ρ0 => settle ρ0 p).bind fun p ρ1 => (evps es ρ1).bind fun ps ρ2 => .ok (p :: ps) ρ2
mutual
def exe : CS → Env → Res Flow
  | .asg i e, ρ => (ev Φ e ρ).bind fun p ρ1 => (store ρ1 i p).bind fun _ ρ2 => .ok .nx ρ2
  | .unp t e, ρ => (ev Φ e ρ).bind fun p ρ1 => match frz ρ1 p with
    | some (d, ρ2) => match setT ρ2 t d with
      | some ρ3 => .ok .nx ρ3
      | none => .stuck
    | none => .stuck
  | .par is es, ρ => (evps Φ es ρ).bind fun ps ρ1 => (stores is ps ρ1).bind fun _ ρ2 => .ok .nx ρ2
  | .setI i k e, ρ => (frzR (ev Φ e ρ)).bind fun d ρ1 => if (own ρ1 i).isSome then (frzR (ev Φ k ρ1)).bind fun x ρ2 => (setItem ρ2 i x d).bind fun _ ρ3 => .ok .nx ρ3 else .stuck
  | .swap i k j l e f, ρ => (frzR (ev Φ e ρ)).bind fun d ρ1 => (frzR (ev Φ f ρ1)).bind fun d' ρ2 => if (own ρ2 i).isSome then (frzR (ev Φ k ρ2)).bind fun x ρ3 => (setItem ρ3 i x d).bind fun _ ρ4 =>
      if (own ρ4 j).isSome then (frzR (ev Φ l ρ4)).bind fun y ρ5 => (setItem ρ5 j y d').bind fun _ ρ6 => .ok .nx ρ6 else .stuck else .stuck
  | .aug o i e, ρ => match look ρ i with
    | .sh (.int m) => (ev Φ e ρ).bind fun p ρ1 => match peek ρ1 p with
      | some (.int n) => match o with
        | .add => (liftE (put ρ1 i (.sh (.int (m + n))))).bind fun _ ρ2 => .ok .nx ρ2
        | .sub => (liftE (put ρ1 i (.sh (.int (m - n))))).bind fun _ ρ2 => .ok .nx ρ2
        | _ => .stuck
      | _ => .stuck
    | _ => .stuck
  | .ex e, ρ => (ev Φ e ρ).bind fun _ ρ1 => .ok .nx ρ1
  | .ite c t f, ρ => (asB (ev Φ c ρ)).bind fun b ρ1 => if b then exes t ρ1 else exes f ρ1
  | .for t it b, ρ => (asIt (ev Φ it ρ)).bind fun pi ρ1 => match frz ρ1 pi.1 with
    | some (_, ρ2) => forD t (exes b) pi.2 ρ2
    | none => .stuck
  | .wh c b, ρ => whileD (fun ρ' => asB (ev Φ c ρ')) (exes b) WF ρ
  | .ret e, ρ => (ev Φ e ρ).bind fun p ρ1 => match p with
    | .slot i => match look ρ1 i with
      | .sh d => .ok (.ret (.sh d)) ρ1
      | .mu d => .ok (.ret (.mu d)) ρ1
      | _ => .stuck
    | p => .ok (.ret p) ρ1
  | .raise k, ρ => .exc k ρ
  | .pass, ρ => .ok .nx ρ
def exes : List CS → Env → Res Flow
  | [], ρ => .ok .nx ρ
  | s :: ss, ρ => (exe s ρ).bind fun f ρ1 => match f with
    | .nx => exes ss ρ1
    | .ret r => .ok (.ret r) ρ1
end
end
/-- a function: how many parameters, how many names, its body -/
structure CDef where
  ps : Nat
  n : Nat
  body : List CS
def brOnly : Slot → Slot
  | .br d => .br d
  | _ => .no
def lent (as : List Slot) (ρ : Env) : List Slot := (List.range as.length).map fun i => brOnly (look ρ i)
def runDef (Φ : Fns) (c : CDef) (as : List Slot) : Out :=
  if as.length = c.ps then
    match exes Φ c.body (as ++ List.replicate (c.n - c.ps) .no) with
    | .ok (.ret r) ρ => .ret r (lent as ρ)
    | .ok .nx ρ => .ret (.sh .non) (lent as ρ)
    | .exc k ρ => .exc k (lent as ρ)
    | .stuck => .stuck
  else .stuck
/-- the functions of a table, calls so deep at most -/
def run (Γ : Nat → Option CDef) : Nat → Fns
  | 0 => fun _ _ => .stuck
  | n + 1 => fun f as => match Γ f with
    | some c => runDef (run Γ n) c as
    | none => .stuck
end SL

/-! ## Defs -/
set_option autoImplicit false
set_option maxRecDepth 100000
namespace SL
/-! printed by gen.py: the functions of the laws' texts in the core language -/
abbrev i_is_whole : Nat := 0
abbrev i_ways_of : Nat := 1
abbrev i_most_of : Nat := 2
abbrev i_added : Nat := 3
abbrev i_Lcell_at : Nat := 4
abbrev i_Lsame_number : Nat := 5
abbrev i_Lsame_truth : Nat := 6
abbrev i_Ltilt : Nat := 7
abbrev i_is_piece : Nat := 8
abbrev i_total_of : Nat := 9
abbrev i_Lmixed : Nat := 10
abbrev i_Ltop : Nat := 11
abbrev i_good_loads : Nat := 12
abbrev i_balanced : Nat := 13
abbrev i_Ldraw : Nat := 14
abbrev i_is_loads : Nat := 15
abbrev i_need_loads : Nat := 16
abbrev i_Lpick : Nat := 17
abbrev i_Lorder_of : Nat := 18
abbrev i_most : Nat := 19
abbrev i_total : Nat := 20
abbrev i_is_balanced : Nat := 21
abbrev i_Llevel : Nat := 22
abbrev i_Lloads : Nat := 23
abbrev i_law_k01 : Nat := 24
abbrev i_far : Nat := 25
abbrev i_Lrows : Nat := 26
abbrev i_good_order : Nat := 27
abbrev i_sums_of : Nat := 28
abbrev i_lean_of : Nat := 29
abbrev i_need_order : Nat := 30
abbrev i_is_order : Nat := 31
abbrev i_sums : Nat := 32
abbrev i_lean : Nat := 33
abbrev i_law_k02 : Nat := 34
abbrev i_may_go : Nat := 35
abbrev i_with_piece : Nat := 36
abbrev i_Lorders : Nat := 37
abbrev i_lot_sum : Nat := 38
abbrev i_next_lots : Nat := 39
abbrev i_lot_lean : Nat := 40
abbrev i_least_from : Nat := 41
abbrev i_best_of : Nat := 42
abbrev i_best : Nat := 43
abbrev i_law_k03 : Nat := 44
abbrev i_need_lean : Nat := 45
abbrev i_many_from : Nat := 46
abbrev i_how_many : Nat := 47
abbrev i_law_k04 : Nat := 48
abbrev i_law_k05 : Nat := 49
abbrev i_good : Nat := 50
abbrev i_law_k06 : Nat := 51
abbrev i_Lby_rules : Nat := 52
abbrev i_is_pair : Nat := 53
abbrev i_good_rules : Nat := 54
abbrev i_are_rules : Nat := 55
abbrev i_need_rules : Nat := 56
abbrev i_Lsome_rules : Nat := 57
abbrev i_keeps : Nat := 58
abbrev i_best_by : Nat := 59
abbrev i_how_many_by : Nat := 60
abbrev i_law_k07 : Nat := 61
abbrev i_Lby_hand : Nat := 62
abbrev i_law_k08 : Nat := 63
abbrev i_Lmerges : Nat := 64
abbrev i_rules_of : Nat := 65
abbrev i_is_lot : Nat := 66
abbrev i_is_paper : Nat := 67
abbrev i_Lclosed : Nat := 68
abbrev i_law_k11 : Nat := 69
abbrev i_is_any_whole : Nat := 70
abbrev i_common : Nat := 71
abbrev i_below : Nat := 72
abbrev i_is_inner : Nat := 73
abbrev i_Lcommon : Nat := 74
abbrev i_made_of : Nat := 75
abbrev i_rows_for : Nat := 76
abbrev i_is_share : Nat := 77
abbrev i_Lright : Nat := 78
abbrev i_plus : Nat := 79
abbrev i_times : Nat := 80
abbrev i_over : Nat := 81
abbrev i_minus : Nat := 82
abbrev i_shows : Nat := 83
abbrev i_cleared : Nat := 84
abbrev i_room_of : Nat := 85
abbrev i_need_balanced : Nat := 86
abbrev i_ring_of : Nat := 87
abbrev i_moved : Nat := 88
abbrev i_are_shares : Nat := 89
abbrev i_without_one : Nat := 90
abbrev i_share_rows : Nat := 91
abbrev i_share_order : Nat := 92
abbrev i_Lright_2 : Nat := 93
abbrev i_law_k13 : Nat := 94
abbrev i_times_2 : Nat := 95
abbrev i_good_signs : Nat := 96
abbrev i_turned_rows : Nat := 97
abbrev i_Lby_signs : Nat := 98
abbrev i_are_signs : Nat := 99
abbrev i_need_signs : Nat := 100
abbrev i_turned_sums : Nat := 101
abbrev i_turned_lean : Nat := 102
abbrev i_law_k14 : Nat := 103
abbrev i_all_signs : Nat := 104
abbrev i_Lsigns_of : Nat := 105
abbrev i_best_signs_of : Nat := 106
abbrev i_best_signs : Nat := 107
abbrev i_law_k15 : Nat := 108
abbrev i_law_k16 : Nat := 109
abbrev i_parted_of : Nat := 110
abbrev i_parted : Nat := 111
abbrev i_law_k17 : Nat := 112
abbrev i_mended : Nat := 113
abbrev i_law_k18 : Nat := 114
abbrev i_turned_of : Nat := 115
abbrev i_need_way : Nat := 116
abbrev i_way_sums : Nat := 117
abbrev i_turned_on : Nat := 118
abbrev i_spread : Nat := 119
abbrev i_law_k19 : Nat := 120
abbrev i_start : Nat := 121
abbrev i_law_k20 : Nat := 122
abbrev i_together : Nat := 123
abbrev i_law_k21 : Nat := 124
abbrev i_by_number : Nat := 125
abbrev i_mirrored : Nat := 126
abbrev i_greater : Nat := 127
abbrev i_law_k22 : Nat := 128
abbrev i_named : Nat := 129
abbrev i_law_k23 : Nat := 130
abbrev i_law_k24 : Nat := 131
abbrev i_law_k25 : Nat := 132
abbrev i_ends_of : Nat := 133
abbrev i_Lways_end : Nat := 134
abbrev i_Lall_ways : Nat := 135
abbrev i_is_job : Nat := 136
abbrev i_good_jobs : Nat := 137
abbrev i_are_jobs : Nat := 138
abbrev i_need_jobs : Nat := 139
abbrev i_Ljobs : Nat := 140
abbrev i_need_passing : Nat := 141
abbrev i_ends : Nat := 142
abbrev i_end : Nat := 143
abbrev i_law_k26 : Nat := 144
abbrev i_loads_by : Nat := 145
abbrev i_loads_of : Nat := 146
abbrev i_highs : Nat := 147
abbrev i_law_k27 : Nat := 148
abbrev i_station_totals : Nat := 149
abbrev i_raised : Nat := 150
abbrev i_levelled_of : Nat := 151
abbrev i_levelled : Nat := 152
abbrev i_law_k28 : Nat := 153
abbrev i_told_order : Nat := 154
abbrev i_law_k29 : Nat := 155
abbrev i_orders_of : Nat := 156
abbrev i_best_end : Nat := 157
abbrev i_law_k30 : Nat := 158
abbrev i_number_in : Nat := 159
abbrev i_numbers_in : Nat := 160
abbrev i_wall : Nat := 161
abbrev i_Lnumber : Nat := 162
abbrev i_Lmay : Nat := 163
abbrev i_law_k42 : Nat := 164
def c_is_whole : CDef := ⟨3, 3, [(.ret (.and [(.isi .int (.var 0)), (.not (.isi .bool (.var 0))), (.chain .le .le (.var 1) (.var 0) (.var 2))]))]⟩
def c_ways_of : CDef := ⟨1, 1, [(.ret (.bi .len [(.idx (.var 0) (.cst (.int 0)))]))]⟩
def q_most_of_0 : CE := .comp2 [1, 2] (.nm 1) (.var 0) [] [2] (.nm 2) (.var 1) [] (.bi .abs [(.var 2)])
def c_most_of : CDef := ⟨1, 3, [(.ret (.bi .max [q_most_of_0]))]⟩
def q_added_0 : CE := .comp [2, 3] (.tp [(.nm 2), (.nm 3)]) (.zip (.var 0) (.var 1)) [] (.bin .add (.var 2) (.var 3))
def c_added : CDef := ⟨2, 4, [(.ret (.bi .tuple [q_added_0]))]⟩
def b_Lcell_at_0 : List CS := [(.asg 2 (.bin .fdiv (.var 2) (.cst (.int 1000003))))]
def c_Lcell_at : CDef := ⟨2, 4, [(.ite (.cmp .lt (.var 1) (.bi .len [(.var 0)])) [(.ret (.idx (.var 0) (.var 1)))] []), (.ite (.cmp .eq (.var 0) (.lst [])) [(.ret (.cst (.int 0)))] []), (.asg 2 (.idx (.var 0) (.bin .mod (.var 1) (.bi .len [(.var 0)])))), (.for (.nm 3) (.rng1 (.bi .min2 [(.bin .fdiv (.var 1) (.bi .len [(.var 0)])), (.cst (.int 60))])) b_Lcell_at_0), (.ret (.bin .add (.bin .add (.bin .mul (.idx (.var 0) (.bin .mod (.var 1) (.bi .len [(.var 0)]))) (.cst (.int 31))) (.var 1)) (.bin .mul (.var 2) (.cst (.int 101)))))]⟩
def c_Lsame_number : CDef := ⟨2, 2, [(.ret (.and [(.isi .int (.var 0)), (.not (.isi .bool (.var 0))), (.cmp .eq (.var 0) (.var 1))]))]⟩
def c_Lsame_truth : CDef := ⟨2, 2, [(.ret (.and [(.isi .bool (.var 0)), (.cmp .eq (.var 0) (.var 1))]))]⟩
def q_Ltilt_0 : CE := .comp [3] (.nm 3) (.var 2) [] (.bi .abs [(.var 3)])
def b_Ltilt_0 : List CS := [(.ex (.ext 1 q_Ltilt_0))]
def c_Ltilt : CDef := ⟨1, 4, [(.asg 1 (.lst [(.cst (.int 0))])), (.for (.nm 2) (.var 0) b_Ltilt_0), (.ret (.bi .max [(.var 1)]))]⟩
def q_is_piece_0 : CE := .comp [2] (.nm 2) (.var 1) [] (.call i_is_whole [] [(.var 2), (.bin .sub (.cst (.int 0)) (.glb "PULL" (.int 99))), (.glb "PULL" (.int 99))])
def c_is_piece : CDef := ⟨2, 3, [(.ret (.and [(.isi .tup (.var 1)), (.cmp .eq (.bi .len [(.var 1)]) (.var 0)), (.bi .all [q_is_piece_0])]))]⟩
def b_total_of_0 : List CS := [(.asg 1 (.call i_added [] [(.var 1), (.var 2)]))]
def c_total_of : CDef := ⟨1, 3, [(.asg 1 (.bin .mul (.tup [(.cst (.int 0))]) (.call i_ways_of [] [(.var 0)]))), (.for (.nm 2) (.var 0) b_total_of_0), (.ret (.var 1))]⟩
def c_Lmixed : CDef := ⟨3, 4, [(.asg 3 (.bin .mod (.bin .add (.bin .add (.bin .mul (.call i_Lcell_at [] [(.var 0), (.var 1)]) (.cst (.int 1103515245))) (.bin .mul (.cst (.int 7919)) (.var 1))) (.cst (.int 12345))) (.cst (.int 2147483647)))), (.ret (.bin .mod (.bin .mod (.bin .mod (.bin .pow (.var 3) (.cst (.int 5))) (.cst (.int 2147483647))) (.cst (.int 999983))) (.var 2)))]⟩
def c_Ltop : CDef := ⟨1, 1, [(.ret (.call i_Ltilt [] [(.var 0)]))]⟩
def q_good_loads_0 : CE := .comp [1] (.nm 1) (.var 0) [] (.call i_is_piece [] [(.bi .len [(.idx (.var 0) (.cst (.int 0)))]), (.var 1)])
def c_good_loads : CDef := ⟨1, 2, [(.ite (.or [(.not (.isi .tup (.var 0))), (.not (.chain .le .le (.cst (.int 1)) (.bi .len [(.var 0)]) (.glb "PIECES" (.int 8))))]) [(.ret (.cst (.bl false)))] []), (.ite (.or [(.not (.isi .tup (.idx (.var 0) (.cst (.int 0))))), (.not (.chain .le .le (.cst (.int 1)) (.bi .len [(.idx (.var 0) (.cst (.int 0)))]) (.glb "WAYS" (.int 3))))]) [(.ret (.cst (.bl false)))] []), (.ret (.bi .all [q_good_loads_0]))]⟩
def c_balanced : CDef := ⟨1, 1, [(.ret (.cmp .eq (.call i_total_of [] [(.var 0)]) (.bin .mul (.tup [(.cst (.int 0))]) (.call i_ways_of [] [(.var 0)]))))]⟩
def c_Ldraw : CDef := ⟨3, 3, [(.ex (.app 1 (.cst (.int 0)))), (.ret (.call i_Lmixed [] [(.var 0), (.bi .len [(.var 1)]), (.var 2)]))]⟩
def c_is_loads : CDef := ⟨1, 1, [(.ret (.call i_good_loads [] [(.var 0)]))]⟩
def c_need_loads : CDef := ⟨1, 1, [(.ite (.not (.call i_good_loads [] [(.var 0)])) [(.raise 0)] [])]⟩
def c_Lpick : CDef := ⟨3, 3, [(.ret (.idx (.var 2) (.call i_Ldraw [false, true, false] [(.var 0), (.var 1), (.bi .len [(.var 2)])])))]⟩
def b_Lorder_of_0 : List CS := [(.ex (.app 4 (.popAt 3 (.call i_Ldraw [false, true, false] [(.var 0), (.var 1), (.bi .len [(.var 3)])]))))]
def c_Lorder_of : CDef := ⟨3, 5, [(.par [3, 4] [(.listRng (.var 2)), (.lst [])]), (.wh (.cmp .ne (.var 3) (.lst [])) b_Lorder_of_0), (.ret (.bi .tuple [(.var 4)]))]⟩
def c_most : CDef := ⟨1, 1, [(.ex (.call i_need_loads [] [(.var 0)])), (.ret (.call i_most_of [] [(.var 0)]))]⟩
def c_total : CDef := ⟨1, 1, [(.ex (.call i_need_loads [] [(.var 0)])), (.ret (.call i_total_of [] [(.var 0)]))]⟩
def c_is_balanced : CDef := ⟨1, 1, [(.ex (.call i_need_loads [] [(.var 0)])), (.ret (.call i_balanced [] [(.var 0)]))]⟩
def q_Llevel_0 : CE := .comp [9] (.nm 9) (.rng1 (.var 2)) [] (.bin .sub (.call i_Ldraw [false, true, false] [(.var 0), (.var 1), (.bin .add (.bin .mul (.cst (.int 2)) (.var 5)) (.cst (.int 1)))]) (.var 5))
def b_Llevel_0 : List CS := [(.ex (.app 6 (.bi .tuple [q_Llevel_0])))]
def q_Llevel_1 : CE := .comp [12, 13] (.tp [(.nm 12), (.nm 13)]) (.zip (.var 10) (.var 11)) [] (.bin .sub (.var 13) (.var 12))
def b_Llevel_1 : List CS := [(.ex (.app 7 (.bi .tuple [q_Llevel_1])))]
def q_Llevel_2 : CE := .comp [8] (.nm 8) (.call i_Lorder_of [false, true, false] [(.var 0), (.var 1), (.var 4)]) [] (.idx (.var 7) (.var 8))
def c_Llevel : CDef := ⟨4, 14, [(.par [4, 5] [(.bin .add (.cst (.int 1)) (.call i_Ldraw [false, true, false] [(.var 0), (.var 1), (.var 3)])), (.bin .add (.cst (.int 1)) (.call i_Ldraw [false, true, false] [(.var 0), (.var 1), (.call i_Lpick [false, true, false] [(.var 0), (.var 1), (.lst [(.cst (.int 2)), (.cst (.int 6)), (.cst (.int 30))])])]))]), (.par [6, 7] [(.lst [(.bin .mul (.tup [(.cst (.int 0))]) (.var 2))]), (.lst [])]), (.for (.nm 8) (.rng1 (.bin .sub (.var 4) (.cst (.int 1)))) b_Llevel_0), (.for (.tp [(.nm 10), (.nm 11)]) (.zip (.var 6) (.bin .add (.slc (.var 6) [(.cst (.int 1))] []) (.slc (.var 6) [] [(.cst (.int 1))]))) b_Llevel_1), (.ret (.bi .tuple [q_Llevel_2]))]⟩
def q_Lloads_0 : CE := .comp [8] (.nm 8) (.rng1 (.var 2)) [] (.bin .sub (.call i_Ldraw [false, true, false] [(.var 0), (.var 1), (.bin .add (.bin .mul (.cst (.int 2)) (.var 5)) (.cst (.int 1)))]) (.var 5))
def b_Lloads_0 : List CS := [(.ex (.app 6 (.bi .tuple [q_Lloads_0])))]
def c_Lloads : CDef := ⟨4, 9, [(.ite (.cmp .eq (.call i_Ldraw [false, true, false] [(.var 0), (.var 1), (.cst (.int 2))]) (.cst (.int 0))) [(.ret (.call i_Llevel [false, true, false, false] [(.var 0), (.var 1), (.var 2), (.var 3)]))] []), (.par [4, 5] [(.bin .add (.cst (.int 1)) (.call i_Ldraw [false, true, false] [(.var 0), (.var 1), (.var 3)])), (.bin .add (.cst (.int 1)) (.call i_Ldraw [false, true, false] [(.var 0), (.var 1), (.call i_Lpick [false, true, false] [(.var 0), (.var 1), (.lst [(.cst (.int 2)), (.cst (.int 6)), (.cst (.int 30))])])]))]), (.asg 6 (.lst [])), (.for (.nm 7) (.rng1 (.var 4)) b_Lloads_0), (.ret (.bi .tuple [(.var 6)]))]⟩
def q_law_k01_0 : CE := .comp [6] (.nm 6) (.var 3) [] (.idx (.var 6) (.var 5))
def q_law_k01_1 : CE := .comp [5] (.nm 5) (.rng1 (.var 2)) [] (.bi .sum [q_law_k01_0])
def c_law_k01 : CDef := ⟨1, 8, [(.asg 1 (.lst [])), (.asg 2 (.bin .add (.cst (.int 1)) (.call i_Ldraw [false, true, false] [(.var 0), (.var 1), (.cst (.int 3))]))), (.asg 3 (.call i_Lloads [false, true, false, false] [(.var 0), (.var 1), (.var 2), (.cst (.int 8))])), (.asg 4 (.bi .tuple [q_law_k01_1])), (.ite (.or [(.cmp .isnot (.call i_is_loads [] [(.var 3)]) (.cst (.bl true))), (.cmp .ne (.call i_total [] [(.var 3)]) (.var 4)), (.not (.call i_Lsame_number [] [(.call i_most [] [(.var 3)]), (.call i_Ltop [] [(.var 3)])]))]) [(.ret (.cst (.bl false)))] []), (.asg 7 (.call i_Llevel [false, true, false, false] [(.var 0), (.var 1), (.var 2), (.cst (.int 8))])), (.ret (.and [(.cmp .is (.call i_is_balanced [] [(.var 7)]) (.cst (.bl true))), (.call i_Lsame_truth [] [(.call i_is_balanced [] [(.var 3)]), (.cmp .eq (.var 4) (.bin .mul (.tup [(.cst (.int 0))]) (.var 2)))])]))]⟩
def q_far_0 : CE := .comp [1] (.nm 1) (.var 0) [] (.bi .abs [(.var 1)])
def c_far : CDef := ⟨1, 2, [(.ret (.bi .max [q_far_0]))]⟩
def q_Lrows_0 : CE := .comp [5] (.nm 5) (.slc (.var 1) [] [(.bin .add (.var 3) (.cst (.int 1)))]) [] (.idx (.idx (.var 0) (.var 5)) (.var 4))
def q_Lrows_1 : CE := .comp [4] (.nm 4) (.rng1 (.bi .len [(.idx (.var 0) (.cst (.int 0)))])) [] (.bi .sum [q_Lrows_0])
def b_Lrows_0 : List CS := [(.ex (.app 2 (.bi .tuple [q_Lrows_1])))]
def c_Lrows : CDef := ⟨2, 6, [(.asg 2 (.lst [])), (.for (.nm 3) (.rng1 (.bi .len [(.var 1)])) b_Lrows_0), (.ret (.var 2))]⟩
def q_good_order_0 : CE := .comp [2] (.nm 2) (.var 1) [] (.call i_is_whole [] [(.var 2), (.cst (.int 0)), (.bin .sub (.bi .len [(.var 0)]) (.cst (.int 1)))])
def c_good_order : CDef := ⟨2, 3, [(.ite (.or [(.not (.isi .tup (.var 1))), (.cmp .ne (.bi .len [(.var 1)]) (.bi .len [(.var 0)]))]) [(.ret (.cst (.bl false)))] []), (.ret (.and [(.bi .all [q_good_order_0]), (.cmp .eq (.bi .lenset [(.var 1)]) (.bi .len [(.var 1)]))]))]⟩
def b_sums_of_0 : List CS := [(.asg 3 (.call i_added [] [(.var 3), (.idx (.var 0) (.var 4))])), (.ex (.app 2 (.var 3)))]
def c_sums_of : CDef := ⟨2, 5, [(.par [2, 3] [(.lst []), (.bin .mul (.tup [(.cst (.int 0))]) (.call i_ways_of [] [(.var 0)]))]), (.for (.nm 4) (.var 1) b_sums_of_0), (.ret (.var 2))]⟩
def q_lean_of_0 : CE := .comp [1] (.nm 1) (.var 0) [] (.call i_far [] [(.var 1)])
def c_lean_of : CDef := ⟨1, 2, [(.ret (.bi .max [(.bin .add (.lst [(.cst (.int 0))]) q_lean_of_0)]))]⟩
def c_need_order : CDef := ⟨2, 2, [(.ite (.not (.call i_good_order [] [(.var 0), (.var 1)])) [(.raise 1)] [])]⟩
def c_is_order : CDef := ⟨2, 2, [(.ex (.call i_need_loads [] [(.var 0)])), (.ret (.call i_good_order [] [(.var 0), (.var 1)]))]⟩
def c_sums : CDef := ⟨2, 2, [(.ex (.call i_need_loads [] [(.var 0)])), (.ex (.call i_need_order [] [(.var 0), (.var 1)])), (.ret (.call i_sums_of [] [(.var 0), (.var 1)]))]⟩
def c_lean : CDef := ⟨2, 2, [(.ex (.call i_need_loads [] [(.var 0)])), (.ex (.call i_need_order [] [(.var 0), (.var 1)])), (.ret (.call i_lean_of [] [(.call i_sums_of [] [(.var 0), (.var 1)])]))]⟩
def c_law_k02 : CDef := ⟨1, 6, [(.asg 1 (.lst [])), (.asg 2 (.call i_Lloads [false, true, false, false] [(.var 0), (.var 1), (.bin .add (.cst (.int 1)) (.call i_Ldraw [false, true, false] [(.var 0), (.var 1), (.cst (.int 3))])), (.cst (.int 8))])), (.asg 3 (.call i_Lorder_of [false, true, false] [(.var 0), (.var 1), (.bi .len [(.var 2)])])), (.asg 4 (.call i_Lrows [] [(.var 2), (.var 3)])), (.ite (.or [(.cmp .isnot (.call i_is_order [] [(.var 2), (.var 3)]) (.cst (.bl true))), (.cmp .ne (.call i_sums [] [(.var 2), (.var 3)]) (.var 4)), (.cmp .ne (.idx (.var 4) (.neg (.cst (.int 1)))) (.call i_total [] [(.var 2)]))]) [(.ret (.cst (.bl false)))] []), (.asg 5 (.call i_lean [] [(.var 2), (.var 3)])), (.ret (.and [(.call i_Lsame_number [] [(.var 5), (.call i_Ltilt [] [(.var 4)])]), (.cmp .ge (.bin .mul (.cst (.int 2)) (.var 5)) (.call i_Ltop [] [(.var 2)]))]))]⟩
def q_may_go_0 : CE := .comp [3, 4] (.tp [(.nm 3), (.nm 4)]) (.idx (.var 0) (.cst (.int 0))) [(.cmp .eq (.var 4) (.var 2))] (.cmp .isin (.var 3) (.var 1))
def c_may_go : CDef := ⟨3, 5, [(.ite (.or [(.cmp .isin (.var 2) (.var 1)), (.cmp .gt (.var 2) (.bin .add (.bi .len [(.var 1)]) (.idx (.var 0) (.cst (.int 1)))))]) [(.ret (.cst (.bl false)))] []), (.ret (.bi .all [q_may_go_0]))]⟩
def c_with_piece : CDef := ⟨2, 2, [(.ret (.bi .tuple [(.bi .sorted [(.bin .add (.var 0) (.tup [(.var 1)]))])]))]⟩
def q_Lorders_0 : CE := .comp [5] (.nm 5) (.rng1 (.var 0)) [(.cmp .notin (.var 5) (.var 4))] (.bin .add (.var 4) (.tup [(.var 5)]))
def b_Lorders_0 : List CS := [(.ex (.ext 3 q_Lorders_0))]
def b_Lorders_1 : List CS := [(.asg 3 (.lst [])), (.for (.nm 4) (.var 1) b_Lorders_0), (.asg 1 (.var 3))]
def c_Lorders : CDef := ⟨1, 6, [(.asg 1 (.lst [(.tup [])])), (.for (.nm 2) (.rng1 (.var 0)) b_Lorders_1), (.ret (.var 1))]⟩
def b_lot_sum_0 : List CS := [(.asg 2 (.call i_added [] [(.var 2), (.idx (.var 0) (.var 3))]))]
def c_lot_sum : CDef := ⟨2, 4, [(.asg 2 (.bin .mul (.tup [(.cst (.int 0))]) (.call i_ways_of [] [(.var 0)]))), (.for (.nm 3) (.var 1) b_lot_sum_0), (.ret (.var 2))]⟩
def q_next_lots_0 : CE := .comp [3] (.nm 3) (.rng1 (.bi .len [(.var 0)])) [(.call i_may_go [] [(.var 1), (.var 2), (.var 3)])] (.tup [(.var 3), (.call i_with_piece [] [(.var 2), (.var 3)])])
def c_next_lots : CDef := ⟨3, 4, [(.ret q_next_lots_0)]⟩
def c_lot_lean : CDef := ⟨2, 2, [(.ret (.call i_far [] [(.call i_lot_sum [] [(.var 0), (.var 1)])]))]⟩
def b_least_from_0 : List CS := [(.asg 7 (.call i_least_from [false, false, false, true] [(.var 0), (.var 1), (.var 6), (.var 3)])), (.ite (.cmp .isnot (.var 7) (.cst .non)) [(.ex (.app 4 (.bi .max2 [(.var 7), (.call i_lot_lean [] [(.var 0), (.var 6)])])))] [])]
def c_least_from : CDef := ⟨4, 8, [(.ite (.cmp .eq (.bi .len [(.var 2)]) (.bi .len [(.var 0)])) [(.ret (.cst (.int 0)))] []), (.ite (.cmp .notin (.var 2) (.var 3)) [(.asg 4 (.lst [])), (.for (.tp [(.nm 5), (.nm 6)]) (.call i_next_lots [] [(.var 0), (.var 1), (.var 2)]) b_least_from_0), (.setI 3 (.var 2) (.ite (.cmp .ne (.var 4) (.lst [])) (.bi .min [(.var 4)]) (.cst .non)))] []), (.ret (.idx (.var 3) (.var 2)))]⟩
def b_best_of_0 : List CS := [(.asg 9 (.call i_least_from [false, false, false, true] [(.var 0), (.var 1), (.var 8), (.var 2)])), (.ite (.and [(.cmp .isnot (.var 9) (.cst .non)), (.cmp .le (.bi .max2 [(.var 9), (.call i_lot_lean [] [(.var 0), (.var 8)])]) (.var 5))]) [(.ex (.app 6 (.tup [(.var 7), (.var 8)])))] [])]
def b_best_of_1 : List CS := [(.asg 6 (.lst [])), (.for (.tp [(.nm 7), (.nm 8)]) (.call i_next_lots [] [(.var 0), (.var 1), (.var 3)]) b_best_of_0), (.par [4, 3] [(.bin .add (.var 4) (.tup [(.idx (.idx (.var 6) (.cst (.int 0))) (.cst (.int 0)))])), (.idx (.idx (.var 6) (.cst (.int 0))) (.cst (.int 1)))])]
def c_best_of : CDef := ⟨2, 10, [(.par [2, 3, 4] [.dnew, (.tup []), (.tup [])]), (.asg 5 (.call i_least_from [false, false, false, true] [(.var 0), (.var 1), (.tup []), (.var 2)])), (.ite (.cmp .is (.var 5) (.cst .non)) [(.ret (.cst .non))] []), (.wh (.cmp .lt (.bi .len [(.var 4)]) (.bi .len [(.var 0)])) b_best_of_1), (.ret (.tup [(.var 4), (.var 5)]))]⟩
def c_best : CDef := ⟨1, 1, [(.ex (.call i_need_loads [] [(.var 0)])), (.ret (.call i_best_of [] [(.var 0), (.glb "FREE" (.wr [(.wr []), (.int 9)]))]))]⟩
def q_law_k03_0 : CE := .comp [4] (.nm 4) (.call i_Lorders [] [(.bi .len [(.var 2)])]) [] (.tup [(.call i_Ltilt [] [(.call i_Lrows [] [(.var 2), (.var 4)])]), (.var 4)])
def c_law_k03 : CDef := ⟨1, 6, [(.asg 1 (.lst [])), (.asg 2 (.call i_Lloads [false, true, false, false] [(.var 0), (.var 1), (.bin .add (.cst (.int 1)) (.call i_Ldraw [false, true, false] [(.var 0), (.var 1), (.cst (.int 3))])), (.call i_Lpick [false, true, false] [(.var 0), (.var 1), (.lst [(.cst (.int 4)), (.cst (.int 5)), (.cst (.int 5)), (.cst (.int 6))])])])), (.asg 3 q_law_k03_0), (.unp (.tp [(.nm 5), (.nm 4)]) (.bi .min [(.var 3)])), (.ret (.and [(.cmp .eq (.call i_best [] [(.var 2)]) (.tup [(.var 4), (.var 5)])), (.cmp .eq (.call i_lean [] [(.var 2), (.var 4)]) (.var 5))]))]⟩
def c_need_lean : CDef := ⟨1, 1, [(.ite (.not (.call i_is_whole [] [(.var 0), (.cst (.int 0)), (.glb "LEAN" (.int 999))])) [(.raise 2)] [])]⟩
def b_many_from_0 : List CS := [(.ite (.cmp .le (.call i_lot_lean [] [(.var 0), (.var 7)]) (.var 2)) [(.aug .add 5 (.call i_many_from [false, false, false, false, true] [(.var 0), (.var 1), (.var 2), (.var 7), (.var 4)]))] [])]
def c_many_from : CDef := ⟨5, 8, [(.ite (.cmp .eq (.bi .len [(.var 3)]) (.bi .len [(.var 0)])) [(.ret (.cst (.int 1)))] []), (.ite (.cmp .notin (.var 3) (.var 4)) [(.asg 5 (.cst (.int 0))), (.for (.tp [(.nm 6), (.nm 7)]) (.call i_next_lots [] [(.var 0), (.var 1), (.var 3)]) b_many_from_0), (.setI 4 (.var 3) (.var 5))] []), (.ret (.idx (.var 4) (.var 3)))]⟩
def c_how_many : CDef := ⟨2, 2, [(.ex (.call i_need_loads [] [(.var 0)])), (.ex (.call i_need_lean [] [(.var 1)])), (.ret (.call i_many_from [false, false, false, false, true] [(.var 0), (.glb "FREE" (.wr [(.wr []), (.int 9)])), (.var 1), (.tup []), .dnew]))]⟩
def c_law_k04 : CDef := ⟨1, 6, [(.asg 1 (.lst [])), (.asg 2 (.bin .add (.cst (.int 1)) (.call i_Ldraw [false, true, false] [(.var 0), (.var 1), (.cst (.int 3))]))), (.asg 3 (.call i_Llevel [false, true, false, false] [(.var 0), (.var 1), (.var 2), (.cst (.int 7))])), (.unp (.tp [(.nm 4), (.nm 5)]) (.call i_best [] [(.var 3)])), (.ite (.or [(.cmp .ne (.call i_lean [] [(.var 3), (.var 4)]) (.var 5)), (.cmp .gt (.var 5) (.bin .mul (.var 2) (.call i_most [] [(.var 3)]))), (.cmp .lt (.bin .mul (.cst (.int 2)) (.var 5)) (.call i_most [] [(.var 3)]))]) [(.ret (.cst (.bl false)))] []), (.ret (.and [(.cmp .ge (.call i_how_many [] [(.var 3), (.var 5)]) (.cst (.int 1))), (.or [(.cmp .eq (.var 5) (.cst (.int 0))), (.cmp .eq (.call i_how_many [] [(.var 3), (.bin .sub (.var 5) (.cst (.int 1)))]) (.cst (.int 0)))])]))]⟩
def q_law_k05_0 : CE := .comp [4] (.nm 4) (.call i_Lorders [] [(.bi .len [(.var 2)])]) [] (.call i_Ltilt [] [(.call i_Lrows [] [(.var 2), (.var 4)])])
def q_law_k05_1 : CE := .comp [7] (.nm 7) (.var 3) [(.cmp .le (.var 7) (.bi .min2 [(.cst (.int 999)), (.var 6)]))] (.var 7)
def b_law_k05_0 : List CS := [(.ite (.not (.call i_Lsame_number [] [(.call i_how_many [] [(.var 2), (.bi .min2 [(.cst (.int 999)), (.var 6)])]), (.bi .len [q_law_k05_1])])) [(.ret (.cst (.bl false)))] [])]
def c_law_k05 : CDef := ⟨1, 8, [(.asg 1 (.lst [])), (.asg 2 (.call i_Lloads [false, true, false, false] [(.var 0), (.var 1), (.bin .add (.cst (.int 1)) (.call i_Ldraw [false, true, false] [(.var 0), (.var 1), (.cst (.int 3))])), (.cst (.int 5))])), (.asg 3 q_law_k05_0), (.asg 5 (.lst [(.bi .min [(.var 3)]), (.bi .max [(.var 3)]), (.call i_Lpick [false, true, false] [(.var 0), (.var 1), (.var 3)]), (.call i_Ldraw [false, true, false] [(.var 0), (.var 1), (.cst (.int 40))])])), (.for (.nm 6) (.bin .add (.var 5) (.lst [(.bi .max2 [(.cst (.int 0)), (.bin .sub (.bi .min [(.var 3)]) (.cst (.int 1)))])])) b_law_k05_0), (.ret (.and [(.cmp .eq (.call i_how_many [] [(.var 2), (.cst (.int 999))]) (.bi .len [(.var 3)])), (.cmp .eq (.idx (.call i_best [] [(.var 2)]) (.cst (.int 1))) (.bi .min [(.var 3)]))]))]⟩
def q_good_0 : CE := .comp [3] (.nm 3) (.var 1) [] (.call i_is_whole [] [(.var 3), (.cst (.int 0)), (.bin .sub (.bi .len [(.var 0)]) (.cst (.int 1)))])
def b_good_0 : List CS := [(.asg 7 (.bin .add (.var 1) (.tup [(.var 6)]))), (.ite (.and [(.cmp .notin (.var 6) (.var 1)), (.cmp .le (.call i_lean_of [] [(.call i_sums_of [] [(.var 0), (.var 7)])]) (.var 2))]) [(.ite (.cmp .gt (.call i_many_from [false, false, false, false, true] [(.var 0), (.glb "FREE" (.wr [(.wr []), (.int 9)])), (.var 2), (.bi .tuple [(.bi .sorted [(.var 7)])]), (.var 5)]) (.cst (.int 0))) [(.ex (.app 4 (.var 6)))] [])] [])]
def c_good : CDef := ⟨3, 8, [(.ex (.call i_need_loads [] [(.var 0)])), (.ite (.or [(.not (.isi .tup (.var 1))), (.not (.bi .all [q_good_0]))]) [(.raise 4)] []), (.ite (.cmp .ne (.bi .lenset [(.var 1)]) (.bi .len [(.var 1)])) [(.raise 4)] []), (.ex (.call i_need_lean [] [(.var 2)])), (.par [4, 5] [(.lst []), .dnew]), (.for (.nm 6) (.rng1 (.bi .len [(.var 0)])) b_good_0), (.ret (.var 4))]⟩
def q_law_k06_0 : CE := .comp [5] (.nm 5) (.call i_Lorders [] [(.bi .len [(.var 2)])]) [(.cmp .le (.call i_Ltilt [] [(.call i_Lrows [] [(.var 2), (.var 5)])]) (.var 3))] (.var 5)
def q_law_k06_1 : CE := .comp [5] (.nm 5) (.var 4) [(.cmp .eq (.slc (.var 5) [] [(.bi .len [(.var 6)])]) (.var 6))] (.slc (.slc (.var 5) [(.bi .len [(.var 6)])] []) [] [(.cst (.int 1))])
def q_law_k06_2 : CE := .comp [8] (.nm 8) (.var 7) [(.cmp .ne (.var 8) (.tup []))] (.idx (.var 8) (.cst (.int 0)))
def q_law_k06_3 : CE := .comp [5] (.nm 5) (.var 4) [(.cmp .eq (.slc (.var 5) [] [(.bi .len [(.var 8)])]) (.var 8))] (.idx (.var 5) (.bi .len [(.var 8)]))
def b_law_k06_0 : List CS := [(.asg 9 (.call i_good [] [(.var 2), (.var 8), (.var 3)])), (.asg 10 (.bi .sortset [q_law_k06_3])), (.ite (.or [(.cmp .ne (.var 9) (.var 10)), (.cmp .eq (.var 9) (.lst []))]) [(.ret (.cst (.bl false)))] []), (.asg 8 (.bin .add (.var 8) (.tup [(.call i_Lpick [false, true, false] [(.var 0), (.var 1), (.var 9)])])))]
def c_law_k06 : CDef := ⟨1, 11, [(.asg 1 (.lst [])), (.asg 2 (.call i_Lloads [false, true, false, false] [(.var 0), (.var 1), (.bin .add (.cst (.int 1)) (.call i_Ldraw [false, true, false] [(.var 0), (.var 1), (.cst (.int 3))])), (.cst (.int 5))])), (.asg 3 (.bin .add (.idx (.call i_best [] [(.var 2)]) (.cst (.int 1))) (.call i_Ldraw [false, true, false] [(.var 0), (.var 1), (.cst (.int 4))]))), (.asg 4 q_law_k06_0), (.asg 6 (.slc (.call i_Lorder_of [false, true, false] [(.var 0), (.var 1), (.bi .len [(.var 2)])]) [] [(.call i_Ldraw [false, true, false] [(.var 0), (.var 1), (.bin .add (.bi .len [(.var 2)]) (.cst (.int 1)))])])), (.asg 7 (.bi .sortset [q_law_k06_1])), (.ite (.cmp .ne (.call i_good [] [(.var 2), (.var 6), (.var 3)]) q_law_k06_2) [(.ret (.cst (.bl false)))] []), (.asg 8 (.tup [])), (.wh (.cmp .lt (.bi .len [(.var 8)]) (.bi .len [(.var 2)])) b_law_k06_0), (.ret (.and [(.cmp .le (.call i_lean [] [(.var 2), (.var 8)]) (.var 3)), (.cmp .eq (.call i_good [] [(.var 2), (.var 8), (.var 3)]) (.lst []))]))]⟩
def b_Lby_rules_0 : List CS := [(.ite (.cmp .gt (.index (.var 1) (.var 2)) (.index (.var 1) (.var 3))) [(.ret (.cst (.bl false)))] [])]
def q_Lby_rules_0 : CE := .comp [4, 5] (.tp [(.nm 4), (.nm 5)]) (.enum (.var 1)) [(.cmp .gt (.var 5) (.bin .add (.var 4) (.idx (.var 0) (.cst (.int 1)))))] (.var 5)
def c_Lby_rules : CDef := ⟨2, 6, [(.for (.tp [(.nm 2), (.nm 3)]) (.idx (.var 0) (.cst (.int 0))) b_Lby_rules_0), (.ret (.cmp .eq q_Lby_rules_0 (.lst [])))]⟩
def q_is_pair_0 : CE := .comp [2] (.nm 2) (.var 1) [] (.call i_is_whole [] [(.var 2), (.cst (.int 0)), (.bin .sub (.bi .len [(.var 0)]) (.cst (.int 1)))])
def c_is_pair : CDef := ⟨2, 3, [(.ite (.or [(.not (.isi .tup (.var 1))), (.cmp .ne (.bi .len [(.var 1)]) (.cst (.int 2))), (.not (.bi .all [q_is_pair_0]))]) [(.ret (.cst (.bl false)))] []), (.ret (.cmp .ne (.idx (.var 1) (.cst (.int 0))) (.idx (.var 1) (.cst (.int 1)))))]⟩
def q_good_rules_0 : CE := .comp [2] (.nm 2) (.idx (.var 1) (.cst (.int 0))) [] (.call i_is_pair [] [(.var 0), (.var 2)])
def q_good_rules_1 : CE := .comp [2, 3] (.tp [(.nm 2), (.nm 3)]) (.zip (.idx (.var 1) (.cst (.int 0))) (.slc (.idx (.var 1) (.cst (.int 0))) [(.cst (.int 1))] [])) [] (.cmp .lt (.var 2) (.var 3))
def c_good_rules : CDef := ⟨2, 4, [(.ite (.or [(.not (.isi .tup (.var 1))), (.cmp .ne (.bi .len [(.var 1)]) (.cst (.int 2))), (.not (.call i_is_whole [] [(.idx (.var 1) (.cst (.int 1))), (.cst (.int 0)), (.glb "QUAY" (.int 9))]))]) [(.ret (.cst (.bl false)))] []), (.ite (.or [(.not (.isi .tup (.idx (.var 1) (.cst (.int 0))))), (.cmp .gt (.bi .len [(.idx (.var 1) (.cst (.int 0)))]) (.glb "PAIRS" (.int 20))), (.not (.bi .all [q_good_rules_0]))]) [(.ret (.cst (.bl false)))] []), (.ret (.bi .all [q_good_rules_1]))]⟩
def c_are_rules : CDef := ⟨2, 2, [(.ex (.call i_need_loads [] [(.var 0)])), (.ret (.call i_good_rules [] [(.var 0), (.var 1)]))]⟩
def c_need_rules : CDef := ⟨2, 2, [(.ex (.call i_need_loads [] [(.var 0)])), (.ite (.not (.call i_good_rules [] [(.var 0), (.var 1)])) [(.raise 3)] [])]⟩
def b_Lsome_rules_0 : List CS := [(.par [7, 8] [(.call i_Ldraw [false, true, false] [(.var 0), (.var 1), (.var 3)]), (.call i_Ldraw [false, true, false] [(.var 0), (.var 1), (.var 3)])]), (.ite (.cmp .lt (.index (.var 5) (.var 7)) (.index (.var 5) (.var 8))) [(.ex (.app 4 (.tup [(.var 7), (.var 8)])))] [(.ite (.and [(.cmp .ne (.var 7) (.var 8)), (.cmp .eq (.call i_Ldraw [false, true, false] [(.var 0), (.var 1), (.cst (.int 6))]) (.cst (.int 0)))]) [(.ex (.app 4 (.tup [(.var 7), (.var 8)])))] [])])]
def c_Lsome_rules : CDef := ⟨3, 9, [(.par [3, 4] [(.bi .len [(.var 2)]), (.lst [])]), (.asg 5 (.call i_Lorder_of [false, true, false] [(.var 0), (.var 1), (.var 3)])), (.for (.nm 6) (.rng1 (.call i_Ldraw [false, true, false] [(.var 0), (.var 1), (.cst (.int 4))])) b_Lsome_rules_0), (.ret (.tup [(.bi .tuple [(.bi .sortset [(.var 4)])]), (.call i_Lpick [false, true, false] [(.var 0), (.var 1), (.lst [(.cst (.int 9)), (.cst (.int 9)), (.cst (.int 0)), (.cst (.int 1)), (.cst (.int 2)), (.cst (.int 3))])])]))]⟩
def q_keeps_0 : CE := .comp [3, 4] (.tp [(.nm 3), (.nm 4)]) (.enum (.var 2)) [] (.call i_may_go [] [(.var 1), (.slc (.var 2) [] [(.var 3)]), (.var 4)])
def c_keeps : CDef := ⟨3, 5, [(.ex (.call i_need_rules [] [(.var 0), (.var 1)])), (.ex (.call i_need_order [] [(.var 0), (.var 2)])), (.ret (.bi .all [q_keeps_0]))]⟩
def c_best_by : CDef := ⟨2, 2, [(.ex (.call i_need_rules [] [(.var 0), (.var 1)])), (.ret (.call i_best_of [] [(.var 0), (.var 1)]))]⟩
def c_how_many_by : CDef := ⟨3, 3, [(.ex (.call i_need_rules [] [(.var 0), (.var 1)])), (.ex (.call i_need_lean [] [(.var 2)])), (.ret (.call i_many_from [false, false, false, false, true] [(.var 0), (.var 1), (.var 2), (.tup []), .dnew]))]⟩
def q_law_k07_0 : CE := .comp [6] (.nm 6) (.var 4) [(.call i_Lby_rules [] [(.var 3), (.var 6)])] (.var 6)
def b_law_k07_0 : List CS := [(.asg 6 (.call i_Lpick [false, true, false] [(.var 0), (.var 1), (.var 4)])), (.ite (.not (.call i_Lsame_truth [] [(.call i_keeps [] [(.var 2), (.var 3), (.var 6)]), (.cmp .isin (.var 6) (.var 5))])) [(.ret (.cst (.bl false)))] [])]
def q_law_k07_1 : CE := .comp [6] (.nm 6) (.var 5) [] (.tup [(.call i_Ltilt [] [(.call i_Lrows [] [(.var 2), (.var 6)])]), (.var 6)])
def q_law_k07_2 : CE := .comp [11] (.nm 11) (.var 8) [(.cmp .le (.idx (.var 11) (.cst (.int 0))) (.var 10))] (.var 11)
def c_law_k07 : CDef := ⟨1, 12, [(.asg 1 (.lst [])), (.asg 2 (.call i_Lloads [false, true, false, false] [(.var 0), (.var 1), (.bin .add (.cst (.int 1)) (.call i_Ldraw [false, true, false] [(.var 0), (.var 1), (.cst (.int 3))])), (.cst (.int 5))])), (.asg 3 (.call i_Lsome_rules [false, true, false] [(.var 0), (.var 1), (.var 2)])), (.asg 4 (.call i_Lorders [] [(.bi .len [(.var 2)])])), (.asg 5 q_law_k07_0), (.ite (.cmp .isnot (.call i_are_rules [] [(.var 2), (.var 3)]) (.cst (.bl true))) [(.ret (.cst (.bl false)))] []), (.for (.nm 7) (.rng1 (.cst (.int 4))) b_law_k07_0), (.asg 8 q_law_k07_1), (.ite (.cmp .eq (.var 8) (.lst [])) [(.ret (.and [(.cmp .is (.call i_best_by [] [(.var 2), (.var 3)]) (.cst .non)), (.cmp .eq (.call i_how_many_by [] [(.var 2), (.var 3), (.cst (.int 999))]) (.cst (.int 0)))]))] []), (.unp (.tp [(.nm 9), (.nm 6)]) (.bi .min [(.var 8)])), (.ite (.cmp .ne (.call i_best_by [] [(.var 2), (.var 3)]) (.tup [(.var 6), (.var 9)])) [(.ret (.cst (.bl false)))] []), (.asg 10 (.call i_Lpick [false, true, false] [(.var 0), (.var 1), (.lst [(.var 9), (.bin .add (.var 9) (.cst (.int 2))), (.bi .max2 [(.cst (.int 0)), (.bin .sub (.var 9) (.cst (.int 1)))])])])), (.ret (.cmp .eq (.call i_how_many_by [] [(.var 2), (.var 3), (.var 10)]) (.bi .len [q_law_k07_2])))]⟩
def b_Lby_hand_0 : List CS := [(.ite (.or [(.cmp .eq (.var 3) (.bi .len [(.var 0)])), (.cmp .gt (.bi .len [(.var 2)]) (.var 1))]) [(.ret (.cst (.bl false)))] []), (.ex (.app 2 (.var 3))), (.asg 3 (.bin .add (.var 3) (.cst (.int 1))))]
def b_Lby_hand_1 : List CS := [(.wh (.cmp .notin (.var 4) (.var 2)) b_Lby_hand_0), (.ite (.cmp .gt (.bi .len [(.var 2)]) (.bin .add (.var 1) (.cst (.int 1)))) [(.ret (.cst (.bl false)))] []), (.ex (.rem 2 (.var 4)))]
def c_Lby_hand : CDef := ⟨2, 5, [(.par [2, 3] [(.lst []), (.cst (.int 0))]), (.for (.nm 4) (.var 0) b_Lby_hand_1), (.ret (.cst (.bl true)))]⟩
def b_law_k08_0 : List CS := [(.ite (.not (.call i_Lsame_truth [] [(.call i_keeps [] [(.var 2), (.tup [(.tup []), (.var 5)]), (.var 3)]), (.call i_Lby_hand [] [(.var 3), (.var 5)])])) [(.ret (.cst (.bl false)))] []), (.asg 6 (.call i_best_by [] [(.var 2), (.tup [(.tup []), (.var 5)])])), (.ite (.or [(.cmp .is (.var 6) (.cst .non)), (.and [(.cmp .isnot (.var 4) (.cst .non)), (.cmp .gt (.idx (.var 6) (.cst (.int 1))) (.var 4))])]) [(.ret (.cst (.bl false)))] []), (.asg 4 (.idx (.var 6) (.cst (.int 1))))]
def b_law_k08_1 : List CS := [(.asg 8 (.bin .mul (.cst (.int 2)) (.var 8)))]
def c_law_k08 : CDef := ⟨1, 10, [(.asg 1 (.lst [])), (.asg 2 (.call i_Lloads [false, true, false, false] [(.var 0), (.var 1), (.bin .add (.cst (.int 1)) (.call i_Ldraw [false, true, false] [(.var 0), (.var 1), (.cst (.int 3))])), (.cst (.int 6))])), (.par [3, 4] [(.call i_Lorder_of [false, true, false] [(.var 0), (.var 1), (.bi .len [(.var 2)])]), (.cst .non)]), (.for (.nm 5) (.rng1 (.cst (.int 9))) b_law_k08_0), (.asg 7 (.bi .tuple [(.listRng (.bi .len [(.var 2)]))])), (.ite (.or [(.cmp .ne (.call i_best_by [] [(.var 2), (.tup [(.tup []), (.cst (.int 0))])]) (.tup [(.var 7), (.call i_Ltilt [] [(.call i_Lrows [] [(.var 2), (.var 7)])])])), (.cmp .ne (.call i_best_by [] [(.var 2), (.tup [(.tup []), (.cst (.int 9))])]) (.call i_best [] [(.var 2)]))]) [(.ret (.cst (.bl false)))] []), (.asg 8 (.cst (.int 1))), (.for (.nm 9) (.slc (.var 2) [(.cst (.int 1))] []) b_law_k08_1), (.ret (.cmp .eq (.call i_how_many_by [] [(.var 2), (.tup [(.tup []), (.cst (.int 1))]), (.cst (.int 999))]) (.var 8)))]⟩
def q_Lmerges_0 : CE := .comp [1] (.nm 1) (.var 0) [(.cmp .ne (.var 1) (.tup []))] (.var 1)
def q_Lmerges_1 : CE := .comp [5] (.nm 5) (.call i_Lmerges [] [(.var 4)]) [] (.bin .add (.tup [(.idx (.var 1) (.cst (.int 0)))]) (.var 5))
def b_Lmerges_0 : List CS := [(.ite (.cmp .ne (.var 1) (.tup [])) [(.asg 4 (.bin .add (.bin .add (.slc (.var 0) [] [(.var 3)]) (.tup [(.slc (.var 1) [(.cst (.int 1))] [])])) (.slc (.var 0) [(.bin .add (.var 3) (.cst (.int 1)))] []))), (.ex (.ext 2 q_Lmerges_1))] [])]
def c_Lmerges : CDef := ⟨1, 6, [(.ite (.cmp .eq q_Lmerges_0 (.lst [])) [(.ret (.lst [(.tup [])]))] []), (.asg 2 (.lst [])), (.for (.tp [(.nm 3), (.nm 1)]) (.enum (.var 0)) b_Lmerges_0), (.ret (.var 2))]⟩
def q_rules_of_0 : CE := .comp [2] (.nm 2) (.var 1) [] (.isi .tup (.var 2))
def q_rules_of_1 : CE := .comp2 [2, 4] (.nm 2) (.var 1) [] [4] (.nm 4) (.var 2) [] (.var 4)
def q_rules_of_2 : CE := .comp [5] (.nm 5) (.var 3) [] (.call i_is_whole [] [(.var 5), (.cst (.int 0)), (.bin .sub (.bi .len [(.var 0)]) (.cst (.int 1)))])
def b_rules_of_0 : List CS := [(.ex (.ext 6 (.listZip (.var 2) (.slc (.var 2) [(.cst (.int 1))] []))))]
def c_rules_of : CDef := ⟨2, 7, [(.ex (.call i_need_loads [] [(.var 0)])), (.ite (.or [(.not (.isi .tup (.var 1))), (.not (.bi .all [q_rules_of_0]))]) [(.raise 3)] []), (.asg 3 q_rules_of_1), (.ite (.or [(.not (.bi .all [q_rules_of_2])), (.cmp .ne (.bi .lenset [(.var 3)]) (.bi .len [(.var 3)]))]) [(.raise 3)] []), (.asg 6 (.lst [])), (.for (.nm 2) (.var 1) b_rules_of_0), (.ret (.tup [(.bi .tuple [(.bi .sorted [(.var 6)])]), (.glb "QUAY" (.int 9))]))]⟩
def q_is_lot_0 : CE := .comp [2] (.nm 2) (.var 1) [] (.call i_is_whole [] [(.var 2), (.cst (.int 0)), (.bin .sub (.bi .len [(.var 0)]) (.cst (.int 1)))])
def q_is_lot_1 : CE := .comp [2, 3] (.tp [(.nm 2), (.nm 3)]) (.zip (.var 1) (.slc (.var 1) [(.cst (.int 1))] [])) [] (.cmp .lt (.var 2) (.var 3))
def c_is_lot : CDef := ⟨2, 4, [(.ite (.or [(.not (.isi .tup (.var 1))), (.not (.bi .all [q_is_lot_0]))]) [(.ret (.cst (.bl false)))] []), (.ret (.bi .all [q_is_lot_1]))]⟩
def q_is_paper_0 : CE := .comp [4] (.nm 4) (.var 3) [] (.call i_is_lot [] [(.var 0), (.var 4)])
def q_is_paper_1 : CE := .comp [5, 6] (.tp [(.nm 5), (.nm 6)]) (.zip (.var 3) (.slc (.var 3) [(.cst (.int 1))] [])) [] (.cmp .lt (.var 5) (.var 6))
def b_is_paper_0 : List CS := [(.ite (.and [(.cmp .notin (.var 8) (.var 3)), (.cmp .lt (.call i_lot_lean [] [(.var 0), (.var 8)]) (.var 2))]) [(.ret (.cst (.bl false)))] [])]
def b_is_paper_1 : List CS := [(.for (.tp [(.nm 7), (.nm 8)]) (.call i_next_lots [] [(.var 0), (.var 1), (.var 4)]) b_is_paper_0)]
def c_is_paper : CDef := ⟨4, 9, [(.ex (.call i_need_rules [] [(.var 0), (.var 1)])), (.ex (.call i_need_lean [] [(.var 2)])), (.ite (.or [(.not (.isi .lst (.var 3))), (.not (.bi .all [q_is_paper_0]))]) [(.ret (.cst (.bl false)))] []), (.ite (.not (.bi .all [q_is_paper_1])) [(.ret (.cst (.bl false)))] []), (.ite (.or [(.cmp .notin (.tup []) (.var 3)), (.cmp .isin (.tupRng (.bi .len [(.var 0)])) (.var 3))]) [(.ret (.cst (.bl false)))] []), (.for (.nm 4) (.var 3) b_is_paper_1), (.ret (.cst (.bl true)))]⟩
def q_Lclosed_0 : CE := .comp [9, 10] (.tp [(.nm 9), (.nm 10)]) (.idx (.var 1) (.cst (.int 0))) [(.and [(.cmp .eq (.var 10) (.var 6)), (.cmp .notin (.var 9) (.var 5))])] (.var 9)
def b_Lclosed_0 : List CS := [(.asg 7 q_Lclosed_0), (.ite (.and [(.cmp .notin (.var 6) (.var 5)), (.cmp .eq (.var 7) (.lst [])), (.cmp .le (.var 6) (.bin .add (.bi .len [(.var 5)]) (.idx (.var 1) (.cst (.int 1)))))]) [(.asg 8 (.bi .tuple [(.bi .sorted [(.bin .add (.var 5) (.tup [(.var 6)]))])])), (.ite (.and [(.cmp .notin (.var 8) (.var 3)), (.cmp .lt (.call i_Ltilt [] [(.slc (.call i_Lrows [] [(.var 0), (.var 8)]) [(.neg (.cst (.int 1)))] [])]) (.var 2))]) [(.ret (.cst (.bl false)))] [])] [])]
def b_Lclosed_1 : List CS := [(.for (.nm 6) (.var 4) b_Lclosed_0)]
def c_Lclosed : CDef := ⟨4, 11, [(.asg 4 (.bi .tuple [(.listRng (.bi .len [(.var 0)]))])), (.ite (.or [(.cmp .ne (.var 3) (.bi .sortset [(.var 3)])), (.cmp .notin (.tup []) (.var 3)), (.cmp .isin (.var 4) (.var 3))]) [(.ret (.cst (.bl false)))] []), (.for (.nm 5) (.var 3) b_Lclosed_1), (.ret (.cst (.bl true)))]⟩
def q_law_k11_0 : CE := .comp [8] (.nm 8) (.var 6) [] (.bin .add (.var 8) (.tup [(.var 7)]))
def b_law_k11_0 : List CS := [(.asg 6 (.bin .add (.var 6) q_law_k11_0))]
def b_law_k11_1 : List CS := [(.ite (.or [(.cmp .lt (.call i_Ltilt [] [(.slc (.call i_Lrows [] [(.var 2), (.var 8)]) [(.neg (.cst (.int 1)))] [])]) (.var 5)), (.cmp .eq (.call i_Ldraw [false, true, false] [(.var 0), (.var 1), (.cst (.int 4))]) (.cst (.int 0)))]) [(.ex (.app 10 (.var 8)))] [])]
def q_law_k11_1 : CE := .comp [8] (.nm 8) (.var 10) [(.cmp .lt (.bi .len [(.var 8)]) (.bin .sub (.bi .len [(.var 2)]) (.call i_Ldraw [false, true, false] [(.var 0), (.var 1), (.cst (.int 2))])))] (.var 8)
def q_law_k11_2 : CE := .comp [13] (.nm 13) (.var 12) [(.cmp .isnot (.call i_is_paper [] [(.var 2), (.var 3), (.var 5), (.var 13)]) (.cst (.bl false)))] (.var 13)
def b_law_k11_2 : List CS := [(.asg 10 (.lst [])), (.for (.nm 8) (.bi .sorted [(.var 6)]) b_law_k11_1), (.ite (.cmp .eq (.call i_Ldraw [false, true, false] [(.var 0), (.var 1), (.cst (.int 3))]) (.cst (.int 0))) [(.asg 10 q_law_k11_1)] []), (.ite (.and [(.cmp .ne (.var 10) (.lst [])), (.cmp .eq (.call i_Ldraw [false, true, false] [(.var 0), (.var 1), (.cst (.int 3))]) (.cst (.int 0)))]) [(.ex (.popAt 10 (.call i_Ldraw [false, true, false] [(.var 0), (.var 1), (.bi .len [(.var 10)])])))] []), (.asg 11 (.call i_Lclosed [] [(.var 2), (.var 3), (.var 5), (.var 10)])), (.ite (.not (.call i_Lsame_truth [] [(.call i_is_paper [] [(.var 2), (.var 3), (.var 5), (.var 10)]), (.var 11)])) [(.ret (.cst (.bl false)))] []), (.ite (.and [(.var 11), (.cmp .isnot (.var 4) (.cst .non)), (.cmp .lt (.idx (.var 4) (.cst (.int 1))) (.var 5))]) [(.ret (.cst (.bl false)))] []), (.ite (.var 11) [(.asg 12 (.lst [(.bin .add (.var 10) (.lst [(.tup [(.cst (.int 9))])])), (.bin .add (.var 10) (.lst [(.tup [(.bi .len [(.var 2)])])])), (.bin .add (.lst [(.tup [])]) (.var 10)), (.bin .add (.var 10) (.lst [(.bin .mul (.tup [(.bin .sub (.bi .len [(.var 2)]) (.cst (.int 1)))]) (.cst (.int 2)))])), (.bin .add (.var 10) (.lst [(.cst .non)]))])), (.ex (.ext 12 (.lst [(.bin .add (.var 10) (.lst [(.tup [(.cst (.bl true))])])), (.bin .add (.var 10) (.lst [(.lst [(.cst (.int 0))])])), (.bin .add (.var 10) (.lst [(.tup [(.cst (.str [48]))])]))]))), (.ite (.cmp .ne q_law_k11_2 (.lst [])) [(.ret (.cst (.bl false)))] []), (.ite (.and [(.cmp .gt (.bi .len [(.var 10)]) (.cst (.int 1))), (.cmp .isnot (.call i_is_paper [] [(.var 2), (.var 3), (.var 5), (.rev (.var 10))]) (.cst (.bl false)))]) [(.ret (.cst (.bl false)))] [])] [])]
def b_law_k11_3 : List CS := [(.ite (.cmp .isnot (.call i_is_paper [] [(.var 2), (.var 3), (.var 5), (.var 14)]) (.cst (.bl false))) [(.ret (.cst (.bl false)))] [])]
def c_law_k11 : CDef := ⟨1, 15, [(.asg 1 (.lst [])), (.asg 2 (.call i_Lloads [false, true, false, false] [(.var 0), (.var 1), (.bin .add (.cst (.int 1)) (.call i_Ldraw [false, true, false] [(.var 0), (.var 1), (.cst (.int 2))])), (.cst (.int 4))])), (.asg 3 (.call i_Lsome_rules [false, true, false] [(.var 0), (.var 1), (.var 2)])), (.asg 4 (.call i_best_by [] [(.var 2), (.var 3)])), (.asg 5 (.bi .max2 [(.cst (.int 0)), (.bin .sub (.bin .add (.ite (.cmp .isnot (.var 4) (.cst .non)) (.idx (.var 4) (.cst (.int 1))) (.cst (.int 9))) (.call i_Ldraw [false, true, false] [(.var 0), (.var 1), (.cst (.int 3))])) (.cst (.int 1)))])), (.asg 6 (.lst [(.tup [])])), (.for (.nm 7) (.rng1 (.bi .len [(.var 2)])) b_law_k11_0), (.for (.nm 9) (.rng1 (.cst (.int 8))) b_law_k11_2), (.for (.nm 14) (.lst [(.cst .non), (.tup []), (.lst []), (.lst [(.cst .non)]), (.lst [(.lst [])]), (.lst [(.tup [(.cst (.int 0)), (.cst (.int 0))])]), (.lst [(.tup []), (.tup [(.cst (.int 0))]), (.tup [])]), (.lst [(.tup [(.cst (.int 1)), (.cst (.int 0))])]), (.lst [(.tup [(.cst (.str [48]))])]), (.lst [(.tup [(.cst (.bl true))])]), (.tup [(.tup [])])]) b_law_k11_3), (.ret (.cst (.bl true)))]⟩
def c_is_any_whole : CDef := ⟨1, 1, [(.ret (.and [(.isi .int (.var 0)), (.not (.isi .bool (.var 0)))]))]⟩
def b_common_0 : List CS := [(.par [0, 1] [(.var 1), (.bin .mod (.var 0) (.var 1))])]
def c_common : CDef := ⟨2, 2, [(.wh (.cmp .gt (.var 1) (.cst (.int 0))) b_common_0), (.ret (.var 0))]⟩
def c_below : CDef := ⟨2, 2, [(.ret (.cmp .lt (.bin .mul (.idx (.var 0) (.cst (.int 0))) (.idx (.var 1) (.cst (.int 1)))) (.bin .mul (.idx (.var 1) (.cst (.int 0))) (.idx (.var 0) (.cst (.int 1))))))]⟩
def c_is_inner : CDef := ⟨1, 1, [(.ret (.chain .lt .lt (.cst (.int 0)) (.idx (.var 0) (.cst (.int 0))) (.idx (.var 0) (.cst (.int 1)))))]⟩
def b_Lcommon_0 : List CS := [(.par [0, 1] [(.var 1), (.bin .sub (.var 0) (.bin .mul (.bin .fdiv (.var 0) (.var 1)) (.var 1)))])]
def c_Lcommon : CDef := ⟨2, 2, [(.wh (.cmp .ne (.var 1) (.cst (.int 0))) b_Lcommon_0), (.ret (.var 0))]⟩
def c_made_of : CDef := ⟨2, 3, [(.ite (.cmp .lt (.var 1) (.cst (.int 0))) [(.par [0, 1] [(.bin .sub (.cst (.int 0)) (.var 0)), (.bin .sub (.cst (.int 0)) (.var 1))])] []), (.asg 2 (.call i_common [] [(.bi .abs [(.var 0)]), (.var 1)])), (.ret (.tup [(.bin .fdiv (.var 0) (.var 2)), (.bin .fdiv (.var 1) (.var 2))]))]⟩
def q_rows_for_0 : CE := .comp [3] (.nm 3) (.var 1) [] (.tup [(.cst (.int 1)), (.cst (.int 1))])
def q_rows_for_1 : CE := .comp [3] (.nm 3) (.var 1) [] (.tup [(.idx (.idx (.var 0) (.var 3)) (.var 4)), (.cst (.int 1))])
def b_rows_for_0 : List CS := [(.ex (.app 2 q_rows_for_1))]
def c_rows_for : CDef := ⟨2, 5, [(.asg 2 (.lst [q_rows_for_0])), (.for (.nm 4) (.rng1 (.call i_ways_of [] [(.var 0)])) b_rows_for_0), (.ret (.var 2))]⟩
def q_is_share_0 : CE := .comp [1] (.nm 1) (.var 0) [] (.and [(.call i_is_any_whole [] [(.var 1)]), (.cmp .ge (.var 1) (.cst (.int 0)))])
def c_is_share : CDef := ⟨1, 2, [(.ite (.or [(.not (.isi .tup (.var 0))), (.cmp .ne (.bi .len [(.var 0)]) (.cst (.int 2))), (.not (.bi .all [q_is_share_0]))]) [(.ret (.cst (.bl false)))] []), (.ret (.and [(.cmp .gt (.idx (.var 0) (.cst (.int 1))) (.cst (.int 0))), (.cmp .le (.idx (.var 0) (.cst (.int 0))) (.idx (.var 0) (.cst (.int 1)))), (.cmp .eq (.call i_common [] [(.idx (.var 0) (.cst (.int 0))), (.idx (.var 0) (.cst (.int 1)))]) (.cst (.int 1)))]))]⟩
def b_Lright_0 : List CS := [(.ite (.or [(.not (.chain .le .le (.cst (.int 0)) (.var 5) (.var 6))), (.cmp .lt (.var 6) (.cst (.int 1))), (.cmp .ne (.call i_Lcommon [] [(.var 6), (.var 5)]) (.cst (.int 1)))]) [(.ret (.cst (.bl false)))] []), (.asg 4 (.bin .fdiv (.bin .mul (.var 4) (.var 6)) (.call i_Lcommon [] [(.var 4), (.var 6)])))]
def q_Lright_0 : CE := .comp [5, 6] (.tp [(.nm 5), (.nm 6)]) (.var 2) [] (.bin .mul (.var 5) (.bin .fdiv (.var 4) (.var 6)))
def q_Lright_1 : CE := .comp [9, 10] (.tp [(.nm 9), (.nm 10)]) (.zip (.var 7) (.var 1)) [] (.bin .mul (.var 9) (.idx (.idx (.var 0) (.var 10)) (.var 8)))
def b_Lright_1 : List CS := [(.ite (.cmp .ne (.bi .sum [q_Lright_1]) (.cst (.int 0))) [(.ret (.cst (.bl false)))] [])]
def c_Lright : CDef := ⟨3, 11, [(.par [3, 4] [(.bi .len [(.idx (.var 0) (.cst (.int 0)))]), (.cst (.int 1))]), (.for (.tp [(.nm 5), (.nm 6)]) (.var 2) b_Lright_0), (.asg 7 q_Lright_0), (.ite (.cmp .ne (.bi .sum [(.var 7)]) (.bin .mul (.bin .sub (.bi .len [(.var 2)]) (.var 3)) (.var 4))) [(.ret (.cst (.bl false)))] []), (.for (.nm 8) (.rng1 (.var 3)) b_Lright_1), (.ret (.cst (.bl true)))]⟩
def c_plus : CDef := ⟨2, 2, [(.ret (.call i_made_of [] [(.bin .add (.bin .mul (.idx (.var 0) (.cst (.int 0))) (.idx (.var 1) (.cst (.int 1)))) (.bin .mul (.idx (.var 1) (.cst (.int 0))) (.idx (.var 0) (.cst (.int 1))))), (.bin .mul (.idx (.var 0) (.cst (.int 1))) (.idx (.var 1) (.cst (.int 1))))]))]⟩
def c_times : CDef := ⟨2, 2, [(.ret (.call i_made_of [] [(.bin .mul (.idx (.var 0) (.cst (.int 0))) (.idx (.var 1) (.cst (.int 0)))), (.bin .mul (.idx (.var 0) (.cst (.int 1))) (.idx (.var 1) (.cst (.int 1))))]))]⟩
def c_over : CDef := ⟨2, 2, [(.ret (.call i_made_of [] [(.bin .mul (.idx (.var 0) (.cst (.int 0))) (.idx (.var 1) (.cst (.int 1)))), (.bin .mul (.idx (.var 0) (.cst (.int 1))) (.idx (.var 1) (.cst (.int 0))))]))]⟩
def c_minus : CDef := ⟨2, 2, [(.ret (.call i_plus [] [(.var 0), (.tup [(.bin .sub (.cst (.int 0)) (.idx (.var 1) (.cst (.int 0)))), (.idx (.var 1) (.cst (.int 1)))])]))]⟩
def q_shows_0 : CE := .comp [8, 9] (.tp [(.nm 8), (.nm 9)]) (.enum (.var 5)) [] (.call i_plus [] [(.var 9), (.call i_times [] [(.var 7), (.tup [(.idx (.idx (.var 0) (.var 6)) (.var 8)), (.cst (.int 1))])])])
def b_shows_0 : List CS := [(.asg 4 (.call i_plus [] [(.var 4), (.var 7)])), (.asg 5 q_shows_0)]
def c_shows : CDef := ⟨3, 10, [(.par [3, 4] [(.call i_ways_of [] [(.var 0)]), (.tup [(.cst (.int 0)), (.cst (.int 1))])]), (.asg 5 (.lrep [(.tup [(.cst (.int 0)), (.cst (.int 1))])] (.var 3))), (.for (.tp [(.nm 6), (.nm 7)]) (.zip (.var 1) (.var 2)) b_shows_0), (.ret (.and [(.cmp .eq (.var 4) (.tup [(.bin .sub (.bi .len [(.var 2)]) (.var 3)), (.cst (.int 1))])), (.cmp .eq (.var 5) (.lrep [(.tup [(.cst (.int 0)), (.cst (.int 1))])] (.var 3)))]))]⟩
def q_cleared_0 : CE := .comp [4] (.nm 4) (.idx (.var 0) (.var 1)) [] (.call i_over [] [(.var 4), (.idx (.idx (.var 0) (.var 1)) (.var 2))])
def q_cleared_1 : CE := .comp [4, 8] (.tp [(.nm 4), (.nm 8)]) (.zip (.var 7) (.var 3)) [] (.call i_minus [] [(.var 4), (.call i_times [] [(.idx (.var 7) (.var 2)), (.var 8)])])
def b_cleared_0 : List CS := [(.ite (.cmp .eq (.var 6) (.var 1)) [(.ex (.app 5 (.var 3)))] [(.ex (.app 5 q_cleared_1))])]
def c_cleared : CDef := ⟨3, 9, [(.asg 3 q_cleared_0), (.asg 5 (.lst [])), (.for (.tp [(.nm 6), (.nm 7)]) (.enum (.var 0)) b_cleared_0), (.ret (.var 5))]⟩
def c_room_of : CDef := ⟨2, 2, [(.ret (.ite (.cmp .gt (.idx (.var 1) (.cst (.int 0))) (.cst (.int 0))) (.call i_over [] [(.call i_minus [] [(.tup [(.cst (.int 1)), (.cst (.int 1))]), (.var 0)]), (.var 1)]) (.call i_over [] [(.var 0), (.call i_minus [] [(.tup [(.cst (.int 0)), (.cst (.int 1))]), (.var 1)])])))]⟩
def c_need_balanced : CDef := ⟨1, 1, [(.ex (.call i_need_loads [] [(.var 0)])), (.ite (.not (.call i_balanced [] [(.var 0)])) [(.raise 5)] [])]⟩
def q_ring_of_0 : CE := .comp [7] (.nm 7) (.rng2 (.var 2) (.bi .len [(.var 0)])) [(.cmp .ne (.idx (.idx (.idx (.var 0) (.var 7)) (.var 4)) (.cst (.int 0))) (.cst (.int 0)))] (.var 7)
def b_ring_of_0 : List CS := [(.setI 6 (.var 8) (.call i_minus [] [(.tup [(.cst (.int 0)), (.cst (.int 1))]), (.idx (.idx (.var 0) (.var 7)) (.var 4))]))]
def b_ring_of_1 : List CS := [(.asg 5 q_ring_of_0), (.ite (.cmp .ne (.var 5) (.lst [])) [(.swap 0 (.var 2) 0 (.idx (.var 5) (.cst (.int 0))) (.idx (.var 0) (.idx (.var 5) (.cst (.int 0)))) (.idx (.var 0) (.var 2))), (.asg 0 (.call i_cleared [] [(.var 0), (.var 2), (.var 4)])), (.ex (.app 1 (.var 4))), (.aug .add 2 (.cst (.int 1)))] [(.asg 6 (.lrep [(.tup [(.cst (.int 0)), (.cst (.int 1))])] (.var 3))), (.setI 6 (.var 4) (.tup [(.cst (.int 1)), (.cst (.int 1))])), (.for (.tp [(.nm 7), (.nm 8)]) (.enum (.var 1)) b_ring_of_0), (.ret (.var 6))])]
def c_ring_of : CDef := ⟨1, 9, [(.par [1, 2] [(.lst []), (.cst (.int 0))]), (.asg 3 (.bi .len [(.idx (.var 0) (.cst (.int 0)))])), (.for (.nm 4) (.rng1 (.var 3)) b_ring_of_1), (.ret (.lst []))]⟩
def q_moved_0 : CE := .comp [3] (.nm 3) (.var 1) [(.cmp .ne (.idx (.idx (.var 1) (.var 3)) (.cst (.int 0))) (.cst (.int 0)))] (.call i_room_of [] [(.idx (.var 0) (.var 3)), (.idx (.var 1) (.var 3))])
def b_moved_0 : List CS := [(.ite (.call i_below [] [(.var 5), (.var 4)]) [(.asg 4 (.var 5))] [])]
def b_moved_1 : List CS := [(.setI 6 (.var 3) (.call i_plus [] [(.idx (.var 0) (.var 3)), (.call i_times [] [(.var 4), (.idx (.var 1) (.var 3))])]))]
def c_moved : CDef := ⟨2, 7, [(.asg 2 q_moved_0), (.asg 4 (.idx (.var 2) (.cst (.int 0)))), (.for (.nm 5) (.var 2) b_moved_0), (.asg 6 (.bi .dict [(.var 0)])), (.for (.nm 3) (.var 1) b_moved_1), (.ret (.var 6))]⟩
def q_are_shares_0 : CE := .comp [6] (.nm 6) (.var 5) [] (.call i_is_share [] [(.var 6)])
def b_are_shares_0 : List CS := [(.ite (.or [(.not (.isi .lst (.var 5))), (.cmp .ne (.bi .len [(.var 5)]) (.bin .add (.bin .add (.var 3) (.cst (.int 1))) (.var 4))), (.not (.bi .all [q_are_shares_0]))]) [(.ret (.cst (.bl false)))] []), (.ite (.not (.call i_shows [] [(.var 0), (.var 1), (.var 5)])) [(.ret (.cst (.bl false)))] [])]
def c_are_shares : CDef := ⟨3, 7, [(.ex (.call i_need_balanced [] [(.var 0)])), (.ex (.call i_need_order [] [(.var 0), (.var 1)])), (.asg 3 (.call i_ways_of [] [(.var 0)])), (.ite (.or [(.not (.isi .lst (.var 2))), (.cmp .ne (.bi .len [(.var 2)]) (.bi .max2 [(.cst (.int 0)), (.bin .sub (.bi .len [(.var 0)]) (.var 3))]))]) [(.ret (.cst (.bl false)))] []), (.for (.tp [(.nm 4), (.nm 5)]) (.enum (.var 2)) b_are_shares_0), (.ret (.cst (.bl true)))]⟩
def q_without_one_0 : CE := .comp [5] (.nm 5) (.var 1) [] (.cmp .eq (.idx (.idx (.var 1) (.var 5)) (.cst (.int 0))) (.cst (.int 0)))
def q_without_one_1 : CE := .comp [5] (.nm 5) (.bi .sorted [(.bi .list [(.var 1)])]) [(.call i_is_inner [] [(.idx (.var 1) (.var 5))])] (.var 5)
def q_without_one_2 : CE := .dcomp [5, 6] (.tp [(.nm 5), (.nm 6)]) (.zip (.var 3) (.var 4)) [] (.var 5) (.var 6)
def b_without_one_0 : List CS := [(.asg 3 (.slc q_without_one_1 [] [(.bin .add (.var 2) (.cst (.int 2)))])), (.asg 4 (.call i_ring_of [true] [(.call i_rows_for [] [(.var 0), (.var 3)])])), (.asg 1 (.call i_moved [] [(.var 1), q_without_one_2]))]
def c_without_one : CDef := ⟨2, 7, [(.asg 2 (.call i_ways_of [] [(.var 0)])), (.wh (.not (.bi .any [q_without_one_0])) b_without_one_0), (.ret (.var 1))]⟩
def q_share_rows_0 : CE := .dcomp [6] (.nm 6) (.rng1 (.var 2)) [] (.var 6) (.call i_made_of [] [(.bi .max2 [(.cst (.int 0)), (.bin .sub (.var 2) (.var 1))]), (.var 2)])
def q_share_rows_1 : CE := .dcomp [6] (.nm 6) (.var 3) [] (.var 6) (.call i_times [] [(.idx (.var 3) (.var 6)), (.var 8)])
def q_share_rows_2 : CE := .comp [6] (.nm 6) (.bi .sorted [(.bi .list [(.var 3)])]) [(.cmp .eq (.idx (.idx (.var 3) (.var 6)) (.cst (.int 0))) (.cst (.int 0)))] (.var 6)
def q_share_rows_3 : CE := .dcomp [6] (.nm 6) (.var 3) [(.cmp .ne (.var 6) (.var 9))] (.var 6) (.idx (.var 3) (.var 6))
def b_share_rows_0 : List CS := [(.asg 7 (.bi .len [(.var 3)])), (.ex (.app 5 (.bi .dict [(.var 3)]))), (.asg 8 (.call i_made_of [] [(.bin .sub (.bin .sub (.var 7) (.cst (.int 1))) (.var 1)), (.bin .sub (.var 7) (.var 1))])), (.asg 3 (.call i_without_one [] [(.var 0), q_share_rows_1])), (.asg 9 (.idx q_share_rows_2 (.neg (.cst (.int 1))))), (.asg 3 q_share_rows_3), (.ex (.app 4 (.var 9)))]
def c_share_rows : CDef := ⟨1, 10, [(.par [1, 2] [(.call i_ways_of [] [(.var 0)]), (.bi .len [(.var 0)])]), (.par [3, 4, 5] [q_share_rows_0, (.lst []), (.lst [])]), (.wh (.cmp .gt (.bi .len [(.var 3)]) (.var 1)) b_share_rows_0), (.ret (.tup [(.bi .tuple [(.bin .add (.bi .sorted [(.bi .list [(.var 3)])]) (.rev (.var 4)))]), (.rev (.var 5))]))]⟩
def q_share_order_0 : CE := .comp [5] (.nm 5) (.slc (.var 1) [] [(.bi .len [(.var 4)])]) [] (.idx (.var 4) (.var 5))
def b_share_order_0 : List CS := [(.ex (.app 3 q_share_order_0))]
def c_share_order : CDef := ⟨1, 6, [(.ex (.call i_need_balanced [] [(.var 0)])), (.unp (.tp [(.nm 1), (.nm 2)]) (.call i_share_rows [] [(.var 0)])), (.asg 3 (.lst [])), (.for (.nm 4) (.var 2) b_share_order_0), (.ret (.tup [(.var 1), (.var 3)]))]⟩
def b_Lright_2_0 : List CS := [(.ite (.or [(.not (.chain .le .le (.cst (.int 0)) (.var 6) (.var 7))), (.cmp .lt (.var 7) (.cst (.int 1))), (.cmp .ne (.call i_Lcommon [] [(.var 7), (.var 6)]) (.cst (.int 1)))]) [(.ret (.cst (.bl false)))] []), (.asg 5 (.bin .fdiv (.bin .mul (.var 5) (.var 7)) (.call i_Lcommon [] [(.var 5), (.var 7)])))]
def q_Lright_2_0 : CE := .comp [6, 7] (.tp [(.nm 6), (.nm 7)]) (.var 2) [] (.bin .mul (.var 6) (.bin .fdiv (.var 5) (.var 7)))
def q_Lright_2_1 : CE := .comp [10, 11] (.tp [(.nm 10), (.nm 11)]) (.zip (.var 8) (.var 1)) [] (.bin .mul (.var 10) (.idx (.idx (.var 0) (.var 11)) (.var 9)))
def b_Lright_2_1 : List CS := [(.ite (.cmp .ne (.bi .sum [q_Lright_2_1]) (.cst (.int 0))) [(.ret (.cst (.bl false)))] [])]
def c_Lright_2 : CDef := ⟨4, 12, [(.par [4, 5] [(.bi .len [(.idx (.var 0) (.cst (.int 0)))]), (.cst (.int 1))]), (.ite (.cmp .ne (.bi .len [(.var 2)]) (.var 3)) [(.ret (.cst (.bl false)))] []), (.for (.tp [(.nm 6), (.nm 7)]) (.var 2) b_Lright_2_0), (.asg 8 q_Lright_2_0), (.for (.nm 9) (.rng1 (.var 4)) b_Lright_2_1), (.ret (.cmp .eq (.bi .sum [(.var 8)]) (.bin .mul (.bin .sub (.var 3) (.var 4)) (.var 5))))]⟩
def q_law_k13_0 : CE := .comp [12] (.nm 12) (.var 5) [] (.bi .list [(.var 12)])
def b_law_k13_0 : List CS := [(.asg 8 (.and [(.var 8), (.call i_Lright_2 [] [(.var 3), (.var 9), (.var 12), (.bin .add (.bin .add (.var 2) (.cst (.int 1))) (.var 11))])]))]
def b_law_k13_1 : List CS := [(.par [9, 10] [(.bi .list [(.var 4)]), q_law_k13_0]), (.asg 7 (.call i_Ldraw [false, true, false] [(.var 0), (.var 1), (.cst (.int 4))])), (.ite (.cmp .eq (.var 7) (.cst (.int 0))) [(.par [13, 14] [(.call i_Ldraw [false, true, false] [(.var 0), (.var 1), (.bi .len [(.var 4)])]), (.call i_Ldraw [false, true, false] [(.var 0), (.var 1), (.bi .len [(.var 4)])])]), (.swap 9 (.var 13) 9 (.var 14) (.idx (.var 4) (.var 14)) (.idx (.var 4) (.var 13)))] [(.ite (.cmp .ne (.var 10) (.lst [])) [(.asg 12 (.idx (.var 10) (.call i_Ldraw [false, true, false] [(.var 0), (.var 1), (.bi .len [(.var 10)])]))), (.asg 11 (.call i_Ldraw [false, true, false] [(.var 0), (.var 1), (.bi .len [(.var 12)])])), (.unp (.tp [(.nm 16), (.nm 17)]) (.idx (.var 12) (.var 11))), (.asg 15 (.lst [(.tup [(.bin .mul (.var 16) (.cst (.int 2))), (.bin .mul (.var 17) (.cst (.int 2)))]), (.tup [(.bin .sub (.var 17) (.var 16)), (.var 17)]), (.tup [(.cst (.int 1)), (.cst (.int 1))]), (.tup [(.cst (.int 0)), (.cst (.int 1))]), (.tup [(.cst (.int 1)), (.cst (.int 2))]), (.tup [(.var 16), (.var 17)])])), (.setI 12 (.var 11) (.call i_Lpick [false, true, false] [(.var 0), (.var 1), (.bin .add (.var 15) (.lst [(.tup [(.bin .sub (.cst (.int 0)) (.var 16)), (.bin .sub (.cst (.int 0)) (.var 17))])]))])), (.ite (.cmp .eq (.var 7) (.cst (.int 2))) [(.swap 12 (.var 11) 12 (.cst (.int 0)) (.idx (.var 12) (.cst (.int 0))) (.idx (.var 12) (.var 11)))] [])] [])]), (.asg 8 (.cmp .eq (.bi .len [(.var 10)]) (.bi .max2 [(.cst (.int 0)), (.bin .sub (.bi .len [(.var 3)]) (.var 2))]))), (.for (.tp [(.nm 11), (.nm 12)]) (.enum (.var 10)) b_law_k13_0), (.ite (.not (.call i_Lsame_truth [] [(.call i_are_shares [] [(.var 3), (.bi .tuple [(.var 9)]), (.var 10)]), (.var 8)])) [(.ret (.cst (.bl false)))] []), (.ite (.and [(.var 8), (.cmp .gt (.call i_lean [] [(.var 3), (.bi .tuple [(.var 9)])]) (.bin .mul (.var 2) (.call i_Ltop [] [(.var 3)])))]) [(.ret (.cst (.bl false)))] [])]
def q_law_k13_1 : CE := .comp [12] (.nm 12) (.var 5) [] (.bi .tuple [(.var 12)])
def b_law_k13_2 : List CS := [(.ite (.cmp .isnot (.call i_are_shares [] [(.var 3), (.var 4), (.var 18)]) (.cst (.bl false))) [(.ret (.cst (.bl false)))] [])]
def c_law_k13 : CDef := ⟨1, 19, [(.asg 1 (.lst [])), (.asg 2 (.bin .add (.cst (.int 1)) (.call i_Ldraw [false, true, false] [(.var 0), (.var 1), (.cst (.int 3))]))), (.asg 3 (.call i_Llevel [false, true, false, false] [(.var 0), (.var 1), (.var 2), (.cst (.int 7))])), (.unp (.tp [(.nm 4), (.nm 5)]) (.call i_share_order [] [(.var 3)])), (.for (.nm 6) (.rng1 (.cst (.int 6))) b_law_k13_1), (.asg 15 (.lst [(.cst .non), (.tup []), (.bin .add (.var 5) (.lst [(.lst [])])), (.bin .add (.bi .tuple [(.var 5)]) (.tup [(.cst (.int 1))])), (.bin .add (.lrep [(.cst .non)] (.bi .len [(.var 5)])) (.lst [(.cst (.int 0))])), (.bin .add q_law_k13_1 (.lst [(.tup [])]))])), (.for (.nm 18) (.var 15) b_law_k13_2), (.ret (.or [(.cmp .eq (.var 5) (.lst [])), (.cmp .is (.call i_are_shares [] [(.var 3), (.var 4), (.slc (.var 5) [(.cst (.int 1))] [])]) (.cst (.bl false)))]))]⟩
def q_times_2_0 : CE := .comp [2] (.nm 2) (.var 1) [] (.bin .mul (.var 0) (.var 2))
def c_times_2 : CDef := ⟨2, 3, [(.ret (.bi .tuple [q_times_2_0]))]⟩
def q_good_signs_0 : CE := .comp [2] (.nm 2) (.var 1) [] (.and [(.call i_is_whole [] [(.var 2), (.neg (.cst (.int 1))), (.cst (.int 1))]), (.cmp .ne (.var 2) (.cst (.int 0)))])
def c_good_signs : CDef := ⟨2, 3, [(.ite (.or [(.not (.isi .tup (.var 1))), (.cmp .ne (.bi .len [(.var 1)]) (.bi .len [(.var 0)]))]) [(.ret (.cst (.bl false)))] []), (.ret (.bi .all [q_good_signs_0]))]⟩
def b_turned_rows_0 : List CS := [(.asg 4 (.call i_added [] [(.var 4), (.call i_times_2 [] [(.var 6), (.idx (.var 0) (.var 5))])])), (.ex (.app 3 (.var 4)))]
def c_turned_rows : CDef := ⟨3, 7, [(.par [3, 4] [(.lst []), (.bin .mul (.tup [(.cst (.int 0))]) (.call i_ways_of [] [(.var 0)]))]), (.for (.tp [(.nm 5), (.nm 6)]) (.zip (.var 1) (.var 2)) b_turned_rows_0), (.ret (.var 3))]⟩
def q_Lby_signs_0 : CE := .comp [6] (.nm 6) (.idx (.var 0) (.var 4)) [] (.bin .mul (.var 5) (.var 6))
def q_Lby_signs_1 : CE := .comp [4, 5] (.tp [(.nm 4), (.nm 5)]) (.zip (.var 1) (.var 2)) [] (.bi .tuple [q_Lby_signs_0])
def c_Lby_signs : CDef := ⟨3, 7, [(.asg 3 q_Lby_signs_1), (.ret (.call i_Lrows [] [(.bi .tuple [(.var 3)]), (.listRng (.bi .len [(.var 3)]))]))]⟩
def c_are_signs : CDef := ⟨2, 2, [(.ex (.call i_need_loads [] [(.var 0)])), (.ret (.call i_good_signs [] [(.var 0), (.var 1)]))]⟩
def c_need_signs : CDef := ⟨3, 3, [(.ex (.call i_need_loads [] [(.var 0)])), (.ex (.call i_need_order [] [(.var 0), (.var 1)])), (.ite (.not (.call i_good_signs [] [(.var 0), (.var 2)])) [(.raise 6)] [])]⟩
def c_turned_sums : CDef := ⟨3, 3, [(.ex (.call i_need_signs [] [(.var 0), (.var 1), (.var 2)])), (.ret (.call i_turned_rows [] [(.var 0), (.var 1), (.var 2)]))]⟩
def c_turned_lean : CDef := ⟨3, 3, [(.ex (.call i_need_signs [] [(.var 0), (.var 1), (.var 2)])), (.ret (.call i_lean_of [] [(.call i_turned_rows [] [(.var 0), (.var 1), (.var 2)])]))]⟩
def q_law_k14_0 : CE := .comp [5] (.nm 5) (.var 2) [] (.bin .sub (.bin .mul (.cst (.int 2)) (.call i_Ldraw [false, true, false] [(.var 0), (.var 1), (.cst (.int 2))])) (.cst (.int 1)))
def q_law_k14_1 : CE := .comp [9] (.nm 9) (.var 4) [] (.bin .sub (.cst (.int 0)) (.var 9))
def c_law_k14 : CDef := ⟨1, 11, [(.asg 1 (.lst [])), (.asg 2 (.call i_Lloads [false, true, false, false] [(.var 0), (.var 1), (.bin .add (.cst (.int 1)) (.call i_Ldraw [false, true, false] [(.var 0), (.var 1), (.cst (.int 3))])), (.cst (.int 8))])), (.asg 3 (.call i_Lorder_of [false, true, false] [(.var 0), (.var 1), (.bi .len [(.var 2)])])), (.asg 4 (.bi .tuple [q_law_k14_0])), (.asg 6 (.call i_Lby_signs [] [(.var 2), (.var 3), (.var 4)])), (.ite (.or [(.cmp .isnot (.call i_are_signs [] [(.var 2), (.var 4)]) (.cst (.bl true))), (.cmp .ne (.call i_turned_sums [] [(.var 2), (.var 3), (.var 4)]) (.var 6))]) [(.ret (.cst (.bl false)))] []), (.asg 7 (.call i_turned_lean [] [(.var 2), (.var 3), (.var 4)])), (.asg 8 (.bi .tuple [q_law_k14_1])), (.ite (.or [(.not (.call i_Lsame_number [] [(.var 7), (.call i_Ltilt [] [(.var 6)])])), (.cmp .ne (.call i_turned_lean [] [(.var 2), (.var 3), (.var 8)]) (.var 7))]) [(.ret (.cst (.bl false)))] []), (.asg 10 (.bin .mul (.tup [(.cst (.int 1))]) (.bi .len [(.var 2)]))), (.ite (.cmp .ne (.call i_turned_sums [] [(.var 2), (.var 3), (.var 10)]) (.call i_sums [] [(.var 2), (.var 3)])) [(.ret (.cst (.bl false)))] []), (.ret (.cmp .eq (.call i_turned_lean [] [(.var 2), (.var 3), (.var 10)]) (.call i_lean [] [(.var 2), (.var 3)])))]⟩
def q_all_signs_0 : CE := .comp2 [3, 4] (.nm 3) (.var 1) [] [4] (.nm 4) (.tup [(.neg (.cst (.int 1))), (.cst (.int 1))]) [] (.bin .add (.var 3) (.tup [(.var 4)]))
def b_all_signs_0 : List CS := [(.asg 1 q_all_signs_0)]
def c_all_signs : CDef := ⟨1, 5, [(.asg 1 (.lst [(.tup [])])), (.for (.nm 2) (.rng1 (.var 0)) b_all_signs_0), (.ret (.var 1))]⟩
def b_Lsigns_of_0 : List CS := [(.ex (.ext 3 (.lst [(.bin .add (.var 4) (.tup [(.neg (.cst (.int 1)))])), (.bin .add (.var 4) (.tup [(.cst (.int 1))]))])))]
def b_Lsigns_of_1 : List CS := [(.asg 3 (.lst [])), (.for (.nm 4) (.var 1) b_Lsigns_of_0), (.asg 1 (.var 3))]
def c_Lsigns_of : CDef := ⟨1, 5, [(.asg 1 (.lst [(.tup [])])), (.for (.nm 2) (.rng1 (.var 0)) b_Lsigns_of_1), (.ret (.var 1))]⟩
def q_best_signs_of_0 : CE := .comp [3] (.nm 3) (.call i_all_signs [] [(.bi .len [(.var 0)])]) [] (.tup [(.call i_lean_of [] [(.call i_turned_rows [] [(.var 0), (.var 1), (.var 3)])]), (.var 3)])
def c_best_signs_of : CDef := ⟨2, 5, [(.asg 2 q_best_signs_of_0), (.unp (.tp [(.nm 4), (.nm 3)]) (.bi .min [(.var 2)])), (.ret (.tup [(.var 3), (.var 4)]))]⟩
def c_best_signs : CDef := ⟨2, 2, [(.ex (.call i_need_loads [] [(.var 0)])), (.ex (.call i_need_order [] [(.var 0), (.var 1)])), (.ret (.call i_best_signs_of [] [(.var 0), (.var 1)]))]⟩
def q_law_k15_0 : CE := .comp [6] (.nm 6) (.call i_Lsigns_of [] [(.bi .len [(.var 3)])]) [] (.tup [(.call i_Ltilt [] [(.call i_Lby_signs [] [(.var 3), (.var 4), (.var 6)])]), (.var 6)])
def c_law_k15 : CDef := ⟨1, 8, [(.asg 1 (.lst [])), (.asg 2 (.bin .add (.cst (.int 1)) (.call i_Ldraw [false, true, false] [(.var 0), (.var 1), (.cst (.int 3))]))), (.asg 3 (.call i_Lloads [false, true, false, false] [(.var 0), (.var 1), (.var 2), (.call i_Lpick [false, true, false] [(.var 0), (.var 1), (.lst [(.cst (.int 4)), (.cst (.int 6)), (.cst (.int 6)), (.cst (.int 7))])])])), (.asg 4 (.call i_Lorder_of [false, true, false] [(.var 0), (.var 1), (.bi .len [(.var 3)])])), (.asg 5 q_law_k15_0), (.unp (.tp [(.nm 7), (.nm 6)]) (.bi .min [(.var 5)])), (.ite (.or [(.cmp .ne (.call i_best_signs [] [(.var 3), (.var 4)]) (.tup [(.var 6), (.var 7)])), (.cmp .ne (.call i_turned_lean [] [(.var 3), (.var 4), (.var 6)]) (.var 7))]) [(.ret (.cst (.bl false)))] []), (.ret (.cmp .le (.var 7) (.bin .mul (.bin .sub (.bin .mul (.cst (.int 2)) (.var 2)) (.cst (.int 1))) (.call i_Ltop [] [(.var 3)]))))]⟩
def b_law_k16_0 : List CS := [(.ex (.app 4 (.ite (.cmp .gt (.bin .mul (.var 5) (.idx (.idx (.var 2) (.var 6)) (.cst (.int 0)))) (.cst (.int 0))) (.neg (.cst (.int 1))) (.cst (.int 1))))), (.asg 5 (.bin .add (.var 5) (.bin .mul (.idx (.var 4) (.neg (.cst (.int 1)))) (.idx (.idx (.var 2) (.var 6)) (.cst (.int 0))))))]
def q_law_k16_0 : CE := .comp [6] (.nm 6) (.var 10) [(.cmp .le (.bin .mul (.var 5) (.idx (.idx (.var 8) (.var 6)) (.cst (.int 0)))) (.cst (.int 0)))] (.var 6)
def q_law_k16_1 : CE := .comp [6] (.nm 6) (.var 11) [(.cmp .notin (.var 6) (.var 12))] (.var 6)
def b_law_k16_1 : List CS := [(.asg 11 q_law_k16_0), (.asg 12 (.call i_good [] [(.var 8), (.var 9), (.call i_Ltop [] [(.var 8)])])), (.ite (.or [(.cmp .eq (.var 11) (.lst [])), (.cmp .ne q_law_k16_1 (.lst []))]) [(.ret (.cst (.bl false)))] []), (.asg 6 (.call i_Lpick [false, true, false] [(.var 0), (.var 1), (.var 11)])), (.ex (.rem 10 (.var 6))), (.par [9, 5] [(.bin .add (.var 9) (.tup [(.var 6)])), (.bin .add (.var 5) (.idx (.idx (.var 8) (.var 6)) (.cst (.int 0))))])]
def q_law_k16_2 : CE := .comp [6] (.nm 6) (.var 8) [] (.idx (.var 6) (.cst (.int 0)))
def q_law_k16_3 : CE := .comp [6] (.nm 6) (.var 8) [] (.idx (.var 6) (.cst (.int 0)))
def q_law_k16_4 : CE := .comp [15] (.nm 15) (.call i_sums [] [(.var 8), (.var 9)]) [(.not (.chain .le .le (.var 14) (.idx (.var 15) (.cst (.int 0))) (.var 13)))] (.cst (.int 1))
def c_law_k16 : CDef := ⟨1, 16, [(.asg 1 (.lst [])), (.asg 2 (.call i_Lloads [false, true, false, false] [(.var 0), (.var 1), (.cst (.int 1)), (.cst (.int 7))])), (.asg 3 (.call i_Lorder_of [false, true, false] [(.var 0), (.var 1), (.bi .len [(.var 2)])])), (.par [4, 5] [(.lst []), (.cst (.int 0))]), (.for (.nm 6) (.var 3) b_law_k16_0), (.asg 7 (.call i_Ltop [] [(.var 2)])), (.ite (.or [(.cmp .gt (.call i_turned_lean [] [(.var 2), (.var 3), (.bi .tuple [(.var 4)])]) (.var 7)), (.cmp .gt (.idx (.call i_best_signs [] [(.var 2), (.var 3)]) (.cst (.int 1))) (.var 7))]) [(.ret (.cst (.bl false)))] []), (.asg 8 (.call i_Llevel [false, true, false, false] [(.var 0), (.var 1), (.cst (.int 1)), (.cst (.int 7))])), (.par [9, 5, 10] [(.tup []), (.cst (.int 0)), (.listRng (.bi .len [(.var 8)]))]), (.wh (.cmp .ne (.var 10) (.lst [])) b_law_k16_1), (.par [13, 14] [(.bi .max [(.bin .add (.lst [(.cst (.int 0))]) q_law_k16_2)]), (.bi .min [(.bin .add (.lst [(.cst (.int 0))]) q_law_k16_3)])]), (.ite (.or [(.cmp .gt (.call i_lean [] [(.var 8), (.var 9)]) (.call i_Ltop [] [(.var 8)])), (.cmp .gt (.idx (.call i_best [] [(.var 8)]) (.cst (.int 1))) (.call i_Ltop [] [(.var 8)]))]) [(.ret (.cst (.bl false)))] []), (.ret (.cmp .eq q_law_k16_4 (.lst [])))]⟩
def q_parted_of_0 : CE := .comp [3, 4] (.tp [(.nm 3), (.nm 4)]) (.zip (.var 0) (.var 1)) [(.cmp .eq (.var 4) (.cst (.int 1)))] (.var 3)
def q_parted_of_1 : CE := .comp [3, 4] (.tp [(.nm 3), (.nm 4)]) (.zip (.var 0) (.var 1)) [(.cmp .eq (.var 4) (.neg (.cst (.int 1))))] (.var 3)
def c_parted_of : CDef := ⟨2, 6, [(.asg 2 q_parted_of_0), (.asg 5 q_parted_of_1), (.ret (.bi .tuple [(.bin .add (.var 2) (.rev (.var 5)))]))]⟩
def c_parted : CDef := ⟨3, 3, [(.ex (.call i_need_balanced [] [(.var 0)])), (.ex (.call i_need_signs [] [(.var 0), (.var 1), (.var 2)])), (.ret (.call i_parted_of [] [(.var 1), (.var 2)]))]⟩
def q_law_k17_0 : CE := .comp [5] (.nm 5) (.var 2) [] (.bin .sub (.bin .mul (.cst (.int 2)) (.call i_Ldraw [false, true, false] [(.var 0), (.var 1), (.cst (.int 2))])) (.cst (.int 1)))
def q_law_k17_1 : CE := .comp [5, 7] (.tp [(.nm 5), (.nm 7)]) (.zip (.var 3) (.var 4)) [(.cmp .gt (.var 7) (.cst (.int 0)))] (.var 5)
def q_law_k17_2 : CE := .comp [5, 7] (.tp [(.nm 5), (.nm 7)]) (.zip (.var 3) (.var 4)) [(.cmp .lt (.var 7) (.cst (.int 0)))] (.var 5)
def q_law_k17_3 : CE := .comp [16, 17] (.tp [(.nm 16), (.nm 17)]) (.zip (.var 14) (.var 15)) [] (.bin .fdiv (.bin .add (.var 16) (.var 17)) (.cst (.int 2)))
def q_law_k17_4 : CE := .comp [16, 17] (.tp [(.nm 16), (.nm 17)]) (.zip (.var 14) (.var 15)) [] (.bin .fdiv (.bin .sub (.var 17) (.var 16)) (.cst (.int 2)))
def b_law_k17_0 : List CS := [(.ex (.app 13 (.bi .tuple [q_law_k17_3]))), (.ex (.app 13 (.bi .tuple [q_law_k17_4])))]
def q_law_k17_5 : CE := .comp [14] (.nm 14) (.call i_sums [] [(.var 2), (.var 9)]) [(.cmp .notin (.var 14) (.var 13))] (.var 14)
def c_law_k17 : CDef := ⟨1, 19, [(.asg 1 (.lst [])), (.asg 2 (.call i_Llevel [false, true, false, false] [(.var 0), (.var 1), (.bin .add (.cst (.int 1)) (.call i_Ldraw [false, true, false] [(.var 0), (.var 1), (.cst (.int 3))])), (.cst (.int 8))])), (.asg 3 (.call i_Lorder_of [false, true, false] [(.var 0), (.var 1), (.bi .len [(.var 2)])])), (.asg 4 (.bi .tuple [q_law_k17_0])), (.asg 6 q_law_k17_1), (.asg 8 q_law_k17_2), (.asg 9 (.call i_parted [] [(.var 2), (.var 3), (.var 4)])), (.ite (.cmp .ne (.var 9) (.bi .tuple [(.bin .add (.var 6) (.rev (.var 8)))])) [(.ret (.cst (.bl false)))] []), (.ite (.cmp .gt (.bin .mul (.cst (.int 2)) (.call i_lean [] [(.var 2), (.var 9)])) (.bin .add (.call i_lean [] [(.var 2), (.var 3)]) (.call i_turned_lean [] [(.var 2), (.var 3), (.var 4)]))) [(.ret (.cst (.bl false)))] []), (.asg 10 (.bin .mul (.tup [(.cst (.int 0))]) (.bi .len [(.idx (.var 2) (.cst (.int 0)))]))), (.par [11, 12, 13] [(.bin .add (.lst [(.var 10)]) (.call i_sums [] [(.var 2), (.var 3)])), (.bin .add (.lst [(.var 10)]) (.call i_turned_sums [] [(.var 2), (.var 3), (.var 4)])), (.lst [])]), (.for (.tp [(.nm 14), (.nm 15)]) (.zip (.var 11) (.var 12)) b_law_k17_0), (.ite (.cmp .ne q_law_k17_5 (.lst [])) [(.ret (.cst (.bl false)))] []), (.asg 18 (.bi .len [(.var 2)])), (.ret (.and [(.cmp .eq (.call i_parted [] [(.var 2), (.var 3), (.bin .mul (.tup [(.cst (.int 1))]) (.var 18))]) (.var 3)), (.cmp .eq (.call i_parted [] [(.var 2), (.var 3), (.bin .mul (.tup [(.neg (.cst (.int 1)))]) (.var 18))]) (.rev (.var 3)))]))]⟩
def b_mended_0 : List CS := [(.asg 3 (.call i_lean_of [] [(.call i_sums_of [] [(.var 0), (.var 4)])])), (.ex (.app 2 (.tup [(.var 4), (.var 3)]))), (.asg 4 (.call i_parted_of [] [(.var 4), (.idx (.call i_best_signs_of [] [(.var 0), (.var 4)]) (.cst (.int 0)))]))]
def c_mended : CDef := ⟨2, 5, [(.ex (.call i_need_balanced [] [(.var 0)])), (.ex (.call i_need_order [] [(.var 0), (.var 1)])), (.par [2, 3] [(.lst []), (.call i_lean_of [] [(.call i_sums_of [] [(.var 0), (.var 1)])])]), (.asg 4 (.call i_parted_of [] [(.var 1), (.idx (.call i_best_signs_of [] [(.var 0), (.var 1)]) (.cst (.int 0)))])), (.wh (.cmp .lt (.call i_lean_of [] [(.call i_sums_of [] [(.var 0), (.var 4)])]) (.var 3)) b_mended_0), (.ret (.var 2))]⟩
def b_law_k18_0 : List CS := [(.unp (.tp [(.nm 7), (.nm 8)]) (.call i_best_signs [] [(.var 3), (.var 4)])), (.ite (.or [(.cmp .ne (.call i_parted [] [(.var 3), (.var 4), (.var 7)]) (.var 5)), (.cmp .ne (.call i_lean [] [(.var 3), (.var 5)]) (.var 6)), (.cmp .ge (.var 6) (.call i_lean [] [(.var 3), (.var 4)]))]) [(.ret (.cst (.bl false)))] []), (.ite (.cmp .gt (.bin .mul (.cst (.int 2)) (.var 6)) (.bin .add (.call i_lean [] [(.var 3), (.var 4)]) (.var 8))) [(.ret (.cst (.bl false)))] []), (.asg 4 (.var 5))]
def c_law_k18 : CDef := ⟨1, 9, [(.asg 1 (.lst [])), (.asg 2 (.bin .add (.cst (.int 1)) (.call i_Ldraw [false, true, false] [(.var 0), (.var 1), (.cst (.int 3))]))), (.asg 3 (.call i_Llevel [false, true, false, false] [(.var 0), (.var 1), (.var 2), (.call i_Lpick [false, true, false] [(.var 0), (.var 1), (.lst [(.cst (.int 4)), (.cst (.int 6)), (.cst (.int 7))])])])), (.asg 4 (.call i_Lorder_of [false, true, false] [(.var 0), (.var 1), (.bi .len [(.var 3)])])), (.for (.tp [(.nm 5), (.nm 6)]) (.call i_mended [] [(.var 3), (.var 4)]) b_law_k18_0), (.unp (.tp [(.nm 7), (.nm 8)]) (.call i_best_signs [] [(.var 3), (.var 4)])), (.ite (.or [(.cmp .lt (.call i_lean [] [(.var 3), (.call i_parted [] [(.var 3), (.var 4), (.var 7)])]) (.call i_lean [] [(.var 3), (.var 4)])), (.cmp .ne (.call i_mended [] [(.var 3), (.var 4)]) (.lst []))]) [(.ret (.cst (.bl false)))] []), (.ret (.and [(.cmp .le (.call i_lean [] [(.var 3), (.var 4)]) (.bi .max2 [(.var 8), (.cst (.int 1))])), (.cmp .le (.call i_lean [] [(.var 3), (.var 4)]) (.bin .mul (.bin .sub (.bin .mul (.cst (.int 2)) (.var 2)) (.cst (.int 1))) (.bi .max2 [(.cst (.int 1)), (.call i_Ltop [] [(.var 3)])])))]))]⟩
def c_turned_of : CDef := ⟨2, 2, [(.ret (.bin .add (.slc (.var 0) [(.var 1)] []) (.slc (.var 0) [] [(.var 1)])))]⟩
def c_need_way : CDef := ⟨2, 2, [(.ite (.not (.call i_is_whole [] [(.var 1), (.cst (.int 0)), (.bin .sub (.call i_ways_of [] [(.var 0)]) (.cst (.int 1)))])) [(.raise 8)] [])]⟩
def q_way_sums_0 : CE := .comp [3] (.nm 3) (.call i_sums_of [] [(.var 0), (.var 1)]) [] (.idx (.var 3) (.var 2))
def c_way_sums : CDef := ⟨3, 4, [(.ret (.bin .add (.lst [(.cst (.int 0))]) q_way_sums_0))]⟩
def c_turned_on : CDef := ⟨3, 3, [(.ex (.call i_need_loads [] [(.var 0)])), (.ex (.call i_need_order [] [(.var 0), (.var 1)])), (.ite (.not (.call i_is_whole [] [(.var 2), (.cst (.int 0)), (.bin .sub (.bi .len [(.var 0)]) (.cst (.int 1)))])) [(.raise 7)] []), (.ret (.call i_turned_of [] [(.var 1), (.var 2)]))]⟩
def c_spread : CDef := ⟨3, 4, [(.ex (.call i_need_loads [] [(.var 0)])), (.ex (.call i_need_order [] [(.var 0), (.var 1)])), (.ex (.call i_need_way [] [(.var 0), (.var 2)])), (.asg 3 (.call i_way_sums [] [(.var 0), (.var 1), (.var 2)])), (.ret (.bin .sub (.bi .max [(.var 3)]) (.bi .min [(.var 3)])))]⟩
def q_law_k19_0 : CE := .comp [12] (.nm 12) (.call i_Lrows [] [(.var 5), (.var 9)]) [] (.idx (.var 12) (.var 8))
def b_law_k19_0 : List CS := [(.asg 11 (.bin .add (.lst [(.cst (.int 0))]) q_law_k19_0)), (.ex (.app 7 (.bin .sub (.bi .max [(.var 11)]) (.bi .min [(.var 11)])))), (.ite (.not (.call i_Lsame_number [] [(.call i_spread [] [(.var 5), (.var 9), (.var 8)]), (.idx (.var 7) (.neg (.cst (.int 1))))])) [(.ret (.cst (.bl false)))] [])]
def q_law_k19_1 : CE := .comp [8] (.nm 8) (.rng1 (.var 2)) [] (.call i_spread [] [(.var 5), (.var 6), (.var 8)])
def b_law_k19_1 : List CS := [(.par [9, 10] [(.call i_Lorder_of [false, true, false] [(.var 0), (.var 1), (.bi .len [(.var 5)])]), (.call i_Ldraw [false, true, false] [(.var 0), (.var 1), (.bi .len [(.var 5)])])]), (.asg 6 (.call i_turned_on [] [(.var 5), (.var 9), (.var 10)])), (.ite (.cmp .ne (.var 6) (.slc (.bin .add (.var 9) (.var 9)) [(.var 10)] [(.bin .add (.var 10) (.bi .len [(.var 9)]))])) [(.ret (.cst (.bl false)))] []), (.asg 7 (.lst [])), (.for (.nm 8) (.rng1 (.var 2)) b_law_k19_0), (.ite (.cmp .eq (.var 5) (.var 4)) [(.ite (.cmp .ne q_law_k19_1 (.var 7)) [(.ret (.cst (.bl false)))] []), (.ite (.or [(.not (.cmp .le (.bi .max [(.var 7)]) (.bin .mul (.cst (.int 2)) (.call i_lean [] [(.var 5), (.var 6)])))), (.cmp .gt (.call i_lean [] [(.var 5), (.var 6)]) (.bi .max [(.var 7)]))]) [(.ret (.cst (.bl false)))] [])] []), (.ite (.and [(.cmp .gt (.var 10) (.cst (.int 0))), (.cmp .ne (.call i_turned_on [] [(.var 5), (.var 6), (.bin .sub (.bi .len [(.var 9)]) (.var 10))]) (.var 9))]) [(.ret (.cst (.bl false)))] [])]
def c_law_k19 : CDef := ⟨1, 13, [(.asg 1 (.lst [])), (.asg 2 (.bin .add (.cst (.int 1)) (.call i_Ldraw [false, true, false] [(.var 0), (.var 1), (.cst (.int 3))]))), (.par [3, 4] [(.call i_Lloads [false, true, false, false] [(.var 0), (.var 1), (.var 2), (.cst (.int 8))]), (.call i_Llevel [false, true, false, false] [(.var 0), (.var 1), (.var 2), (.cst (.int 8))])]), (.for (.nm 5) (.tup [(.var 3), (.var 4)]) b_law_k19_1), (.ret (.cmp .eq (.bi .len [(.call i_sums [] [(.var 4), (.call i_Lorder_of [false, true, false] [(.var 0), (.var 1), (.bi .len [(.var 4)])])])]) (.bi .len [(.var 4)])))]⟩
def c_start : CDef := ⟨3, 4, [(.ex (.call i_need_balanced [] [(.var 0)])), (.ex (.call i_need_order [] [(.var 0), (.var 1)])), (.ex (.call i_need_way [] [(.var 0), (.var 2)])), (.asg 3 (.slc (.call i_way_sums [] [(.var 0), (.var 1), (.var 2)]) [] [(.neg (.cst (.int 1)))])), (.ret (.index (.var 3) (.bi .min [(.var 3)])))]⟩
def q_law_k20_0 : CE := .comp [10] (.nm 10) (.call i_Lrows [] [(.var 3), (.bin .add (.slc (.var 4) [(.var 7)] []) (.slc (.var 4) [] [(.var 7)]))]) [] (.idx (.var 10) (.var 5))
def b_law_k20_0 : List CS := [(.asg 9 q_law_k20_0), (.ite (.cmp .ge (.bi .min [(.var 9)]) (.cst (.int 0))) [(.ex (.app 6 (.var 7)))] [])]
def q_law_k20_1 : CE := .comp [10] (.nm 10) (.call i_Lrows [] [(.var 3), (.call i_turned_on [] [(.var 3), (.var 4), (.var 8)])]) [] (.idx (.var 10) (.var 5))
def b_law_k20_1 : List CS := [(.asg 6 (.lst [])), (.for (.nm 7) (.rng1 (.bi .len [(.var 3)])) b_law_k20_0), (.asg 8 (.call i_start [] [(.var 3), (.var 4), (.var 5)])), (.ite (.or [(.cmp .eq (.var 6) (.lst [])), (.not (.call i_Lsame_number [] [(.var 8), (.idx (.var 6) (.cst (.int 0)))]))]) [(.ret (.cst (.bl false)))] []), (.asg 9 q_law_k20_1), (.ite (.or [(.cmp .ne (.bi .max [(.var 9)]) (.call i_spread [] [(.var 3), (.var 4), (.var 5)])), (.cmp .ne (.bi .min [(.var 9)]) (.cst (.int 0)))]) [(.ret (.cst (.bl false)))] [])]
def c_law_k20 : CDef := ⟨1, 11, [(.asg 1 (.lst [])), (.asg 2 (.bin .add (.cst (.int 1)) (.call i_Ldraw [false, true, false] [(.var 0), (.var 1), (.cst (.int 3))]))), (.asg 3 (.call i_Llevel [false, true, false, false] [(.var 0), (.var 1), (.var 2), (.cst (.int 8))])), (.asg 4 (.call i_Lorder_of [false, true, false] [(.var 0), (.var 1), (.bi .len [(.var 3)])])), (.for (.nm 5) (.rng1 (.var 2)) b_law_k20_1), (.ret (.cst (.bl true)))]⟩
def c_together : CDef := ⟨2, 2, [(.ex (.call i_need_loads [] [(.var 0)])), (.ex (.call i_need_loads [] [(.var 1)])), (.ite (.or [(.cmp .ne (.call i_ways_of [] [(.var 0)]) (.call i_ways_of [] [(.var 1)])), (.cmp .gt (.bin .add (.bi .len [(.var 0)]) (.bi .len [(.var 1)])) (.glb "PIECES" (.int 8)))]) [(.raise 0)] []), (.ret (.bin .add (.var 0) (.var 1)))]⟩
def q_law_k21_0 : CE := .comp [9] (.nm 9) (.idx (.var 7) (.cst (.int 0))) [] (.bin .add (.var 9) (.bi .len [(.var 3)]))
def c_law_k21 : CDef := ⟨1, 12, [(.asg 1 (.lst [])), (.asg 2 (.bin .add (.cst (.int 1)) (.call i_Ldraw [false, true, false] [(.var 0), (.var 1), (.cst (.int 3))]))), (.par [3, 4] [(.call i_Llevel [false, true, false, false] [(.var 0), (.var 1), (.var 2), (.cst (.int 4))]), (.call i_Llevel [false, true, false, false] [(.var 0), (.var 1), (.var 2), (.cst (.int 3))])]), (.asg 5 (.call i_together [] [(.var 3), (.var 4)])), (.ite (.or [(.cmp .ne (.var 5) (.bin .add (.var 3) (.var 4))), (.cmp .isnot (.call i_is_balanced [] [(.var 5)]) (.cst (.bl true)))]) [(.ret (.cst (.bl false)))] []), (.par [6, 7] [(.call i_best [] [(.var 3)]), (.call i_best [] [(.var 4)])]), (.asg 8 (.bin .add (.idx (.var 6) (.cst (.int 0))) (.bi .tuple [q_law_k21_0]))), (.ite (.or [(.cmp .ne (.call i_lean [] [(.var 5), (.var 8)]) (.bi .max2 [(.idx (.var 6) (.cst (.int 1))), (.idx (.var 7) (.cst (.int 1)))])), (.cmp .gt (.idx (.call i_best [] [(.var 5)]) (.cst (.int 1))) (.bi .max2 [(.idx (.var 6) (.cst (.int 1))), (.idx (.var 7) (.cst (.int 1)))]))]) [(.ret (.cst (.bl false)))] []), (.asg 10 (.call i_Lloads [false, true, false, false] [(.var 0), (.var 1), (.var 2), (.cst (.int 3))])), (.asg 11 (.call i_together [] [(.var 3), (.var 10)])), (.ret (.and [(.cmp .eq (.call i_total [] [(.var 11)]) (.call i_total [] [(.var 10)])), (.cmp .eq (.slc (.var 11) [] [(.bi .len [(.var 3)])]) (.var 3)), (.cmp .eq (.slc (.var 11) [(.bi .len [(.var 3)])] []) (.var 10))]))]⟩
def q_by_number_0 : CE := .comp [3] (.nm 3) (.var 2) [] (.bin .mul (.var 1) (.var 3))
def q_by_number_1 : CE := .comp [2] (.nm 2) (.var 0) [] (.bi .tuple [q_by_number_0])
def c_by_number : CDef := ⟨2, 4, [(.ret (.bi .tuple [q_by_number_1]))]⟩
def c_mirrored : CDef := ⟨1, 1, [(.ex (.call i_need_loads [] [(.var 0)])), (.ret (.call i_by_number [] [(.var 0), (.neg (.cst (.int 1)))]))]⟩
def c_greater : CDef := ⟨2, 2, [(.ex (.call i_need_loads [] [(.var 0)])), (.ite (.or [(.not (.call i_is_whole [] [(.var 1), (.cst (.int 0)), (.cst (.int 9))])), (.cmp .gt (.bin .mul (.var 1) (.call i_most_of [] [(.var 0)])) (.glb "PULL" (.int 99)))]) [(.raise 9)] []), (.ret (.call i_by_number [] [(.var 0), (.var 1)]))]⟩
def q_law_k22_0 : CE := .comp [8] (.nm 8) (.var 7) [] (.bin .sub (.cst (.int 0)) (.var 8))
def q_law_k22_1 : CE := .comp [7] (.nm 7) (.var 3) [] (.bi .tuple [q_law_k22_0])
def q_law_k22_2 : CE := .comp [7] (.nm 7) (.var 3) [] (.rev (.var 7))
def q_law_k22_3 : CE := .comp [8] (.nm 8) (.var 7) [] (.bin .mul (.var 5) (.var 8))
def q_law_k22_4 : CE := .comp [7] (.nm 7) (.var 3) [] (.bi .tuple [q_law_k22_3])
def c_law_k22 : CDef := ⟨1, 11, [(.asg 1 (.lst [])), (.asg 2 (.bin .add (.cst (.int 1)) (.call i_Ldraw [false, true, false] [(.var 0), (.var 1), (.cst (.int 3))]))), (.asg 3 (.call i_Lloads [false, true, false, false] [(.var 0), (.var 1), (.var 2), (.cst (.int 6))])), (.par [4, 5] [(.call i_Lorder_of [false, true, false] [(.var 0), (.var 1), (.bi .len [(.var 3)])]), (.call i_Ldraw [false, true, false] [(.var 0), (.var 1), (.cst (.int 4))])]), (.asg 6 (.call i_mirrored [] [(.var 3)])), (.ite (.or [(.cmp .ne (.var 6) (.bi .tuple [q_law_k22_1])), (.cmp .ne (.call i_mirrored [] [(.var 6)]) (.var 3))]) [(.ret (.cst (.bl false)))] []), (.ite (.or [(.cmp .ne (.call i_lean [] [(.var 6), (.var 4)]) (.call i_lean [] [(.var 3), (.var 4)])), (.cmp .ne (.call i_best [] [(.var 6)]) (.call i_best [] [(.var 3)]))]) [(.ret (.cst (.bl false)))] []), (.ite (.cmp .ne (.call i_best_signs [] [(.var 6), (.var 4)]) (.call i_best_signs [] [(.var 3), (.var 4)])) [(.ret (.cst (.bl false)))] []), (.asg 9 (.bi .tuple [q_law_k22_2])), (.ite (.or [(.cmp .ne (.call i_lean [] [(.var 9), (.var 4)]) (.call i_lean [] [(.var 3), (.var 4)])), (.cmp .ne (.call i_best [] [(.var 9)]) (.call i_best [] [(.var 3)]))]) [(.ret (.cst (.bl false)))] []), (.ite (.cmp .gt (.bin .mul (.var 5) (.call i_Ltop [] [(.var 3)])) (.cst (.int 99))) [(.ret (.cst (.bl true)))] []), (.asg 10 (.call i_greater [] [(.var 3), (.var 5)])), (.ite (.cmp .ne (.var 10) (.bi .tuple [q_law_k22_4])) [(.ret (.cst (.bl false)))] []), (.ite (.or [(.cmp .ne (.call i_lean [] [(.var 10), (.var 4)]) (.bin .mul (.var 5) (.call i_lean [] [(.var 3), (.var 4)]))), (.cmp .ne (.idx (.call i_best [] [(.var 10)]) (.cst (.int 1))) (.bin .mul (.var 5) (.idx (.call i_best [] [(.var 3)]) (.cst (.int 1)))))]) [(.ret (.cst (.bl false)))] []), (.ret (.or [(.cmp .eq (.var 5) (.cst (.int 0))), (.and [(.cmp .eq (.idx (.call i_best [] [(.var 10)]) (.cst (.int 0))) (.idx (.call i_best [] [(.var 3)]) (.cst (.int 0)))), (.cmp .eq (.call i_how_many [] [(.var 10), (.bin .mul (.var 5) (.cst (.int 5)))]) (.call i_how_many [] [(.var 3), (.cst (.int 5))]))])]))]⟩
def q_named_0 : CE := .comp [2] (.nm 2) (.var 1) [] (.idx (.var 0) (.var 2))
def c_named : CDef := ⟨2, 3, [(.ex (.call i_need_loads [] [(.var 0)])), (.ex (.call i_need_order [] [(.var 0), (.var 1)])), (.ret (.bi .tuple [q_named_0]))]⟩
def q_law_k23_0 : CE := .comp [6] (.nm 6) (.var 3) [] (.idx (.var 2) (.var 6))
def q_law_k23_1 : CE := .comp [6] (.nm 6) (.var 4) [] (.index (.var 3) (.var 6))
def q_law_k23_2 : CE := .comp [6] (.nm 6) (.rng1 (.bi .len [(.var 2)])) [] (.index (.var 3) (.var 6))
def c_law_k23 : CDef := ⟨1, 10, [(.asg 1 (.lst [])), (.asg 2 (.call i_Lloads [false, true, false, false] [(.var 0), (.var 1), (.bin .add (.cst (.int 1)) (.call i_Ldraw [false, true, false] [(.var 0), (.var 1), (.cst (.int 3))])), (.cst (.int 6))])), (.par [3, 4] [(.call i_Lorder_of [false, true, false] [(.var 0), (.var 1), (.bi .len [(.var 2)])]), (.call i_Lorder_of [false, true, false] [(.var 0), (.var 1), (.bi .len [(.var 2)])])]), (.asg 5 (.call i_named [] [(.var 2), (.var 3)])), (.ite (.cmp .ne (.var 5) (.bi .tuple [q_law_k23_0])) [(.ret (.cst (.bl false)))] []), (.asg 7 (.bi .tuple [q_law_k23_1])), (.ite (.cmp .ne (.call i_lean [] [(.var 5), (.var 7)]) (.call i_lean [] [(.var 2), (.var 4)])) [(.ret (.cst (.bl false)))] []), (.asg 8 (.bi .tuple [q_law_k23_2])), (.ite (.or [(.cmp .ne (.call i_named [] [(.var 5), (.var 8)]) (.var 2)), (.cmp .ne (.idx (.call i_best [] [(.var 5)]) (.cst (.int 1))) (.idx (.call i_best [] [(.var 2)]) (.cst (.int 1))))]) [(.ret (.cst (.bl false)))] []), (.asg 9 (.bin .add (.idx (.call i_best [] [(.var 2)]) (.cst (.int 1))) (.call i_Ldraw [false, true, false] [(.var 0), (.var 1), (.cst (.int 4))]))), (.ret (.cmp .eq (.call i_how_many [] [(.var 5), (.var 9)]) (.call i_how_many [] [(.var 2), (.var 9)])))]⟩
def q_law_k24_0 : CE := .comp [8] (.nm 8) (.var 7) [] (.bin .sub (.cst (.int 0)) (.var 8))
def q_law_k24_1 : CE := .comp [7] (.nm 7) (.rev (.var 5)) [] (.bi .tuple [q_law_k24_0])
def q_law_k24_2 : CE := .comp [11] (.nm 11) (.call i_Lorders [] [(.bi .len [(.var 2)])]) [(.cmp .le (.call i_Ltilt [] [(.call i_Lrows [] [(.var 2), (.var 11)])]) (.var 9))] (.var 11)
def q_law_k24_3 : CE := .comp [11] (.nm 11) (.var 10) [] (.idx (.var 11) (.cst (.int 0)))
def q_law_k24_4 : CE := .comp [11] (.nm 11) (.var 10) [] (.idx (.var 11) (.neg (.cst (.int 1))))
def c_law_k24 : CDef := ⟨1, 14, [(.asg 1 (.lst [])), (.asg 2 (.call i_Llevel [false, true, false, false] [(.var 0), (.var 1), (.bin .add (.cst (.int 1)) (.call i_Ldraw [false, true, false] [(.var 0), (.var 1), (.cst (.int 3))])), (.cst (.int 6))])), (.asg 3 (.call i_Lorder_of [false, true, false] [(.var 0), (.var 1), (.bi .len [(.var 2)])])), (.asg 4 (.rev (.var 3))), (.ite (.or [(.cmp .ne (.call i_lean [] [(.var 2), (.var 4)]) (.call i_lean [] [(.var 2), (.var 3)])), (.cmp .ne (.call i_parted [] [(.var 2), (.var 3), (.bin .mul (.tup [(.neg (.cst (.int 1)))]) (.bi .len [(.var 2)]))]) (.var 4))]) [(.ret (.cst (.bl false)))] []), (.par [5, 6] [(.slc (.call i_sums [] [(.var 2), (.var 3)]) [] [(.neg (.cst (.int 1)))]), (.slc (.call i_sums [] [(.var 2), (.var 4)]) [] [(.neg (.cst (.int 1)))])]), (.ite (.cmp .ne (.var 6) q_law_k24_1) [(.ret (.cst (.bl false)))] []), (.asg 9 (.call i_lean [] [(.var 2), (.var 3)])), (.ite (.cmp .gt (.bi .len [(.var 2)]) (.cst (.int 5))) [(.ret (.cst (.bl true)))] []), (.asg 10 q_law_k24_2), (.ite (.cmp .ne (.call i_how_many [] [(.var 2), (.var 9)]) (.bi .len [(.var 10)])) [(.ret (.cst (.bl false)))] []), (.par [12, 13] [(.bi .sortset [q_law_k24_3]), (.bi .sortset [q_law_k24_4])]), (.ret (.and [(.cmp .eq (.var 12) (.var 13)), (.cmp .eq (.call i_good [] [(.var 2), (.tup []), (.var 9)]) (.var 12))]))]⟩
def q_law_k25_0 : CE := .comp [8] (.nm 8) (.rng1 (.bi .len [(.var 2)])) [(.cmp .ne (.var 8) (.var 5))] (.var 8)
def q_law_k25_1 : CE := .comp [8] (.nm 8) (.var 3) [(.cmp .ne (.var 8) (.var 5))] (.bin .sub (.var 8) (.bi .int [(.cmp .gt (.var 8) (.var 5))]))
def c_law_k25 : CDef := ⟨1, 12, [(.asg 1 (.lst [])), (.asg 2 (.call i_Lloads [false, true, false, false] [(.var 0), (.var 1), (.bin .add (.cst (.int 1)) (.call i_Ldraw [false, true, false] [(.var 0), (.var 1), (.cst (.int 3))])), (.cst (.int 6))])), (.par [3, 4] [(.call i_Lorder_of [false, true, false] [(.var 0), (.var 1), (.bi .len [(.var 2)])]), (.call i_most [] [(.var 2)])]), (.ite (.cmp .gt (.bi .len [(.var 2)]) (.cst (.int 1))) [(.asg 5 (.call i_Ldraw [false, true, false] [(.var 0), (.var 1), (.bi .len [(.var 2)])])), (.asg 6 (.slc (.call i_named [] [(.var 2), (.bi .tuple [(.bin .add q_law_k25_0 (.lst [(.var 5)]))])]) [] [(.neg (.cst (.int 1)))])), (.asg 7 (.bi .tuple [q_law_k25_1])), (.ite (.or [(.cmp .gt (.call i_lean [] [(.var 6), (.var 7)]) (.bin .add (.call i_lean [] [(.var 2), (.var 3)]) (.var 4))), (.cmp .gt (.idx (.call i_best [] [(.var 6)]) (.cst (.int 1))) (.bin .add (.idx (.call i_best [] [(.var 2)]) (.cst (.int 1))) (.var 4)))]) [(.ret (.cst (.bl false)))] []), (.ite (.cmp .gt (.idx (.call i_best [] [(.var 2)]) (.cst (.int 1))) (.bin .add (.idx (.call i_best [] [(.var 6)]) (.cst (.int 1))) (.var 4))) [(.ret (.cst (.bl false)))] [])] []), (.asg 9 (.bin .mul (.tup [(.cst (.int 0))]) (.bi .len [(.idx (.var 2) (.cst (.int 0)))]))), (.asg 10 (.call i_together [] [(.var 2), (.tup [(.var 9)])])), (.asg 11 (.call i_Ldraw [false, true, false] [(.var 0), (.var 1), (.bin .add (.bi .len [(.var 2)]) (.cst (.int 1)))])), (.ite (.cmp .ne (.call i_lean [] [(.var 10), (.bin .add (.bin .add (.slc (.var 3) [] [(.var 11)]) (.tup [(.bi .len [(.var 2)])])) (.slc (.var 3) [(.var 11)] []))]) (.call i_lean [] [(.var 2), (.var 3)])) [(.ret (.cst (.bl false)))] []), (.ret (.cmp .eq (.idx (.call i_best [] [(.var 10)]) (.cst (.int 1))) (.idx (.call i_best [] [(.var 2)]) (.cst (.int 1)))))]⟩
def b_ends_of_0 : List CS := [(.asg 5 (.bin .add (.bi .max2 [(.var 5), (.var 8)]) (.var 7))), (.ex (.app 6 (.var 5)))]
def b_ends_of_1 : List CS := [(.par [5, 6] [(.cst (.int 0)), (.lst [])]), (.for (.tp [(.nm 7), (.nm 8)]) (.zip (.idx (.var 0) (.var 4)) (.var 3)) b_ends_of_0), (.asg 3 (.bi .tuple [(.var 6)])), (.ex (.app 2 (.var 3)))]
def c_ends_of : CDef := ⟨2, 9, [(.par [2, 3] [(.lst []), (.bin .mul (.tup [(.cst (.int 0))]) (.bi .len [(.idx (.var 0) (.cst (.int 0)))]))]), (.for (.nm 4) (.var 1) b_ends_of_1), (.ret (.var 2))]⟩
def b_Lways_end_0 : List CS := [(.asg 6 (.ite (.and [(.cmp .eq (.var 3) (.cst (.int 0))), (.cmp .eq (.var 5) (.cst (.int 0)))]) (.lst [(.cst (.int 0))]) (.lst []))), (.ite (.cmp .gt (.var 3) (.cst (.int 0))) [(.ex (.app 6 (.idx (.idx (.var 2) (.bin .sub (.var 3) (.cst (.int 1)))) (.var 5))))] []), (.ite (.cmp .gt (.var 5) (.cst (.int 0))) [(.ex (.app 6 (.idx (.var 4) (.bin .sub (.var 5) (.cst (.int 1))))))] []), (.ex (.app 4 (.bin .add (.bi .max [(.var 6)]) (.idx (.idx (.var 0) (.idx (.var 1) (.var 3))) (.var 5)))))]
def b_Lways_end_1 : List CS := [(.asg 4 (.lst [])), (.for (.nm 5) (.rng1 (.bi .len [(.idx (.var 0) (.cst (.int 0)))])) b_Lways_end_0), (.ex (.app 2 (.bi .tuple [(.var 4)])))]
def c_Lways_end : CDef := ⟨2, 7, [(.asg 2 (.lst [])), (.for (.nm 3) (.rng1 (.bi .len [(.var 1)])) b_Lways_end_1), (.ret (.var 2))]⟩
def b_Lall_ways_0 : List CS := [(.unp (.tp [(.tp [(.nm 6), (.nm 7)]), (.nm 5)]) (.pop 4)), (.ite (.cmp .eq (.tup [(.var 6), (.var 7)]) (.var 2)) [(.asg 3 (.bi .max2 [(.var 3), (.var 5)]))] []), (.ite (.cmp .lt (.var 6) (.idx (.var 2) (.cst (.int 0)))) [(.ex (.app 4 (.tup [(.tup [(.bin .add (.var 6) (.cst (.int 1))), (.var 7)]), (.bin .add (.var 5) (.idx (.idx (.var 0) (.idx (.var 1) (.bin .add (.var 6) (.cst (.int 1))))) (.var 7)))])))] []), (.ite (.cmp .lt (.var 7) (.idx (.var 2) (.cst (.int 1)))) [(.ex (.app 4 (.tup [(.tup [(.var 6), (.bin .add (.var 7) (.cst (.int 1)))]), (.bin .add (.var 5) (.idx (.idx (.var 0) (.idx (.var 1) (.var 6))) (.bin .add (.var 7) (.cst (.int 1)))))])))] [])]
def c_Lall_ways : CDef := ⟨2, 8, [(.par [2, 3] [(.tup [(.bin .sub (.bi .len [(.var 1)]) (.cst (.int 1))), (.bin .sub (.bi .len [(.idx (.var 0) (.cst (.int 0)))]) (.cst (.int 1)))]), (.cst (.int 0))]), (.asg 4 (.lst [(.tup [(.tup [(.cst (.int 0)), (.cst (.int 0))]), (.idx (.idx (.var 0) (.idx (.var 1) (.cst (.int 0)))) (.cst (.int 0)))])])), (.wh (.cmp .ne (.var 4) (.lst [])) b_Lall_ways_0), (.ret (.var 3))]⟩
def q_is_job_0 : CE := .comp [2] (.nm 2) (.var 1) [] (.call i_is_whole [] [(.var 2), (.cst (.int 0)), (.glb "TIME" (.int 99))])
def c_is_job : CDef := ⟨2, 3, [(.ret (.and [(.isi .tup (.var 1)), (.cmp .eq (.bi .len [(.var 1)]) (.var 0)), (.bi .all [q_is_job_0])]))]⟩
def q_good_jobs_0 : CE := .comp [1] (.nm 1) (.var 0) [] (.call i_is_job [] [(.bi .len [(.idx (.var 0) (.cst (.int 0)))]), (.var 1)])
def c_good_jobs : CDef := ⟨1, 2, [(.ite (.or [(.not (.isi .tup (.var 0))), (.not (.chain .le .le (.cst (.int 1)) (.bi .len [(.var 0)]) (.glb "PIECES" (.int 8))))]) [(.ret (.cst (.bl false)))] []), (.ite (.or [(.not (.isi .tup (.idx (.var 0) (.cst (.int 0))))), (.not (.chain .le .le (.cst (.int 2)) (.bi .len [(.idx (.var 0) (.cst (.int 0)))]) (.cst (.int 4))))]) [(.ret (.cst (.bl false)))] []), (.ret (.bi .all [q_good_jobs_0]))]⟩
def c_are_jobs : CDef := ⟨1, 1, [(.ret (.call i_good_jobs [] [(.var 0)]))]⟩
def c_need_jobs : CDef := ⟨1, 1, [(.ite (.not (.call i_good_jobs [] [(.var 0)])) [(.raise 15)] [])]⟩
def q_Ljobs_0 : CE := .comp [8] (.nm 8) (.rng1 (.var 4)) [] (.call i_Ldraw [false, true, false] [(.var 0), (.var 1), (.bin .add (.var 6) (.cst (.int 1)))])
def b_Ljobs_0 : List CS := [(.ex (.app 5 (.bi .tuple [q_Ljobs_0])))]
def c_Ljobs : CDef := ⟨3, 9, [(.par [3, 4] [(.bin .add (.cst (.int 1)) (.call i_Ldraw [false, true, false] [(.var 0), (.var 1), (.var 2)])), (.bin .add (.cst (.int 2)) (.call i_Ldraw [false, true, false] [(.var 0), (.var 1), (.cst (.int 3))]))]), (.par [5, 6] [(.lst []), (.bin .add (.cst (.int 1)) (.call i_Ldraw [false, true, false] [(.var 0), (.var 1), (.cst (.int 30))]))]), (.for (.nm 7) (.rng1 (.var 3)) b_Ljobs_0), (.ret (.bi .tuple [(.var 5)]))]⟩
def q_need_passing_0 : CE := .comp [2] (.nm 2) (.var 1) [] (.call i_is_whole [] [(.var 2), (.cst (.int 0)), (.bin .sub (.bi .len [(.var 0)]) (.cst (.int 1)))])
def c_need_passing : CDef := ⟨2, 3, [(.ex (.call i_need_jobs [] [(.var 0)])), (.ite (.or [(.not (.isi .tup (.var 1))), (.not (.bi .all [q_need_passing_0]))]) [(.raise 1)] []), (.ite (.cmp .ne (.bi .sorted [(.var 1)]) (.listRng (.bi .len [(.var 0)]))) [(.raise 1)] [])]⟩
def c_ends : CDef := ⟨2, 2, [(.ex (.call i_need_passing [] [(.var 0), (.var 1)])), (.ret (.call i_ends_of [] [(.var 0), (.var 1)]))]⟩
def c_end : CDef := ⟨2, 2, [(.ex (.call i_need_passing [] [(.var 0), (.var 1)])), (.ret (.idx (.idx (.call i_ends_of [] [(.var 0), (.var 1)]) (.neg (.cst (.int 1)))) (.neg (.cst (.int 1)))))]⟩
def q_law_k26_0 : CE := .comp [5] (.nm 5) (.var 2) [] (.rev (.var 5))
def c_law_k26 : CDef := ⟨1, 6, [(.asg 1 (.lst [])), (.asg 2 (.call i_Ljobs [false, true, false] [(.var 0), (.var 1), (.cst (.int 7))])), (.asg 3 (.call i_Lorder_of [false, true, false] [(.var 0), (.var 1), (.bi .len [(.var 2)])])), (.asg 4 (.call i_Lways_end [] [(.var 2), (.var 3)])), (.ite (.or [(.cmp .isnot (.call i_are_jobs [] [(.var 2)]) (.cst (.bl true))), (.cmp .ne (.call i_ends [] [(.var 2), (.var 3)]) (.var 4)), (.not (.call i_Lsame_number [] [(.call i_end [] [(.var 2), (.var 3)]), (.idx (.idx (.var 4) (.neg (.cst (.int 1)))) (.neg (.cst (.int 1))))]))]) [(.ret (.cst (.bl false)))] []), (.ite (.cmp .ne (.call i_end [] [(.var 2), (.var 3)]) (.call i_Lall_ways [] [(.var 2), (.var 3)])) [(.ret (.cst (.bl false)))] []), (.ret (.cmp .eq (.call i_end [] [(.bi .tuple [q_law_k26_0]), (.rev (.var 3))]) (.call i_end [] [(.var 2), (.var 3)])))]⟩
def q_loads_by_0 : CE := .comp [2, 3] (.tp [(.nm 2), (.nm 3)]) (.zip (.var 1) (.slc (.var 1) [(.cst (.int 1))] [])) [] (.bin .sub (.var 2) (.var 3))
def q_loads_by_1 : CE := .comp [1] (.nm 1) (.var 0) [] (.bi .tuple [q_loads_by_0])
def c_loads_by : CDef := ⟨1, 4, [(.ret (.bi .tuple [q_loads_by_1]))]⟩
def c_loads_of : CDef := ⟨1, 1, [(.ex (.call i_need_jobs [] [(.var 0)])), (.ret (.call i_loads_by [] [(.var 0)]))]⟩
def q_highs_0 : CE := .comp [4] (.nm 4) (.var 2) [] (.idx (.var 4) (.var 3))
def q_highs_1 : CE := .comp [3] (.nm 3) (.rng1 (.bin .sub (.bi .len [(.idx (.var 0) (.cst (.int 0)))]) (.cst (.int 1)))) [] (.bi .max [(.bin .add (.lst [(.cst (.int 0))]) q_highs_0)])
def c_highs : CDef := ⟨2, 5, [(.ex (.call i_need_passing [] [(.var 0), (.var 1)])), (.asg 2 (.call i_sums_of [] [(.call i_loads_by [] [(.var 0)]), (.var 1)])), (.ret q_highs_1)]⟩
def q_law_k27_0 : CE := .comp [7] (.nm 7) (.rng1 (.var 4)) [] (.bin .sub (.idx (.var 6) (.var 7)) (.idx (.var 6) (.bin .add (.var 7) (.cst (.int 1)))))
def q_law_k27_1 : CE := .comp [6] (.nm 6) (.var 2) [] (.bi .tuple [q_law_k27_0])
def q_law_k27_2 : CE := .comp [10] (.nm 10) (.var 8) [] (.idx (.var 10) (.var 7))
def b_law_k27_0 : List CS := [(.ex (.app 9 (.bi .max [(.bin .add (.lst [(.cst (.int 0))]) q_law_k27_2)])))]
def q_law_k27_3 : CE := .comp [6] (.nm 6) (.var 2) [] (.idx (.var 6) (.var 12))
def q_law_k27_4 : CE := .comp [12] (.nm 12) (.rng1 (.bin .add (.var 4) (.cst (.int 1)))) [] (.bi .sum [q_law_k27_3])
def q_law_k27_5 : CE := .comp [6] (.nm 6) (.var 2) [] (.bi .max [(.var 6)])
def c_law_k27 : CDef := ⟨1, 14, [(.asg 1 (.lst [])), (.asg 2 (.call i_Ljobs [false, true, false] [(.var 0), (.var 1), (.cst (.int 8))])), (.par [3, 4] [(.call i_Lorder_of [false, true, false] [(.var 0), (.var 1), (.bi .len [(.var 2)])]), (.bin .sub (.bi .len [(.idx (.var 2) (.cst (.int 0)))]) (.cst (.int 1)))]), (.asg 5 (.call i_loads_of [] [(.var 2)])), (.ite (.cmp .ne (.var 5) (.bi .tuple [q_law_k27_1])) [(.ret (.cst (.bl false)))] []), (.par [8, 9] [(.call i_Lrows [] [(.var 5), (.var 3)]), (.lst [])]), (.for (.nm 7) (.rng1 (.var 4)) b_law_k27_0), (.ite (.or [(.cmp .ne (.call i_highs [] [(.var 2), (.var 3)]) (.var 9)), (.cmp .gt (.bi .max [(.var 9)]) (.call i_lean [] [(.var 5), (.var 3)]))]) [(.ret (.cst (.bl false)))] []), (.asg 11 q_law_k27_4), (.asg 13 (.bi .max [q_law_k27_5])), (.ret (.chain .le .le (.bi .max [(.var 11)]) (.call i_end [] [(.var 2), (.var 3)]) (.bin .add (.bin .add (.idx (.var 11) (.neg (.cst (.int 1)))) (.bi .sum [(.var 9)])) (.bin .mul (.var 4) (.var 13)))))]⟩
def q_station_totals_0 : CE := .comp [2] (.nm 2) (.var 0) [] (.idx (.var 2) (.var 1))
def q_station_totals_1 : CE := .comp [1] (.nm 1) (.rng1 (.bi .len [(.idx (.var 0) (.cst (.int 0)))])) [] (.bi .sum [q_station_totals_0])
def c_station_totals : CDef := ⟨1, 3, [(.ret q_station_totals_1)]⟩
def b_raised_0 : List CS := [(.asg 5 (.bi .min2 [(.var 2), (.bin .sub (.var 1) (.var 4))])), (.ex (.app 3 (.bin .add (.var 4) (.var 5)))), (.aug .sub 2 (.var 5))]
def c_raised : CDef := ⟨3, 6, [(.asg 3 (.lst [])), (.for (.nm 4) (.var 0) b_raised_0), (.ret (.var 3))]⟩
def q_levelled_of_0 : CE := .comp2 [3, 4] (.nm 3) (.var 0) [] [4] (.nm 4) (.var 3) [] (.var 4)
def q_levelled_of_1 : CE := .comp [3] (.nm 3) (.var 0) [] (.idx (.var 3) (.var 6))
def b_levelled_of_0 : List CS := [(.ex (.app 5 (.call i_raised [] [q_levelled_of_1, (.var 2), (.bin .sub (.bi .max [(.var 1)]) (.var 7))])))]
def q_levelled_of_2 : CE := .comp [8] (.nm 8) (.var 5) [] (.idx (.var 8) (.var 3))
def q_levelled_of_3 : CE := .comp [3] (.nm 3) (.rng1 (.bi .len [(.var 0)])) [] (.bi .tuple [q_levelled_of_2])
def c_levelled_of : CDef := ⟨1, 9, [(.asg 1 (.call i_station_totals [] [(.var 0)])), (.asg 2 (.bi .max [q_levelled_of_0])), (.asg 5 (.lst [])), (.for (.tp [(.nm 6), (.nm 7)]) (.enum (.var 1)) b_levelled_of_0), (.ret (.bi .tuple [q_levelled_of_3]))]⟩
def c_levelled : CDef := ⟨1, 1, [(.ex (.call i_need_jobs [] [(.var 0)])), (.ret (.call i_levelled_of [] [(.var 0)]))]⟩
def q_law_k28_0 : CE := .comp [6] (.nm 6) (.var 2) [] (.bi .max [(.var 6)])
def q_law_k28_1 : CE := .comp [6] (.nm 6) (.var 2) [] (.idx (.var 6) (.var 8))
def q_law_k28_2 : CE := .comp [8] (.nm 8) (.rng1 (.var 4)) [] (.bi .sum [q_law_k28_1])
def q_law_k28_3 : CE := .comp [6] (.nm 6) (.var 2) [] (.idx (.var 6) (.var 8))
def b_law_k28_0 : List CS := [(.setI 10 (.var 11) (.bi .min2 [(.var 5), (.bin .sub (.bin .add (.idx (.var 10) (.var 11)) (.var 7)) (.bi .sum [(.var 10)]))]))]
def b_law_k28_1 : List CS := [(.asg 10 q_law_k28_3), (.for (.nm 11) (.rng1 (.bi .len [(.var 10)])) b_law_k28_0), (.ex (.app 9 (.var 10)))]
def q_law_k28_4 : CE := .comp [10] (.nm 10) (.var 9) [] (.idx (.var 10) (.var 11))
def q_law_k28_5 : CE := .comp [11] (.nm 11) (.rng1 (.bi .len [(.var 2)])) [] (.bi .tuple [q_law_k28_4])
def q_law_k28_6 : CE := .comp [10] (.nm 10) (.var 9) [(.cmp .ne (.bi .sum [(.var 10)]) (.var 7))] (.var 10)
def c_law_k28 : CDef := ⟨1, 13, [(.asg 1 (.lst [])), (.asg 2 (.call i_Ljobs [false, true, false] [(.var 0), (.var 1), (.cst (.int 8))])), (.par [3, 4] [(.call i_levelled [] [(.var 2)]), (.bi .len [(.idx (.var 2) (.cst (.int 0)))])]), (.asg 5 (.bi .max [q_law_k28_0])), (.asg 7 (.bi .max [q_law_k28_2])), (.asg 9 (.lst [])), (.for (.nm 8) (.rng1 (.var 4)) b_law_k28_1), (.ite (.cmp .ne (.var 3) (.bi .tuple [q_law_k28_5])) [(.ret (.cst (.bl false)))] []), (.ite (.or [(.cmp .ne q_law_k28_6 (.lst [])), (.cmp .isnot (.call i_is_balanced [] [(.call i_loads_of [] [(.var 3)])]) (.cst (.bl true)))]) [(.ret (.cst (.bl false)))] []), (.asg 12 (.call i_Lorder_of [false, true, false] [(.var 0), (.var 1), (.bi .len [(.var 2)])])), (.ret (.and [(.cmp .ge (.call i_end [] [(.var 3), (.var 12)]) (.call i_end [] [(.var 2), (.var 12)])), (.cmp .eq (.call i_levelled [] [(.var 3)]) (.var 3))]))]⟩
def c_told_order : CDef := ⟨1, 1, [(.ex (.call i_need_jobs [] [(.var 0)])), (.ret (.idx (.call i_share_rows [] [(.call i_loads_by [] [(.call i_levelled_of [] [(.var 0)])])]) (.cst (.int 0))))]⟩
def q_law_k29_0 : CE := .comp [10] (.nm 10) (.var 2) [] (.bi .max [(.var 10)])
def q_law_k29_1 : CE := .comp [10] (.nm 10) (.var 2) [] (.idx (.var 10) (.var 12))
def q_law_k29_2 : CE := .comp [12] (.nm 12) (.rng1 (.bin .add (.var 4) (.cst (.int 1)))) [] (.bi .sum [q_law_k29_1])
def c_law_k29 : CDef := ⟨1, 13, [(.asg 1 (.lst [])), (.asg 2 (.call i_Ljobs [false, true, false] [(.var 0), (.var 1), (.cst (.int 8))])), (.par [3, 4] [(.call i_told_order [] [(.var 2)]), (.bin .sub (.bi .len [(.idx (.var 2) (.cst (.int 0)))]) (.cst (.int 1)))]), (.asg 5 (.call i_levelled [] [(.var 2)])), (.asg 6 (.call i_loads_of [] [(.var 5)])), (.unp (.tp [(.nm 7), (.nm 8)]) (.call i_share_order [] [(.var 6)])), (.ite (.or [(.cmp .ne (.var 3) (.var 7)), (.cmp .isnot (.call i_are_shares [] [(.var 6), (.var 3), (.var 8)]) (.cst (.bl true)))]) [(.ret (.cst (.bl false)))] []), (.asg 9 (.bi .max [q_law_k29_0])), (.asg 11 (.bi .max [q_law_k29_2])), (.ite (.or [(.cmp .gt (.call i_lean [] [(.var 6), (.var 3)]) (.bin .mul (.var 4) (.var 9))), (.cmp .gt (.bi .max [(.call i_highs [] [(.var 5), (.var 3)])]) (.bin .mul (.var 4) (.var 9)))]) [(.ret (.cst (.bl false)))] []), (.ite (.cmp .gt (.call i_end [] [(.var 5), (.var 3)]) (.bin .add (.var 11) (.bin .mul (.bin .mul (.var 4) (.bin .add (.var 4) (.cst (.int 1)))) (.var 9)))) [(.ret (.cst (.bl false)))] []), (.ret (.chain .le .le (.var 11) (.call i_end [] [(.var 2), (.var 3)]) (.bin .add (.var 11) (.bin .mul (.bin .mul (.var 4) (.bin .add (.var 4) (.cst (.int 1)))) (.var 9)))))]⟩
def q_orders_of_0 : CE := .comp2 [3, 4] (.nm 3) (.var 1) [] [4] (.nm 4) (.rng1 (.var 0)) [(.cmp .notin (.var 4) (.var 3))] (.bin .add (.var 3) (.tup [(.var 4)]))
def b_orders_of_0 : List CS := [(.asg 1 q_orders_of_0)]
def c_orders_of : CDef := ⟨1, 5, [(.asg 1 (.lst [(.tup [])])), (.for (.nm 2) (.rng1 (.var 0)) b_orders_of_0), (.ret (.var 1))]⟩
def q_best_end_0 : CE := .comp [2] (.nm 2) (.call i_orders_of [] [(.bi .len [(.var 0)])]) [] (.tup [(.idx (.idx (.call i_ends_of [] [(.var 0), (.var 2)]) (.neg (.cst (.int 1)))) (.neg (.cst (.int 1)))), (.var 2)])
def c_best_end : CDef := ⟨1, 3, [(.ex (.call i_need_jobs [] [(.var 0)])), (.ite (.cmp .gt (.bi .len [(.var 0)]) (.glb "FEW" (.int 6))) [(.raise 16)] []), (.asg 1 q_best_end_0), (.ret (.tup [(.idx (.bi .min [(.var 1)]) (.cst (.int 1))), (.idx (.bi .min [(.var 1)]) (.cst (.int 0)))]))]⟩
def q_law_k30_0 : CE := .comp [4] (.nm 4) (.call i_Lorders [] [(.bi .len [(.var 2)])]) [] (.tup [(.idx (.idx (.call i_Lways_end [] [(.var 2), (.var 4)]) (.neg (.cst (.int 1)))) (.neg (.cst (.int 1)))), (.var 4)])
def q_law_k30_1 : CE := .comp [6] (.nm 6) (.call i_Ljobs [false, true, false] [(.var 0), (.var 1), (.cst (.int 6))]) [] (.slc (.var 6) [] [(.cst (.int 2))])
def q_law_k30_2 : CE := .comp [8, 6] (.tp [(.nm 8), (.nm 6)]) (.enum (.var 5)) [(.cmp .lt (.idx (.var 6) (.cst (.int 0))) (.idx (.var 6) (.cst (.int 1))))] (.tup [(.idx (.var 6) (.cst (.int 0))), (.var 8)])
def q_law_k30_3 : CE := .comp [8, 6] (.tp [(.nm 8), (.nm 6)]) (.enum (.var 5)) [(.cmp .ge (.idx (.var 6) (.cst (.int 0))) (.idx (.var 6) (.cst (.int 1))))] (.tup [(.bin .sub (.cst (.int 0)) (.idx (.var 6) (.cst (.int 1)))), (.var 8)])
def q_law_k30_4 : CE := .comp [10, 8] (.tp [(.nm 10), (.nm 8)]) (.bin .add (.var 7) (.var 9)) [] (.var 8)
def c_law_k30 : CDef := ⟨1, 11, [(.asg 1 (.lst [])), (.asg 2 (.call i_Ljobs [false, true, false] [(.var 0), (.var 1), (.call i_Lpick [false, true, false] [(.var 0), (.var 1), (.lst [(.cst (.int 4)), (.cst (.int 5)), (.cst (.int 5))])])])), (.asg 3 q_law_k30_0), (.ite (.or [(.cmp .ne (.call i_best_end [] [(.var 2)]) (.tup [(.idx (.bi .min [(.var 3)]) (.cst (.int 1))), (.idx (.bi .min [(.var 3)]) (.cst (.int 0)))])), (.cmp .lt (.call i_end [] [(.var 2), (.call i_told_order [] [(.var 2)])]) (.idx (.bi .min [(.var 3)]) (.cst (.int 0))))]) [(.ret (.cst (.bl false)))] []), (.asg 5 (.bi .tuple [q_law_k30_1])), (.asg 7 (.bi .sorted [q_law_k30_2])), (.asg 9 (.bi .sorted [q_law_k30_3])), (.asg 4 (.bi .tuple [q_law_k30_4])), (.ret (.cmp .eq (.idx (.call i_best_end [] [(.var 5)]) (.cst (.int 1))) (.call i_end [] [(.var 5), (.var 4)])))]⟩
def q_number_in_0 : CE := .comp [2] (.nm 2) (.var 1) [] (.cmp .isin (.var 2) (.glb "FIGURES" (.str [48, 49, 50, 51, 52, 53, 54, 55, 56, 57])))
def c_number_in : CDef := ⟨1, 3, [(.asg 1 (.ite (.cmp .eq (.slc (.var 0) [] [(.cst (.int 1))]) (.cst (.str [45]))) (.slc (.var 0) [(.cst (.int 1))] []) (.var 0))), (.ite (.or [(.cmp .eq (.var 1) (.cst (.str []))), (.cmp .gt (.bi .len [(.var 1)]) (.cst (.int 2))), (.not (.bi .all [q_number_in_0])), (.cmp .ne (.bi .str [(.bi .int [(.var 0)])]) (.var 0))]) [(.ret (.cst .non))] []), (.ret (.bi .int [(.var 0)]))]⟩
def q_numbers_in_0 : CE := .comp [1] (.nm 1) (.var 0) [] (.call i_number_in [] [(.var 1)])
def c_numbers_in : CDef := ⟨1, 2, [(.ret (.bi .tuple [q_numbers_in_0]))]⟩
def b_wall_0 : List CS := [.pass]
def c_wall : CDef := ⟨1, 1, [(.wh (.cst (.bl true)) b_wall_0)]⟩
def q_Lnumber_0 : CE := .comp [2] (.nm 2) (.var 1) [(.cmp .notin (.var 2) (.cst (.str [48, 49, 50, 51, 52, 53, 54, 55, 56, 57])))] (.var 2)
def c_Lnumber : CDef := ⟨1, 3, [(.asg 1 (.ite (.cmp .eq (.slc (.var 0) [] [(.cst (.int 1))]) (.cst (.str [45]))) (.slc (.var 0) [(.cst (.int 1))] []) (.var 0))), (.ite (.or [(.cmp .eq (.var 1) (.cst (.str []))), (.cmp .gt (.bi .len [(.var 1)]) (.cst (.int 2))), (.cmp .ne q_Lnumber_0 (.lst []))]) [(.ret (.cst .non))] []), (.ret (.ite (.cmp .eq (.bi .str [(.bi .int [(.var 0)])]) (.var 0)) (.bi .int [(.var 0)]) (.cst .non)))]⟩
def q_Lmay_0 : CE := .comp [3, 4] (.tp [(.nm 3), (.nm 4)]) (.idx (.var 0) (.cst (.int 0))) [(.and [(.cmp .eq (.var 4) (.var 2)), (.cmp .notin (.var 3) (.var 1))])] (.var 3)
def c_Lmay : CDef := ⟨3, 5, [(.ite (.or [(.cmp .isin (.var 2) (.var 1)), (.cmp .gt (.var 2) (.bin .add (.bi .len [(.var 1)]) (.idx (.var 0) (.cst (.int 1)))))]) [(.ret (.cst (.bl false)))] []), (.ret (.cmp .eq q_Lmay_0 (.lst [])))]⟩
def q_law_k42_0 : CE := .comp [15, 8] (.tp [(.nm 15), (.nm 8)]) (.zip (.var 13) (.slc (.var 13) [(.cst (.int 1))] [])) [] (.tup [(.var 15), (.var 8)])
def c_law_k42 : CDef := ⟨1, 16, [(.asg 1 (.lst [])), (.asg 2 (.call i_Lloads [false, true, false, false] [(.var 0), (.var 1), (.bin .add (.cst (.int 1)) (.call i_Ldraw [false, true, false] [(.var 0), (.var 1), (.cst (.int 3))])), (.cst (.int 6))])), (.asg 3 (.call i_Lsome_rules [false, true, false] [(.var 0), (.var 1), (.var 2)])), (.asg 4 (.call i_how_many_by [] [(.var 2), (.var 3), (.cst (.int 999))])), (.par [5, 6] [(.call i_Ldraw [false, true, false] [(.var 0), (.var 1), (.bi .len [(.var 2)])]), (.call i_Ldraw [false, true, false] [(.var 0), (.var 1), (.bi .len [(.var 2)])])]), (.ite (.cmp .ne (.var 5) (.var 6)) [(.asg 7 (.tup [(.bi .tuple [(.bi .sortset [(.bin .add (.idx (.var 3) (.cst (.int 0))) (.tup [(.tup [(.var 5), (.var 6)])]))])]), (.idx (.var 3) (.cst (.int 1)))])), (.par [10, 11] [(.call i_best_by [] [(.var 2), (.var 7)]), (.call i_best_by [] [(.var 2), (.var 3)])]), (.ite (.or [(.cmp .isnot (.call i_are_rules [] [(.var 2), (.var 7)]) (.cst (.bl true))), (.cmp .gt (.call i_how_many_by [] [(.var 2), (.var 7), (.cst (.int 999))]) (.var 4))]) [(.ret (.cst (.bl false)))] []), (.ite (.and [(.cmp .isnot (.var 10) (.cst .non)), (.or [(.cmp .is (.var 11) (.cst .non)), (.cmp .lt (.idx (.var 10) (.cst (.int 1))) (.idx (.var 11) (.cst (.int 1))))])]) [(.ret (.cst (.bl false)))] []), (.ite (.and [(.cmp .isnot (.var 10) (.cst .non)), (.cmp .isnot (.call i_keeps [] [(.var 2), (.var 3), (.idx (.var 10) (.cst (.int 0)))]) (.cst (.bl true)))]) [(.ret (.cst (.bl false)))] []), (.asg 8 (.tup [(.bi .tuple [(.bi .sortset [(.bin .add (.idx (.var 3) (.cst (.int 0))) (.tup [(.tup [(.var 6), (.var 5)])]))])]), (.idx (.var 3) (.cst (.int 1)))])), (.ite (.cmp .ne (.bin .add (.call i_how_many_by [] [(.var 2), (.var 7), (.cst (.int 999))]) (.call i_how_many_by [] [(.var 2), (.var 8), (.cst (.int 999))])) (.var 4)) [(.ret (.cst (.bl false)))] []), (.asg 9 (.tup [(.bi .tuple [(.bi .sorted [(.lst [(.tup [(.var 5), (.var 6)]), (.tup [(.var 6), (.var 5)])])])]), (.cst (.int 9))])), (.ite (.or [(.cmp .isnot (.call i_best_by [] [(.var 2), (.var 9)]) (.cst .non)), (.cmp .ne (.call i_how_many_by [] [(.var 2), (.var 9), (.cst (.int 999))]) (.cst (.int 0)))]) [(.ret (.cst (.bl false)))] [])] []), (.asg 12 (.bi .min2 [(.cst (.int 9)), (.bin .add (.idx (.var 3) (.cst (.int 1))) (.cst (.int 1)))])), (.ite (.cmp .lt (.call i_how_many_by [] [(.var 2), (.tup [(.idx (.var 3) (.cst (.int 0))), (.var 12)]), (.cst (.int 999))]) (.var 4)) [(.ret (.cst (.bl false)))] []), (.asg 13 (.call i_Lorder_of [false, true, false] [(.var 0), (.var 1), (.bi .len [(.var 2)])])), (.asg 14 (.bi .tuple [(.bi .sorted [q_law_k42_0])])), (.ite (.cmp .ne (.call i_best_by [] [(.var 2), (.tup [(.var 14), (.cst (.int 9))])]) (.tup [(.var 13), (.call i_Ltilt [] [(.call i_Lrows [] [(.var 2), (.var 13)])])])) [(.ret (.cst (.bl false)))] []), (.ret (.cmp .eq (.call i_how_many_by [] [(.var 2), (.tup [(.var 14), (.cst (.int 9))]), (.cst (.int 999))]) (.cst (.int 1))))]⟩
def GA : Nat → Option CDef
  | 0 => some c_is_whole
  | 1 => some c_ways_of
  | 2 => some c_most_of
  | 3 => some c_added
  | 4 => some c_Lcell_at
  | 5 => some c_Lsame_number
  | 6 => some c_Lsame_truth
  | 7 => some c_Ltilt
  | 8 => some c_is_piece
  | 9 => some c_total_of
  | 10 => some c_Lmixed
  | 11 => some c_Ltop
  | 12 => some c_good_loads
  | 13 => some c_balanced
  | 14 => some c_Ldraw
  | 15 => some c_is_loads
  | 16 => some c_need_loads
  | 17 => some c_Lpick
  | 18 => some c_Lorder_of
  | 19 => some c_most
  | 20 => some c_total
  | 21 => some c_is_balanced
  | 22 => some c_Llevel
  | 23 => some c_Lloads
  | 24 => some c_law_k01
  | 25 => some c_far
  | 26 => some c_Lrows
  | 27 => some c_good_order
  | 28 => some c_sums_of
  | 29 => some c_lean_of
  | 30 => some c_need_order
  | 31 => some c_is_order
  | 32 => some c_sums
  | 33 => some c_lean
  | 34 => some c_law_k02
  | 35 => some c_may_go
  | 36 => some c_with_piece
  | 37 => some c_Lorders
  | 38 => some c_lot_sum
  | 39 => some c_next_lots
  | 40 => some c_lot_lean
  | 41 => some c_least_from
  | 42 => some c_best_of
  | 43 => some c_best
  | 44 => some c_law_k03
  | 45 => some c_need_lean
  | 46 => some c_many_from
  | 47 => some c_how_many
  | 48 => some c_law_k04
  | 49 => some c_law_k05
  | 50 => some c_good
  | 51 => some c_law_k06
  | 52 => some c_Lby_rules
  | 53 => some c_is_pair
  | 54 => some c_good_rules
  | 55 => some c_are_rules
  | 56 => some c_need_rules
  | 57 => some c_Lsome_rules
  | 58 => some c_keeps
  | 59 => some c_best_by
  | 60 => some c_how_many_by
  | 61 => some c_law_k07
  | 62 => some c_Lby_hand
  | 63 => some c_law_k08
  | 64 => some c_Lmerges
  | 65 => some c_rules_of
  | 66 => some c_is_lot
  | 67 => some c_is_paper
  | 68 => some c_Lclosed
  | 69 => some c_law_k11
  | 70 => some c_is_any_whole
  | 71 => some c_common
  | 72 => some c_below
  | 73 => some c_is_inner
  | 74 => some c_Lcommon
  | 75 => some c_made_of
  | 76 => some c_rows_for
  | 77 => some c_is_share
  | 78 => some c_Lright
  | 79 => some c_plus
  | 80 => some c_times
  | 81 => some c_over
  | 82 => some c_minus
  | 83 => some c_shows
  | 84 => some c_cleared
  | 85 => some c_room_of
  | 86 => some c_need_balanced
  | 87 => some c_ring_of
  | 88 => some c_moved
  | 89 => some c_are_shares
  | 90 => some c_without_one
  | 91 => some c_share_rows
  | 92 => some c_share_order
  | 93 => some c_Lright_2
  | 94 => some c_law_k13
  | 95 => some c_times_2
  | 96 => some c_good_signs
  | 97 => some c_turned_rows
  | 98 => some c_Lby_signs
  | 99 => some c_are_signs
  | 100 => some c_need_signs
  | 101 => some c_turned_sums
  | 102 => some c_turned_lean
  | 103 => some c_law_k14
  | 104 => some c_all_signs
  | 105 => some c_Lsigns_of
  | 106 => some c_best_signs_of
  | 107 => some c_best_signs
  | 108 => some c_law_k15
  | 109 => some c_law_k16
  | 110 => some c_parted_of
  | 111 => some c_parted
  | 112 => some c_law_k17
  | 113 => some c_mended
  | 114 => some c_law_k18
  | 115 => some c_turned_of
  | 116 => some c_need_way
  | 117 => some c_way_sums
  | 118 => some c_turned_on
  | 119 => some c_spread
  | 120 => some c_law_k19
  | 121 => some c_start
  | 122 => some c_law_k20
  | 123 => some c_together
  | 124 => some c_law_k21
  | 125 => some c_by_number
  | 126 => some c_mirrored
  | 127 => some c_greater
  | 128 => some c_law_k22
  | 129 => some c_named
  | 130 => some c_law_k23
  | 131 => some c_law_k24
  | 132 => some c_law_k25
  | 133 => some c_ends_of
  | 134 => some c_Lways_end
  | 135 => some c_Lall_ways
  | 136 => some c_is_job
  | 137 => some c_good_jobs
  | 138 => some c_are_jobs
  | 139 => some c_need_jobs
  | 140 => some c_Ljobs
  | 141 => some c_need_passing
  | 142 => some c_ends
  | 143 => some c_end
  | 144 => some c_law_k26
  | 145 => some c_loads_by
  | 146 => some c_loads_of
  | 147 => some c_highs
  | 148 => some c_law_k27
  | 149 => some c_station_totals
  | 150 => some c_raised
  | 151 => some c_levelled_of
  | 152 => some c_levelled
  | 153 => some c_law_k28
  | 154 => some c_told_order
  | 155 => some c_law_k29
  | 156 => some c_orders_of
  | 157 => some c_best_end
  | 158 => some c_law_k30
  | 159 => some c_number_in
  | 160 => some c_numbers_in
  | 161 => some c_wall
  | 162 => some c_Lnumber
  | 163 => some c_Lmay
  | 164 => some c_law_k42
  | _ => none
end SL

/-! ## S1 -/
set_option Elab.async false
set_option linter.all false
set_option autoImplicit false
/-! Soundness 1: how the core's data stand in the abstract heap; a frame's state. -/
namespace SLS
open PySem PySem.Spec PyProof.Rows L2
open SL (D Slot PV)

def S (x : List Nat) : Str := ⟨x.toArray⟩
/-- the keys of a dict -/
def kI (is : List Int) : List D := is.map D.int
def kT (is : List (List Int)) : List D := is.map fun l => D.tup (l.map D.int)
def hI (is : List Int) : List Key := is.map Sum.inl
def hT (is : List (List Int)) : List (List Key) := is.map fun l => l.map Sum.inl

/-- a tuple of the written part -/
def SqK (K : PySem.W.Frag) (a : Addr) (xs : List V) : Prop :=
  ∃ (o : Obj) (its : Array Value) (n : Nat), K.lookup a = some o ∧ o.cls = .type "tuple" ∧ o.data = .seq its n ∧ its.size ≤ sizeLine ∧ Vals xs its.toList
mutual
/-- v is the datum d, within F -/
inductive Rp (K : PySem.W.Frag) (F : Hp) : V → D → Prop
  | non : Rp K F .non .non
  | bl (b : Bool) : Rp K F (.bl b) (.bl b)
  | int (i : Int) : Rp K F (.int i) (.int i)
  | str (x : List Nat) : Rp K F (.str (S x)) (.str x)
  | tup {a : Addr} {xs : List V} {ds : List D} : F a = some (.tup xs) → Rps K F xs ds → Rp K F (.ref a) (.tup ds)
  | wr {a : Addr} {xs : List V} {ds : List D} : SqK K a xs → Rps K F xs ds → Rp K F (.ref a) (.wr ds)
  | lst {a : Addr} {xs : List V} {ds : List D} : SqL K F a xs → Rps K F xs ds → Rp K F (.ref a) (.lst ds)
  | dK {a : Addr} {kvs : List (Key × V)} {is : List Int} {ks vs : List D} : Rd F a (.dK kvs) → kvs.map (·.1) = hI is → ks = kI is → Rps K F (kvs.map (·.2)) vs → Rp K F (.ref a) (.dct false ks vs)
  | dT {a : Addr} {kvs : List (List Key × V)} {is : List (List Int)} {ks vs : List D} : Rd F a (.dT kvs) → kvs.map (·.1) = hT is → ks = kT is → Rps K F (kvs.map (·.2)) vs → Rp K F (.ref a) (.dct true ks vs)
inductive Rps (K : PySem.W.Frag) (F : Hp) : List V → List D → Prop
  | nil : Rps K F [] []
  | cons {v : V} {vs : List V} {d : D} {ds : List D} : Rp K F v d → Rps K F vs ds → Rps K F (v :: vs) (d :: ds)
end

section
variable {K : PySem.W.Frag} {F F' : Hp}
theorem Rd.mono {a : Addr} {o : HO} (e : Same F F') (h : Rd F a o) : Rd F' a o := by
  rcases h with h | ⟨q, h⟩
  · exact .inl (e _ _ h)
  · exact .inr ⟨q, e _ _ h⟩
theorem SqT.mono {a : Addr} {xs : List V} (e : Same F F') (h : SqT K F a xs) : SqT K F' a xs := by
  rcases h with h | h
  · exact .inl (Rd.mono e h)
  · exact .inr h
mutual
theorem Rp.mono (e : Same F F') : ∀ {v : V} {d : D}, Rp K F v d → Rp K F' v d
  | _, _, .non => .non
  | _, _, .bl b => .bl b
  | _, _, .int i => .int i
  | _, _, .str x => .str x
  | _, _, .tup h r => .tup (e _ _ h) (Rps.mono e r)
  | _, _, .wr h r => .wr h (Rps.mono e r)
  | _, _, .lst h r => .lst (e.seq h) (Rps.mono e r)
  | _, _, .dK h a b r => .dK (Rd.mono e h) a b (Rps.mono e r)
  | _, _, .dT h a b r => .dT (Rd.mono e h) a b (Rps.mono e r)
theorem Rps.mono (e : Same F F') : ∀ {vs : List V} {ds : List D}, Rps K F vs ds → Rps K F' vs ds
  | _, _, .nil => .nil
  | _, _, .cons h r => .cons (Rp.mono e h) (Rps.mono e r)
end
theorem Rps.length : ∀ {vs : List V} {ds : List D}, Rps K F vs ds → vs.length = ds.length
  | _, _, .nil => rfl
  | _, _, .cons _ r => by rw [List.length_cons, List.length_cons, Rps.length r]
theorem Rps.get : ∀ {vs : List V} {ds : List D} {i : Nat} {d : D}, Rps K F vs ds → ds[i]? = some d → ∃ v, vs[i]? = some v ∧ Rp K F v d
  | _, _, _, _, .nil, e => by simp at e
  | _, _, 0, _, .cons h _, e => by simp at e; subst e; exact ⟨_, rfl, h⟩
  | _, _, i + 1, d, .cons _ r, e => by
    obtain ⟨v, h1, h2⟩ := Rps.get (i := i) (d := d) r (by simpa using e)
    exact ⟨v, by simpa using h1, h2⟩
theorem Rps.get' {vs : List V} {ds : List D} {i : Nat} {v : V} (r : Rps K F vs ds) (e : vs[i]? = some v) : ∃ d, ds[i]? = some d ∧ Rp K F v d := by
  have hi : i < ds.length := by rw [← r.length]; exact (List.getElem?_eq_some_iff.mp e).1
  obtain ⟨w, h1, h2⟩ := r.get (List.getElem?_eq_getElem hi)
  rw [e] at h1
  cases h1
  exact ⟨_, List.getElem?_eq_getElem hi, h2⟩
theorem Rps.append : ∀ {vs ws : List V} {ds es : List D}, Rps K F vs ds → Rps K F ws es → Rps K F (vs ++ ws) (ds ++ es)
  | _, _, _, _, .nil, s => s
  | _, _, _, _, .cons h r, s => .cons h (Rps.append r s)
theorem Rps.take : ∀ {vs : List V} {ds : List D} (n : Nat), Rps K F vs ds → Rps K F (vs.take n) (ds.take n)
  | _, _, 0, _ => .nil
  | _, _, _ + 1, .nil => .nil
  | _, _, n + 1, .cons h r => .cons h (Rps.take n r)
theorem Rps.drop : ∀ {vs : List V} {ds : List D} (n : Nat), Rps K F vs ds → Rps K F (vs.drop n) (ds.drop n)
  | _, _, 0, r => r
  | _, _, _ + 1, .nil => .nil
  | _, _, n + 1, .cons _ r => Rps.drop n r
theorem Rps.set {v : V} {d : D} (h : Rp K F v d) : ∀ {vs : List V} {ds : List D} (i : Nat), Rps K F vs ds → Rps K F (vs.set i v) (ds.set i d)
  | _, _, _, .nil => .nil
  | _, _, 0, .cons _ r => .cons h r
  | _, _, i + 1, .cons g r => .cons g (Rps.set h i r)
theorem Rps.erase : ∀ {vs : List V} {ds : List D} (i : Nat), Rps K F vs ds → Rps K F (vs.eraseIdx i) (ds.eraseIdx i)
  | _, _, _, .nil => .nil
  | _, _, 0, .cons _ r => r
  | _, _, i + 1, .cons g r => .cons g (Rps.erase i r)
theorem Rps.reverse : ∀ {vs : List V} {ds : List D}, Rps K F vs ds → Rps K F vs.reverse ds.reverse
  | _, _, .nil => .nil
  | _, _, .cons g r => by rw [List.reverse_cons, List.reverse_cons]; exact (Rps.reverse r).append (.cons g .nil)
theorem Rps.flatten_rep {vs : List V} {ds : List D} (r : Rps K F vs ds) : ∀ n : Nat, Rps K F (List.replicate n vs).flatten (List.replicate n ds).flatten
  | 0 => .nil
  | n + 1 => by rw [List.replicate_succ, List.replicate_succ, List.flatten_cons, List.flatten_cons]; exact r.append (Rps.flatten_rep r n)
theorem Rps.intsD : ∀ {vs : List V} {ds : List D} {ns : List Int}, Rps K F vs ds → SL.intsD ds = some ns → vs = ns.map V.int ∧ ds = ns.map D.int
  | _, _, ns, .nil, e => by
    have e' : ns = [] := by simpa [SL.intsD] using e.symm
    subst e'; exact ⟨rfl, rfl⟩
  | _, d :: ds, ns, .cons h r, e => by
    cases d with
    | int i =>
      cases h
      cases q : SL.intsD ds with
      | none => simp [SL.intsD, SL.asInt] at e q; simp [q] at e
      | some ms =>
        have e' : i :: ms = ns := by
          have q' : List.mapM SL.asInt ds = some ms := q
          simpa [SL.intsD, SL.asInt, q'] using e
        subst e'
        obtain ⟨e1, e2⟩ := Rps.intsD r q
        exact ⟨by rw [e1]; rfl, by rw [e2]; rfl⟩
    | _ => simp [SL.intsD, SL.asInt] at e
theorem Rps.bools : ∀ {vs : List V} {ds : List D} {ns : List Bool}, Rps K F vs ds → SL.bools ds = some ns → vs = ns.map V.bl
  | _, _, ns, .nil, e => by
    have e' : ns = [] := by simpa [SL.bools] using e.symm
    subst e'; rfl
  | _, d :: ds, ns, .cons h r, e => by
    cases d with
    | bl i =>
      cases h
      cases q : SL.bools ds with
      | none => simp [SL.bools, SL.asBool] at e q; simp [q] at e
      | some ms =>
        have q' : List.mapM SL.asBool ds = some ms := q
        have e' : i :: ms = ns := by simpa [SL.bools, SL.asBool, q'] using e
        subst e'
        rw [Rps.bools r q]; rfl
    | _ => simp [SL.bools, SL.asBool] at e
theorem Rps.of_map {α : Type} {f : α → V} {g : α → D} (h : ∀ a, Rp K F (f a) (g a)) : ∀ l : List α, Rps K F (l.map f) (l.map g)
  | [] => .nil
  | a :: l => .cons (h a) (Rps.of_map h l)
end

/-- the object o is the list or dict d -/
def Ow (K : PySem.W.Frag) (F : Hp) (o : HO) : D → Prop
  | .lst ds => ∃ xs, o = .lst xs ∧ Rps K F xs ds
  | .dct false ks vs => ∃ kvs is, o = .dK kvs ∧ kvs.map (·.1) = hI is ∧ ks = kI is ∧ Rps K F (kvs.map (·.2)) vs
  | .dct true ks vs => ∃ kvs is, o = .dT kvs ∧ kvs.map (·.1) = hT is ∧ ks = kT is ∧ Rps K F (kvs.map (·.2)) vs
  | _ => False
theorem Ow.mono {K : PySem.W.Frag} {F F' : Hp} (e : Same F F') {o : HO} : ∀ {d : D}, Ow K F o d → Ow K F' o d
  | .lst _, ⟨xs, h, r⟩ => ⟨xs, h, r.mono e⟩
  | .dct false _ _, ⟨a, b, c, d, f, r⟩ => ⟨a, b, c, d, f, r.mono e⟩
  | .dct true _ _, ⟨a, b, c, d, f, r⟩ => ⟨a, b, c, d, f, r.mono e⟩
  | .non, h => h.elim
  | .bl _, h => h.elim
  | .int _, h => h.elim
  | .str _, h => h.elim
  | .tup _, h => h.elim
  | .wr _, h => h.elim
theorem Ow.mut {K : PySem.W.Frag} {F : Hp} {o : HO} : ∀ {d : D}, Ow K F o d → Mut (some o)
  | .lst _, ⟨_, h, _⟩ => by subst h; trivial
  | .dct false _ _, ⟨_, _, h, _⟩ => by subst h; trivial
  | .dct true _ _, ⟨_, _, h, _⟩ => by subst h; trivial
  | .non, h => h.elim
  | .bl _, h => h.elim
  | .int _, h => h.elim
  | .str _, h => h.elim
  | .tup _, h => h.elim
  | .wr _, h => h.elim
/-- a tracked object of F that is a list or dict is a datum -/
theorem Ow.rp {K : PySem.W.Frag} {F : Hp} {p : Addr} {o : HO} (e : F p = some o) : ∀ {d : D}, Ow K F o d → Rp K F (.ref p) d
  | .lst _, ⟨_, h, r⟩ => by subst h; exact .lst (.inl (.inl e)) r
  | .dct false _ _, ⟨_, _, h, a, b, r⟩ => by subst h; exact .dK (.inl e) a b r
  | .dct true _ _, ⟨_, _, h, a, b, r⟩ => by subst h; exact .dT (.inl e) a b r
  | .non, h => h.elim
  | .bl _, h => h.elim
  | .int _, h => h.elim
  | .str _, h => h.elim
  | .tup _, h => h.elim
  | .wr _, h => h.elim

/-- what stays through a call: the shared part at the entry, what is not this frame's to change, where the lent things are -/
structure Cfg where
  F0 : Hp
  B : Hp
  br : Nat → Option V
  lk : Nat → Option D

def OwnAt (K : PySem.W.Frag) (F B H : Hp) (v : V) (d : D) : Prop := ∃ p o, v = .ref p ∧ F p = none ∧ B p = none ∧ H p = some o ∧ Ow K F o d
def SlotOk (K : PySem.W.Frag) (F B H : Hp) (b v : Option V) (l : Option D) : Slot → Prop
  | .no => True
  | .sh d => ∃ x, v = some x ∧ Rp K F x d
  | .mu d => ∃ x, v = some x ∧ OwnAt K F B H x d
  | .lk d => ∃ x, v = some x ∧ OwnAt K F B H x d ∧ l = some d
  | .br d => ∃ x, v = some x ∧ OwnAt K F B H x d ∧ b = some x
def owned : Slot → Prop
  | .mu _ => True
  | .lk _ => True
  | .br _ => True
  | _ => False
structure Fs (K : PySem.W.Frag) (C : Cfg) (F H : Hp) (vs : List (Option V)) (ρ : List Slot) : Prop where
  sub : Same F H
  old : Same C.F0 F
  frm : Same C.B H
  grow : ∀ b o, F b = some o → C.F0 b = some o ∨ C.B b = none
  len : vs.length = ρ.length
  slot : ∀ i s, ρ[i]? = some s → SlotOk K F C.B H (C.br i) ((vs[i]?).join) (C.lk i) s
  inj : ∀ (i j : Nat) (s t : Slot) (p : Addr), ρ[i]? = some s → ρ[j]? = some t → owned s → owned t → (vs[i]?).join = some (V.ref p) → (vs[j]?).join = some (V.ref p) → i = j

section
variable {K : PySem.W.Frag} {C : Cfg} {F F' H H' : Hp} {vs : List (Option V)} {ρ ρ' : List Slot}
theorem SlotOk.own_of {b v : Option V} {l : Option D} {B : Hp} {s : Slot} (h : SlotOk K F B H b v l s) (ho : owned s) : ∃ p o d, v = some (.ref p) ∧ F p = none ∧ B p = none ∧ H p = some o ∧ Ow K F o d ∧ (s = .mu d ∨ (s = .lk d ∧ l = some d) ∨ (s = .br d ∧ b = v)) := by
  cases s with
  | mu d => obtain ⟨x, e, p, o, e2, r⟩ := h; subst e2; exact ⟨p, o, d, e, r.1, r.2.1, r.2.2.1, r.2.2.2, .inl rfl⟩
  | lk d => obtain ⟨x, e, ⟨p, o, e2, r⟩, q⟩ := h; subst e2; exact ⟨p, o, d, e, r.1, r.2.1, r.2.2.1, r.2.2.2, .inr (.inl ⟨rfl, q⟩)⟩
  | br d => obtain ⟨x, e, ⟨p, o, e2, r⟩, q⟩ := h; subst e2; exact ⟨p, o, d, e, r.1, r.2.1, r.2.2.1, r.2.2.2, .inr (.inr ⟨rfl, q.trans e.symm⟩)⟩
  | no => exact ho.elim
  | sh d => exact ho.elim
/-- the heap has moved on; P: what may have changed of one's own -/
theorem Fs.turn (s : Fs K C F H vs ρ) (P : Addr → Prop) (hH : ∀ b o, H b = some o → ¬ P b → H' b = some o) (hF : Same F F') (hS : Same F' H') (hB : Same C.B H') (hn : ∀ b o, F' b = some o → F b = some o ∨ H b = none ∨ (P b ∧ C.B b = none))
    (hl : ρ'.length = ρ.length)
    (hs : ∀ i s', ρ'[i]? = some s' → ∃ t, ρ[i]? = some t ∧ (s' = .no ∨ (s' = t ∧ ∀ p, owned t → (vs[i]?).join = some (V.ref p) → ¬ P p) ∨ (owned t ∧ owned s' ∧ SlotOk K F' C.B H' (C.br i) ((vs[i]?).join) (C.lk i) s'))) : Fs K C F' H' vs ρ' := by
  refine ⟨hS, fun b o e => hF _ _ (s.old _ _ e), hB, fun b o e => ?_, s.len.trans hl.symm, fun i s' e => ?_, fun i j s' t' p e1 e2 o1 o2 v1 v2 => ?_⟩
  · rcases hn b o e with h | h | ⟨_, h⟩
    · exact s.grow b o h
    rotate_left
    · exact .inr h
    · refine .inr ?_
      cases q : C.B b with
      | none => rfl
      | some u => rw [s.frm _ _ q] at h; cases h
  · obtain ⟨t, et, h⟩ := hs i s' e
    rcases h with h | ⟨h, hp⟩ | ⟨_, _, h⟩
    · subst h; trivial
    · subst h
      have q := s.slot i s' et
      have go : ∀ {x : V} {d : D}, (vs[i]?).join = some x → owned s' → OwnAt K F C.B H x d → OwnAt K F' C.B H' x d := fun {x d} ex ow ⟨p, o, e1, f1, b1, h1, r1⟩ => by
        subst e1
        have np := hp p ow ex
        refine ⟨p, o, rfl, ?_, b1, hH p o h1 np, r1.mono hF⟩
        cases z : F' p with
        | none => rfl
        | some u =>
          rcases hn p u z with z | z | z
          · rw [f1] at z; cases z
          · rw [h1] at z; cases z
          · exact absurd z.1 np
      cases s' with
      | no => trivial
      | sh d => obtain ⟨x, e1, r⟩ := q; exact ⟨x, e1, r.mono hF⟩
      | mu d => obtain ⟨x, e1, r⟩ := q; exact ⟨x, e1, go e1 trivial r⟩
      | lk d => obtain ⟨x, e1, r, z⟩ := q; exact ⟨x, e1, go e1 trivial r, z⟩
      | br d => obtain ⟨x, e1, r, z⟩ := q; exact ⟨x, e1, go e1 trivial r, z⟩
    · exact h
  · obtain ⟨t1, g1, h1⟩ := hs i s' e1
    obtain ⟨t2, g2, h2⟩ := hs j t' e2
    have w1 : owned t1 := by
      rcases h1 with h | ⟨h, _⟩ | ⟨h, _, _⟩
      · subst h; exact o1.elim
      · exact h ▸ o1
      · exact h
    have w2 : owned t2 := by
      rcases h2 with h | ⟨h, _⟩ | ⟨h, _, _⟩
      · subst h; exact o2.elim
      · exact h ▸ o2
      · exact h
    exact s.inj i j t1 t2 p g1 g2 w1 w2 v1 v2
/-- all that stood stands -/
theorem Fs.ext (s : Fs K C F H vs ρ) (hH : Same H H') (hF : Same F F') (hS : Same F' H') (hn : ∀ b o, F' b = some o → F b = some o ∨ H b = none) : Fs K C F' H' vs ρ :=
  s.turn (fun _ => False) (fun b o e _ => hH b o e) hF hS (fun b o e => hH _ _ (s.frm _ _ e)) (fun b o e => (hn b o e).elim .inl fun h => .inr (.inl h)) rfl fun i s' e => ⟨s', e, .inr (.inl ⟨rfl, fun _ _ _ h => h⟩)⟩
/-- a new object beside -/
theorem Fs.junk (s : Fs K C F H vs ρ) {q : Addr} {o : HO} (hq : H q = none) : Fs K C F (L2.upd H q o) vs ρ :=
  s.ext (fun b u e => by rw [upd_ne (ne_of_none e hq)]; exact e) (Same.refl F) (fun b u e => by rw [upd_ne (ne_of_none (s.sub _ _ e) hq)]; exact s.sub _ _ e) (fun b u e => .inl e)
theorem same_upd {H : Hp} {q : Addr} {o : HO} (hq : H q = none) : Same H (L2.upd H q o) := fun b u e => by rw [upd_ne (ne_of_none e hq)]; exact e
theorem Fs.fnone (s : Fs K C F H vs ρ) {q : Addr} (hq : H q = none) : F q = none := Same.free s.sub hq
theorem Fs.bnone (s : Fs K C F H vs ρ) {q : Addr} (hq : H q = none) : C.B q = none := Same.free s.frm hq
/-- a new thing that is shared -/
theorem Fs.share (s : Fs K C F H vs ρ) {q : Addr} {o : HO} (hq : H q = none) : Fs K C (L2.upd F q o) (L2.upd H q o) vs ρ :=
  s.ext (same_upd hq) (same_upd (s.fnone hq)) (fun b u e => by
    by_cases hb : b = q
    · subst hb; rw [upd_same] at e ⊢; exact e
    · rw [upd_ne hb] at e ⊢; exact s.sub _ _ e) fun b u e => by
    by_cases hb : b = q
    · subst hb; exact .inr hq
    · rw [upd_ne hb] at e; exact .inl e
/-- a new list or dict of one's own, as a last slot -/
theorem Fs.new (s : Fs K C F H vs ρ) {q : Addr} {o : HO} {d : D} (hq : H q = none) (ho : Ow K F o d) : Fs K C F (L2.upd H q o) (vs ++ [some (.ref q)]) (ρ ++ [.mu d]) := by
  have s1 := s.junk (o := o) hq
  have up : ∀ (i : Nat), i < vs.length → (vs ++ [some (V.ref q)])[i]? = vs[i]? := fun i h => List.getElem?_append_left h
  have lw : ∀ {i : Nat} {t : Slot}, (ρ ++ [Slot.mu d])[i]? = some t → (i < vs.length ∧ ρ[i]? = some t) ∨ (i = vs.length ∧ t = .mu d) := fun {i t} e => by
    by_cases h : i < ρ.length
    · rw [List.getElem?_append_left h] at e
      exact .inl ⟨by rw [s.len]; exact h, e⟩
    · have h' : i = ρ.length := by
        have := (List.getElem?_eq_some_iff.mp e).1
        rw [List.length_append, List.length_singleton] at this
        omega
      subst h'
      rw [List.getElem?_append_right (Nat.le_refl _), Nat.sub_self] at e
      exact .inr ⟨s.len.symm, (Option.some.inj e).symm⟩
  have lastv : (vs ++ [some (V.ref q)])[vs.length]? = some (some (V.ref q)) := by simp
  refine ⟨s1.sub, s1.old, s1.frm, s1.grow, by simp [s.len], fun i t e => ?_, fun i j t u p e1 e2 o1 o2 v1 v2 => ?_⟩
  · rcases lw e with ⟨h, e'⟩ | ⟨h, e'⟩
    · rw [up i h]; exact s1.slot i t e'
    · subst h; subst e'
      rw [lastv]
      exact ⟨_, rfl, q, o, rfl, s.fnone hq, s.bnone hq, upd_same, ho⟩
  · have old : ∀ {i : Nat} {t : Slot}, ρ[i]? = some t → owned t → (vs[i]?).join = some (V.ref q) → False := fun {i t} e o v => by
      obtain ⟨p', o', d', e1, _, _, h1, _⟩ := (s.slot i t e).own_of o
      rw [v] at e1
      cases e1
      rw [hq] at h1; cases h1
    rcases lw e1 with ⟨h1, e1⟩ | ⟨h1, e1⟩ <;> rcases lw e2 with ⟨h2, e2⟩ | ⟨h2, e2⟩
    · rw [up i h1] at v1; rw [up j h2] at v2
      exact s.inj i j t u p e1 e2 o1 o2 v1 v2
    · subst h2
      rw [lastv] at v2
      cases v2
      rw [up i h1] at v1
      exact (old e1 o1 v1).elim
    · subst h1
      rw [lastv] at v1
      cases v1
      rw [up j h2] at v2
      exact (old e2 o2 v2).elim
    · rw [h1, h2]
/-- the slots behind are dropped -/
theorem Fs.drop {ts : List (Option V)} {τ : List Slot} (s : Fs K C F H (vs ++ ts) (ρ ++ τ)) (hl : vs.length = ρ.length) : Fs K C F H vs ρ := by
  have up : ∀ (i : Nat) {t : Slot}, ρ[i]? = some t → (ρ ++ τ)[i]? = some t ∧ (vs ++ ts)[i]? = vs[i]? := fun i t e => by
    have h := (List.getElem?_eq_some_iff.mp e).1
    exact ⟨by rw [List.getElem?_append_left h]; exact e, List.getElem?_append_left (by rw [hl]; exact h)⟩
  refine ⟨s.sub, s.old, s.frm, s.grow, hl, fun i t e => ?_, fun i j t u p e1 e2 o1 o2 v1 v2 => ?_⟩
  · have q := s.slot i t (up i e).1
    rw [(up i e).2] at q
    exact q
  · exact s.inj i j t u p (up i e1).1 (up j e2).1 o1 o2 (by rw [(up i e1).2]; exact v1) (by rw [(up j e2).2]; exact v2)
theorem getElem?_set_cases {α : Type} {l : List α} {i j : Nat} {x y : α} (e : (l.set i x)[j]? = some y) : (j = i ∧ y = x ∧ i < l.length) ∨ (j ≠ i ∧ l[j]? = some y) := by
  by_cases h : j = i
  · subst h
    have hl : j < l.length := by have := (List.getElem?_eq_some_iff.mp e).1; simpa using this
    rw [List.getElem?_set_self hl] at e
    exact .inl ⟨rfl, (Option.some.inj e).symm, hl⟩
  · rw [List.getElem?_set_ne (fun z => h z.symm)] at e
    exact .inr ⟨h, e⟩
/-- one's own thing at i becomes shared -/
theorem Fs.freeze (s : Fs K C F H vs ρ) {i : Nat} {d : D} (e : ρ[i]? = some (.mu d)) : ∃ F', Same F F' ∧ Fs K C F' H vs (ρ.set i (.sh d)) ∧ ∃ x, (vs[i]?).join = some x ∧ Rp K F' x d := by
  obtain ⟨x, ex, p, o, e2, f1, b1, h1, r1⟩ := s.slot i _ e
  subst e2
  have sf : Same F (L2.upd F p o) := same_upd f1
  have rp : Rp K (L2.upd F p o) (.ref p) d := (r1.mono sf).rp upd_same
  have hS : Same (L2.upd F p o) H := fun b u z => by
    by_cases hb : b = p
    · subst hb; rw [upd_same] at z; cases z; exact h1
    · rw [upd_ne hb] at z; exact s.sub _ _ z
  -- first the slot is forgotten
  have keep : ∀ (j : Nat) (t : Slot), j ≠ i → ρ[j]? = some t → SlotOk K (L2.upd F p o) C.B H (C.br j) ((vs[j]?).join) (C.lk j) t := fun j t hj ej => by
    have q := s.slot j t ej
    have go : ∀ {y : V} {d' : D}, (vs[j]?).join = some y → owned t → OwnAt K F C.B H y d' → OwnAt K (L2.upd F p o) C.B H y d' := fun {y d'} ey ow ⟨p', o', e1, f1', b1', h1', r1'⟩ => by
      subst e1
      refine ⟨p', o', rfl, ?_, b1', h1', r1'.mono sf⟩
      have np : p' ≠ p := fun z => by
        subst z
        exact hj (s.inj j i t _ p' ej e ow trivial ey ex)
      rw [upd_ne np]; exact f1'
    cases t with
    | no => trivial
    | sh d => obtain ⟨x, e1, r⟩ := q; exact ⟨x, e1, r.mono sf⟩
    | mu d => obtain ⟨x, e1, r⟩ := q; exact ⟨x, e1, go e1 trivial r⟩
    | lk d => obtain ⟨x, e1, r, z⟩ := q; exact ⟨x, e1, go e1 trivial r, z⟩
    | br d => obtain ⟨x, e1, r, z⟩ := q; exact ⟨x, e1, go e1 trivial r, z⟩
  refine ⟨L2.upd F p o, sf, ⟨hS, fun b u z => sf _ _ (s.old _ _ z), s.frm, fun b u z => ?_, by rw [List.length_set]; exact s.len, fun j t z => ?_, fun j k t u p' z1 z2 o1 o2 v1 v2 => ?_⟩, _, ex, rp⟩
  · by_cases hb : b = p
    · subst hb; exact .inr b1
    · rw [upd_ne hb] at z; exact s.grow b u z
  · rcases getElem?_set_cases z with ⟨h, h', _⟩ | ⟨h, h'⟩
    · subst h; subst h'; exact ⟨_, ex, rp⟩
    · exact keep j t h h'
  · rcases getElem?_set_cases z1 with ⟨h, h', _⟩ | ⟨h, h'⟩
    · subst h'; exact o1.elim
    · rcases getElem?_set_cases z2 with ⟨g, g', _⟩ | ⟨g, g'⟩
      · subst g'; exact o2.elim
      · exact s.inj j k t u p' h' g' o1 o2 v1 v2
/-- one's own thing at i is changed -/
theorem Fs.change (s : Fs K C F H vs ρ) {i : Nat} {t t' : Slot} {d' : D} {p : Addr} {o' : HO} (e : ρ[i]? = some t) (ow : owned t) (ev : (vs[i]?).join = some (.ref p)) (ho : Ow K F o' d')
    (ht : (∀ d, t = .mu d → t' = .mu d') ∧ (∀ d, t = .br d → t' = .br d') ∧ (∀ d, t ≠ .lk d)) : Fs K C F (L2.upd H p o') vs (ρ.set i t') := by
  obtain ⟨p', o, d, e1, f1, b1, h1, r1, k1⟩ := (s.slot i t e).own_of ow
  rw [ev] at e1
  cases e1
  have at' : OwnAt K F C.B (L2.upd H p o') (.ref p) d' := ⟨p, o', rfl, f1, b1, upd_same, ho⟩
  have ok' : SlotOk K F C.B (L2.upd H p o') (C.br i) ((vs[i]?).join) (C.lk i) t' ∧ owned t' := by
    rcases k1 with k | ⟨k, _⟩ | ⟨k, kb⟩
    · rw [ht.1 d k]; exact ⟨⟨_, ev, at'⟩, trivial⟩
    · exact absurd k (ht.2.2 d)
    · rw [ht.2.1 d k]; exact ⟨⟨_, ev, at', kb.trans ev⟩, trivial⟩
  refine s.turn (fun b => b = p) (fun b u z hb => by rw [upd_ne hb]; exact z) (Same.refl F) (fun b u z => ?_) (fun b u z => ?_) (fun b u z => .inl z) (by rw [List.length_set]) fun j s' z => ?_
  · rw [upd_ne (fun hb => by subst hb; rw [f1] at z; cases z)]; exact s.sub _ _ z
  · rw [upd_ne (fun hb => by subst hb; rw [b1] at z; cases z)]; exact s.frm _ _ z
  · rcases getElem?_set_cases z with ⟨h, h', _⟩ | ⟨h, h'⟩
    · subst h; subst h'
      exact ⟨t, e, .inr (.inr ⟨ow, ok'.2, ok'.1⟩)⟩
    · exact ⟨s', h', .inr (.inl ⟨rfl, fun p' ow' ev' hp => by subst hp; exact h (s.inj j i s' t p' h' e ow' ow ev' ev)⟩)⟩
/-- a name is stored: a shared thing -/
theorem Fs.putSh (s : Fs K C F H vs ρ) {i : Nat} {v : V} {d : D} (r : Rp K F v d) : Fs K C F H (vs.set i (some v)) (ρ.set i (.sh d)) := by
  refine ⟨s.sub, s.old, s.frm, s.grow, by rw [List.length_set, List.length_set]; exact s.len, fun j t z => ?_, fun j k t u p z1 z2 o1 o2 v1 v2 => ?_⟩
  · rcases getElem?_set_cases z with ⟨h, h', hl⟩ | ⟨h, h'⟩
    · subst h; subst h'
      rw [List.getElem?_set_self (by rw [s.len]; exact hl)]
      exact ⟨v, rfl, r⟩
    · rw [List.getElem?_set_ne (fun z => h z.symm)]
      exact s.slot j t h'
  · rcases getElem?_set_cases z1 with ⟨h, h', _⟩ | ⟨h, h'⟩
    · subst h'; exact o1.elim
    · rcases getElem?_set_cases z2 with ⟨g, g', _⟩ | ⟨g, g'⟩
      · subst g'; exact o2.elim
      · rw [List.getElem?_set_ne (fun z => h z.symm)] at v1
        rw [List.getElem?_set_ne (fun z => g z.symm)] at v2
        exact s.inj j k t u p h' g' o1 o2 v1 v2
/-- a name's slot is forgotten -/
theorem Fs.forget (s : Fs K C F H vs ρ) {i : Nat} {v : Option V} : Fs K C F H (vs.set i v) (ρ.set i .no) := by
  refine ⟨s.sub, s.old, s.frm, s.grow, by rw [List.length_set, List.length_set]; exact s.len, fun j t z => ?_, fun j k t u p z1 z2 o1 o2 v1 v2 => ?_⟩
  · rcases getElem?_set_cases z with ⟨h, h', hl⟩ | ⟨h, h'⟩
    · subst h'; trivial
    · rw [List.getElem?_set_ne (fun z => h z.symm)]
      exact s.slot j t h'
  · rcases getElem?_set_cases z1 with ⟨h, h', _⟩ | ⟨h, h'⟩
    · subst h'; exact o1.elim
    · rcases getElem?_set_cases z2 with ⟨g, g', _⟩ | ⟨g, g'⟩
      · subst g'; exact o2.elim
      · rw [List.getElem?_set_ne (fun z => h z.symm)] at v1
        rw [List.getElem?_set_ne (fun z => g z.symm)] at v2
        exact s.inj j k t u p h' g' o1 o2 v1 v2
/-- the own thing at k moves to the name i -/
theorem Fs.move (s : Fs K C F H vs ρ) {i k : Nat} {v : V} {d : D} (hik : i ≠ k) (hi : i < ρ.length) (e : ρ[k]? = some (.mu d)) (ev : (vs[k]?).join = some v) : Fs K C F H (vs.set i (some v)) ((ρ.set i (.mu d)).set k .no) := by
  obtain ⟨x, ex, at'⟩ := s.slot k _ e
  rw [ev] at ex
  cases ex
  have cs : ∀ {j : Nat} {t : Slot}, ((ρ.set i (.mu d)).set k .no)[j]? = some t → (j = k ∧ t = .no) ∨ (j = i ∧ t = .mu d) ∨ (j ≠ k ∧ j ≠ i ∧ ρ[j]? = some t) := fun {j t} z => by
    rcases getElem?_set_cases z with ⟨h, h', _⟩ | ⟨h, h'⟩
    · exact .inl ⟨h, h'⟩
    · rcases getElem?_set_cases h' with ⟨g, g', _⟩ | ⟨g, g'⟩
      · exact .inr (.inl ⟨g, g'⟩)
      · exact .inr (.inr ⟨h, g, g'⟩)
  have vi : ((vs.set i (some v))[i]?).join = some v := by rw [List.getElem?_set_self (by rw [s.len]; exact hi)]; rfl
  have vj : ∀ {j : Nat}, j ≠ i → (vs.set i (some v))[j]? = vs[j]? := fun {j} h => List.getElem?_set_ne (fun z => h z.symm)
  refine ⟨s.sub, s.old, s.frm, s.grow, by rw [List.length_set, List.length_set, List.length_set]; exact s.len, fun j t z => ?_, fun j l t u p z1 z2 o1 o2 v1 v2 => ?_⟩
  · rcases cs z with ⟨h, h'⟩ | ⟨h, h'⟩ | ⟨h, g, h'⟩
    · subst h'; trivial
    · subst h; subst h'; exact ⟨v, vi, at'⟩
    · rw [vj g]; exact s.slot j t h'
  · rcases cs z1 with ⟨h, h'⟩ | ⟨h, h'⟩ | ⟨h, g, h'⟩
    · subst h'; exact o1.elim
    · rcases cs z2 with ⟨h2, h2'⟩ | ⟨h2, h2'⟩ | ⟨h2, g2, h2'⟩
      · subst h2'; exact o2.elim
      · rw [h, h2]
      · subst h; subst h'
        rw [vi] at v1; rw [vj g2] at v2
        exact (h2 (s.inj l k u _ p h2' e o2 trivial v2 (by rw [ev]; exact v1))).elim
    · rcases cs z2 with ⟨h2, h2'⟩ | ⟨h2, h2'⟩ | ⟨h2, g2, h2'⟩
      · subst h2'; exact o2.elim
      · subst h2; subst h2'
        rw [vi] at v2; rw [vj g] at v1
        exact (h (s.inj j k t _ p h' e o1 trivial v1 (by rw [ev]; exact v2))).elim
      · rw [vj g] at v1; rw [vj g2] at v2
        exact s.inj j l t u p h' h2' o1 o2 v1 v2
/-- what stands in a slot, read -/
theorem Fs.val (s : Fs K C F H vs ρ) {i : Nat} {d : D} (e : SL.cont (SL.look ρ i) = some d) : ∃ x t, (vs[i]?).join = some x ∧ ρ[i]? = some t ∧ SL.look ρ i = t ∧ ((t = .sh d ∧ Rp K F x d) ∨ (owned t ∧ ∃ p o, x = .ref p ∧ F p = none ∧ H p = some o ∧ Ow K F o d)) := by
  unfold SL.look at e ⊢
  cases q : ρ[i]? with
  | none => rw [List.getD_eq_getElem?_getD, q] at e; cases e
  | some t =>
    rw [List.getD_eq_getElem?_getD, q] at e ⊢
    have z := s.slot i t q
    cases t with
    | no => cases e
    | sh d' => cases e; obtain ⟨x, e1, r⟩ := z; exact ⟨x, _, e1, rfl, rfl, .inl ⟨rfl, r⟩⟩
    | mu d' => cases e; obtain ⟨x, e1, p, o, e2, f, _, h, r⟩ := z; exact ⟨x, _, e1, rfl, rfl, .inr ⟨trivial, p, o, e2, f, h, r⟩⟩
    | lk d' => cases e; obtain ⟨x, e1, ⟨p, o, e2, f, _, h, r⟩, _⟩ := z; exact ⟨x, _, e1, rfl, rfl, .inr ⟨trivial, p, o, e2, f, h, r⟩⟩
    | br d' => cases e; obtain ⟨x, e1, ⟨p, o, e2, f, _, h, r⟩, _⟩ := z; exact ⟨x, _, e1, rfl, rfl, .inr ⟨trivial, p, o, e2, f, h, r⟩⟩
end
end SLS

/-! ## S2 -/
set_option Elab.async false
set_option linter.all false
set_option autoImplicit false
set_option maxRecDepth 100000
/-! Soundness 2: readings of expressions. -/
namespace SLS
open PySem PySem.Spec PyProof.Rows L2
open SL (D Slot PV Res)

/-- what is read as the datum d just now: its items are in F -/
def Cn (K : PySem.W.Frag) (F H : Hp) (x : V) : D → Prop
  | .non => x = .non
  | .bl b => x = .bl b
  | .int i => x = .int i
  | .str s => x = .str (S s)
  | .tup ds => ∃ a xs, x = .ref a ∧ H a = some (.tup xs) ∧ Rps K F xs ds ∧ F a = some (.tup xs)
  | .wr ds => ∃ a xs, x = .ref a ∧ SqK K a xs ∧ Rps K F xs ds
  | .lst ds => ∃ a xs, x = .ref a ∧ SqL K H a xs ∧ Rps K F xs ds
  | .dct false ks vs => ∃ a kvs is, x = .ref a ∧ Rd H a (.dK kvs) ∧ kvs.map (·.1) = hI is ∧ ks = kI is ∧ Rps K F (kvs.map (·.2)) vs
  | .dct true ks vs => ∃ a kvs is, x = .ref a ∧ Rd H a (.dT kvs) ∧ kvs.map (·.1) = hT is ∧ ks = kT is ∧ Rps K F (kvs.map (·.2)) vs
section
variable {K : PySem.W.Frag} {F F' H H' : Hp}
theorem Rp.cn (e : Same F H) {x : V} {d : D} (r : Rp K F x d) : Cn K F H x d := by
  cases r with
  | non => rfl
  | bl b => rfl
  | int i => rfl
  | str s => rfl
  | tup h r => exact ⟨_, _, rfl, e _ _ h, r, h⟩
  | wr h r => exact ⟨_, _, rfl, h, r⟩
  | lst h r => exact ⟨_, _, rfl, e.seq h, r⟩
  | dK h a b r => exact ⟨_, _, _, rfl, Rd.mono e h, a, b, r⟩
  | dT h a b r => exact ⟨_, _, _, rfl, Rd.mono e h, a, b, r⟩
theorem Ow.cn {p : Addr} {o : HO} (h : H p = some o) {d : D} (r : Ow K F o d) : Cn K F H (.ref p) d := by
  cases d with
  | lst ds => obtain ⟨xs, e, r⟩ := r; subst e; exact ⟨p, xs, rfl, .inl (.inl h), r⟩
  | dct t ks vs =>
    cases t with
    | false => obtain ⟨kvs, is, e, r⟩ := r; subst e; exact ⟨p, kvs, is, rfl, .inl h, r⟩
    | true => obtain ⟨kvs, is, e, r⟩ := r; subst e; exact ⟨p, kvs, is, rfl, .inl h, r⟩
  | _ => exact r.elim
end

/-- the frame's state with what is held besides -/
structure At (K : PySem.W.Frag) (C : Cfg) (F H : Hp) (σ ts : List (Option V)) (ρ τ : List Slot) : Prop where
  fs : Fs K C F H (σ ++ ts) (ρ ++ τ)
  len : σ.length = ρ.length
section
variable {K : PySem.W.Frag} {C : Cfg} {F F' H H' : Hp} {σ ts : List (Option V)} {ρ ρ' τ : List Slot}
theorem At.lenT (a : At K C F H σ ts ρ τ) : ts.length = τ.length := by
  have h := a.fs.len
  have h2 := a.len
  rw [List.length_append, List.length_append] at h
  omega
theorem At.of (f : Fs K C F H (σ ++ ts) (ρ' ++ τ)) (h : ts.length = τ.length) : At K C F H σ ts ρ' τ := ⟨f, by
  have q := f.len
  rw [List.length_append, List.length_append] at q
  omega⟩
theorem At.bare (f : Fs K C F H σ ρ) : At K C F H σ [] ρ [] := ⟨by rw [List.append_nil, List.append_nil]; exact f, f.len⟩
theorem At.fs0 (a : At K C F H σ [] ρ []) : Fs K C F H σ ρ := by
  have f := a.fs
  rw [List.append_nil, List.append_nil] at f
  exact f
theorem look_app {i : Nat} (h : i < ρ.length) : SL.look (ρ ++ τ) i = SL.look ρ i := by
  unfold SL.look
  rw [List.getD_eq_getElem?_getD, List.getD_eq_getElem?_getD, List.getElem?_append_left h]
theorem look_lt {i : Nat} {d : D} (h : SL.cont (SL.look ρ i) = some d) : i < ρ.length := by
  by_cases q : i < ρ.length
  · exact q
  · unfold SL.look at h
    rw [List.getD_eq_getElem?_getD, List.getElem?_eq_none (by omega)] at h
    cases h
theorem look_some {i : Nat} {s : Slot} (h : ρ[i]? = some s) : SL.look ρ i = s := by
  unfold SL.look
  rw [List.getD_eq_getElem?_getD, h]
  rfl
theorem look_get {i : Nat} (h : i < ρ.length) : ρ[i]? = some (SL.look ρ i) := by
  unfold SL.look
  rw [List.getD_eq_getElem?_getD, List.getElem?_eq_getElem h]
  rfl
theorem look_own {i : Nat} {s : Slot} (h : SL.look ρ i = s) (hs : s ≠ .no) : ρ[i]? = some s := by
  by_cases q : i < ρ.length
  · rw [look_get q, h]
  · exfalso
    apply hs
    rw [← h]
    unfold SL.look
    rw [List.getD_eq_getElem?_getD, List.getElem?_eq_none (by omega)]
    rfl

/-- what a value is behind its expression -/
def Post (K : PySem.W.Frag) (C : Cfg) (σ ts : List (Option V)) (ρ τ : List Slot) (p : PV) (v : V) (F H : Hp) : Prop :=
  match p with
  | .slot i => (σ[i]?).join = some v ∧ At K C F H σ ts ρ τ
  | .sh d => Rp K F v d ∧ At K C F H σ ts ρ τ
  | .mu d => At K C F H σ (ts ++ [some v]) ρ (τ ++ [.mu d])
/-- an operand: what is new is shared by now -/
def Opd (K : PySem.W.Frag) (F : Hp) (σ : List (Option V)) (v : V) : PV → Prop
  | .slot i => (σ[i]?).join = some v
  | .sh d => Rp K F v d
  | .mu d => Rp K F v d
theorem Opd.mono (e : Same F F') {v : V} {p : PV} (h : Opd K F σ v p) : Opd K F' σ v p := by
  cases p with
  | slot i => exact h
  | sh d => exact Rp.mono e h
  | mu d => exact Rp.mono e h
theorem Fs.append_last {vs : List (Option V)} {v : V} {d : D} (s : Fs K C F H (vs ++ [some v]) (ρ ++ [.mu d])) (hl : vs.length = ρ.length) : ∃ F', Same F F' ∧ Fs K C F' H vs ρ ∧ Rp K F' v d := by
  have e : (ρ ++ [Slot.mu d])[ρ.length]? = some (.mu d) := by simp
  obtain ⟨F', sf, s', x, ex, r⟩ := s.freeze e
  have ev : (vs ++ [some v])[ρ.length]? = some (some v) := by rw [← hl]; simp
  rw [ev] at ex
  cases ex
  refine ⟨F', sf, ?_, r⟩
  have e2 : (ρ ++ [Slot.mu d]).set ρ.length (.sh d) = ρ ++ [.sh d] := by
    rw [List.set_append_right _ _ (Nat.le_refl _)]
    simp
  rw [e2] at s'
  exact s'.drop hl
theorem Post.opd {p : PV} {v : V} (h : Post K C σ ts ρ τ p v F H) : ∃ F', Same F F' ∧ At K C F' H σ ts ρ τ ∧ Opd K F' σ v p := by
  cases p with
  | slot i => exact ⟨F, Same.refl F, h.2, h.1⟩
  | sh d => exact ⟨F, Same.refl F, h.2, h.1⟩
  | mu d =>
    have f := h.fs
    rw [← List.append_assoc, ← List.append_assoc] at f
    have hl := f.len
    rw [List.length_append, List.length_append, List.length_append (as := ρ ++ τ)] at hl
    obtain ⟨F', sf, s', r⟩ := Fs.append_last f (by simpa using hl)
    exact ⟨F', sf, ⟨s', h.len⟩, r⟩
/-- an operand as the datum that it is just now -/
theorem Opd.cn {p : PV} {v : V} {d : D} (o : Opd K F σ v p) (a : At K C F H σ ts ρ τ) (e : SL.peek ρ p = some d) : Cn K F H v d := by
  cases p with
  | slot i =>
    have e' : SL.cont (SL.look ρ i) = some d := e
    have hi := look_lt e'
    rw [← look_app (τ := τ) hi] at e'
    obtain ⟨x, t, ex, et, _, h⟩ := a.fs.val e'
    rw [List.getElem?_append_left (by rw [a.len]; exact hi)] at ex
    have o' : (σ[i]?).join = some v := o
    rw [o'] at ex
    cases ex
    rcases h with ⟨_, r⟩ | ⟨_, p, o, e2, f, h, r⟩
    · exact r.cn a.fs.sub
    · subst e2; exact r.cn h
  | sh d' => cases e; exact Rp.cn a.fs.sub o
  | mu d' => cases e; exact Rp.cn a.fs.sub o
/-- .. to be kept -/
theorem Opd.frz {p : PV} {v : V} {d : D} {ρ' : List Slot} (o : Opd K F σ v p) (a : At K C F H σ ts ρ τ) (e : SL.frz ρ p = some (d, ρ')) : ∃ F', Same F F' ∧ At K C F' H σ ts ρ' τ ∧ Rp K F' v d := by
  cases p with
  | slot i =>
    have e : (match SL.look ρ i with | .sh d => some (d, ρ) | .mu d => some (d, ρ.set i (.sh d)) | _ => none) = some (d, ρ') := e
    have o' : (σ[i]?).join = some v := o
    cases q : SL.look ρ i with
    | sh d' =>
      rw [q] at e
      cases e
      have hi : i < ρ.length := look_lt (d := d) (by rw [q]; rfl)
      have z := a.fs.slot i (.sh d) (by rw [List.getElem?_append_left hi]; exact look_own q (fun z => nomatch z))
      obtain ⟨x, ex, r⟩ := z
      rw [List.getElem?_append_left (by rw [a.len]; exact hi), o'] at ex
      cases ex
      exact ⟨F, Same.refl F, a, r⟩
    | mu d' =>
      rw [q] at e
      cases e
      have hi : i < ρ.length := look_lt (d := d) (by rw [q]; rfl)
      obtain ⟨F', sf, s', x, ex, r⟩ := a.fs.freeze (i := i) (d := d) (by rw [List.getElem?_append_left hi]; exact look_own q (fun z => nomatch z))
      rw [List.getElem?_append_left (by rw [a.len]; exact hi), o'] at ex
      cases ex
      rw [List.set_append_left _ _ hi] at s'
      exact ⟨F', sf, ⟨s', by rw [List.length_set]; exact a.len⟩, r⟩
    | no => rw [q] at e; cases e
    | lk d' => rw [q] at e; cases e
    | br d' => rw [q] at e; cases e
  | sh d' => cases e; exact ⟨F, Same.refl F, a, o⟩
  | mu d' => cases e; exact ⟨F, Same.refl F, a, o⟩
theorem At.junk {q : Addr} {o : HO} (a : At K C F H σ ts ρ τ) (hq : H q = none) : At K C F (L2.upd H q o) σ ts ρ τ := ⟨a.fs.junk hq, a.len⟩
theorem At.share {q : Addr} {o : HO} (a : At K C F H σ ts ρ τ) (hq : H q = none) : At K C (L2.upd F q o) (L2.upd H q o) σ ts ρ τ := ⟨a.fs.share hq, a.len⟩
theorem At.new {q : Addr} {o : HO} {d : D} (a : At K C F H σ ts ρ τ) (hq : H q = none) (ho : Ow K F o d) : At K C F (L2.upd H q o) σ (ts ++ [some (.ref q)]) ρ (τ ++ [.mu d]) :=
  ⟨by rw [← List.append_assoc, ← List.append_assoc]; exact a.fs.new hq ho, a.len⟩
end

/-- what is wanted behind a step, by its outcome -/
def Out {α : Type} (E : XK) (cl : Nat → Value) (K : PySem.W.Frag) (C : Cfg) (σ ts : List (Option V)) (τ : List Slot) (F : Hp) (r : Res α) (ok : α → List Slot → Prop) : Prop :=
  match r with
  | .ok a ρ => ok a ρ
  | .exc k ρ => ∀ F' H', Same F F' → At K C F' H' σ ts ρ τ → E (cl k) none H'
  | .stuck => False
section
variable {α β : Type} {E : XK} {cl : Nat → Value} {K : PySem.W.Frag} {C : Cfg} {F F' H H' : Hp} {σ ts : List (Option V)} {ρ ρ' τ : List Slot} {ok ok' : α → List Slot → Prop} {r : Res α}
theorem Out.bind {f : α → List Slot → Res β} {ok : β → List Slot → Prop} (h : Out E cl K C σ ts τ F (r.bind f) ok) : Out E cl K C σ ts τ F r (fun a ρ => Out E cl K C σ ts τ F (f a ρ) ok) := by
  cases r with
  | ok a ρ => exact h
  | exc k ρ => exact h
  | stuck => exact h
theorem Out.bindI {f : α → List Slot → Res β} {ok : β → List Slot → Prop} (h : Out E cl K C σ ts τ F r (fun a ρ => Out E cl K C σ ts τ F (f a ρ) ok)) : Out E cl K C σ ts τ F (r.bind f) ok := by
  cases r with
  | ok a ρ => exact h
  | exc k ρ => exact h
  | stuck => exact h
theorem Out.imp (h : Out E cl K C σ ts τ F r ok) (f : ∀ a ρ, ok a ρ → ok' a ρ) : Out E cl K C σ ts τ F r ok' := by
  cases r with
  | ok a ρ => exact f a ρ h
  | exc k ρ => exact h
  | stuck => exact h
theorem Out.mono (h : Out E cl K C σ ts τ F r ok) (e : Same F F') : Out E cl K C σ ts τ F' r ok := by
  cases r with
  | ok a ρ => exact h
  | exc k ρ => exact fun F1 H1 s a => h F1 H1 (e.trans s) a
  | stuck => exact h
end

/-- an expression's reading -/
def RdE (E : XK) (cl : Nat → Value) (K : PySem.W.Frag) (r : List Slot → Res PV) : TE := fun σ H Q => ∃ C F ts ρ τ, At K C F H σ ts ρ τ ∧
  Out E cl K C σ ts τ F (r ρ) fun p ρ' => ∀ v F' H', Same F F' → Post K C σ ts ρ' τ p v F' H' → Q v H'
/-- a test's -/
def RdB (E : XK) (cl : Nat → Value) (K : PySem.W.Frag) (r : List Slot → Res Bool) : TT := fun σ H Q => ∃ C F ts ρ τ, At K C F H σ ts ρ τ ∧
  Out E cl K C σ ts τ F (r ρ) fun b ρ' => ∀ F' H', Same F F' → At K C F' H' σ ts ρ' τ → Q b H'
/-- .. of an expression whose value is kept -/
def RdZ (E : XK) (cl : Nat → Value) (K : PySem.W.Frag) (r : List Slot → Res D) : TE := fun σ H Q => ∃ C F ts ρ τ, At K C F H σ ts ρ τ ∧
  Out E cl K C σ ts τ F (r ρ) fun d ρ' => ∀ v F' H', Same F F' → At K C F' H' σ ts ρ' τ → Rp K F' v d → Q v H'
/-- .. of several that are kept -/
def RdL (E : XK) (cl : Nat → Value) (K : PySem.W.Frag) (r : List Slot → Res (List D)) : TA := fun σ H Q => ∃ C F ts ρ τ, At K C F H σ ts ρ τ ∧
  Out E cl K C σ ts τ F (r ρ) fun ds ρ' => ∀ vs F' H', Same F F' → At K C F' H' σ ts ρ' τ → Rps K F' vs ds → Q vs H'
/-- operands -/
inductive Opds (K : PySem.W.Frag) (F : Hp) (σ : List (Option V)) : List V → List PV → Prop
  | nil : Opds K F σ [] []
  | cons {v : V} {vs : List V} {p : PV} {ps : List PV} : Opd K F σ v p → Opds K F σ vs ps → Opds K F σ (v :: vs) (p :: ps)
theorem Opds.mono {K : PySem.W.Frag} {F F' : Hp} {σ : List (Option V)} (e : Same F F') : ∀ {vs : List V} {ps : List PV}, Opds K F σ vs ps → Opds K F' σ vs ps
  | _, _, .nil => .nil
  | _, _, .cons h r => .cons (h.mono e) (Opds.mono e r)
def RdP (E : XK) (cl : Nat → Value) (K : PySem.W.Frag) (r : List Slot → Res (List PV)) : TA := fun σ H Q => ∃ C F ts ρ τ, At K C F H σ ts ρ τ ∧
  Out E cl K C σ ts τ F (r ρ) fun ps ρ' => ∀ vs F' H', Same F F' → At K C F' H' σ ts ρ' τ → Opds K F' σ vs ps → Q vs H'

section
variable {X : Cx} {E : XK} {cl : Nat → Value} {e : Expr} {es : List Expr}
theorem PE.weak {t t' : TE} (h : PE X e t) (w : ∀ σ H Q, t' σ H Q → t σ H Q) : PE X e t' := ⟨fun pins s σ H Q I q => h.run pins s σ H Q I (w σ H Q q)⟩
theorem PT.weak {t t' : TT} (h : PT X e t) (w : ∀ σ H Q, t' σ H Q → t σ H Q) : PT X e t' := ⟨fun pins s σ H Q I q => h.run pins s σ H Q I (w σ H Q q)⟩
theorem PA.weak {t t' : TA} (h : PA X es t) (w : ∀ σ H Q, t' σ H Q → t σ H Q) : PA X es t' := ⟨fun pos pins s σ H Q I q => h.run pos pins s σ H Q I (w σ H Q q)⟩
theorem PS.weak {st : Stmt} {t t' : TS} (h : PS X st t) (w : ∀ D σ H, t' D σ H → t D σ H) : PS X st t' := ⟨fun pins s σ H D I q => h.run pins s σ H D I (w D σ H q)⟩
theorem PSs.weak {st : List Stmt} {t t' : TS} (h : PSs X st t) (w : ∀ D σ H, t' D σ H → t D σ H) : PSs X st t' := ⟨fun pins s σ H D I q => h.run pins s σ H D I (w D σ H q)⟩
/-- names -/
theorem e_var {i : Nat} {x : Str} {pos : Pos} (h : PE X (.Name x pos) (tVar i)) : PE X (.Name x pos) (RdE E cl X.K fun ρ => match SL.look ρ i with | .no => .stuck | _ => .ok (.slot i) ρ) := by
  refine PE.weak h fun σ H Q => ?_
  rintro ⟨C, F, ts, ρ, τ, a, o⟩
  have key : ∀ d, SL.cont (SL.look ρ i) = some d → (∀ v F' H', Same F F' → Post X.K C σ ts ρ τ (.slot i) v F' H' → Q v H') → tVar i σ H Q := fun d hd k => by
    have hi := look_lt hd
    rw [← look_app (τ := τ) hi] at hd
    obtain ⟨v, t, ev, _⟩ := a.fs.val hd
    have hs : i < σ.length := by rw [a.len]; exact hi
    rw [List.getElem?_append_left hs] at ev
    refine ⟨v, ?_, k v F H (Same.refl F) ⟨ev, a⟩⟩
    rw [List.getElem?_eq_getElem hs] at ev ⊢
    exact congrArg some ev
  cases q : SL.look ρ i with
  | no => simp only [q] at o; exact False.elim o
  | sh d => simp only [q] at o; exact key d (by rw [q]; rfl) o
  | mu d => simp only [q] at o; exact key d (by rw [q]; rfl) o
  | lk d => simp only [q] at o; exact key d (by rw [q]; rfl) o
  | br d => simp only [q] at o; exact key d (by rw [q]; rfl) o
/-- a constant -/
theorem e_cst {v : V} {d : D} (h : PE X e (tC v)) (r : ∀ F, Rp X.K F v d) : PE X e (RdE E cl X.K fun ρ => .ok (.sh d) ρ) :=
  PE.weak h fun σ H Q ⟨C, F, ts, ρ, τ, a, o⟩ => o v F H (Same.refl F) ⟨r F, a⟩
/-- an operand that is changed no more -/
theorem e_frz {r : List Slot → Res PV} (h : PE X e (RdE E cl X.K r)) : PE X e (RdZ E cl X.K fun ρ => SL.frzR (r ρ)) := by
  refine PE.weak h fun σ H Q ⟨C, F, ts, ρ, τ, a, o⟩ => ⟨C, F, ts, ρ, τ, a, o.bind.imp fun p ρ1 o1 v F1 H1 s1 p1 => ?_⟩
  obtain ⟨F2, s2, a2, w2⟩ := p1.opd
  cases q : SL.frz ρ1 p with
  | none => rw [q] at o1; exact o1.elim
  | some z =>
    obtain ⟨d, ρ2⟩ := z
    rw [q] at o1
    obtain ⟨F3, s3, a3, r3⟩ := w2.frz a2 q
    exact o1 v F3 H1 (s1.trans (s2.trans s3)) a3 r3
/-- a test -/
theorem e_test {r : List Slot → Res PV} (h : PE X e (RdE E cl X.K r)) : PE X e (fun σ H Q => RdB E cl X.K (fun ρ => SL.asB (r ρ)) σ H fun b H' => Q (.bl b) H') := by
  refine PE.weak h fun σ H Q ⟨C, F, ts, ρ, τ, a, o⟩ => ⟨C, F, ts, ρ, τ, a, o.bind.imp fun p ρ1 o1 v F1 H1 s1 p1 => ?_⟩
  obtain ⟨F2, s2, a2, w2⟩ := p1.opd
  cases q : SL.peek ρ1 p with
  | none => rw [q] at o1; exact o1.elim
  | some d =>
    rw [q] at o1
    have c := w2.cn a2 q
    cases d with
    | bl b =>
      have c' : v = .bl b := c
      subst c'
      exact o1 F2 H1 (s1.trans s2) a2
    | _ => exact o1.elim
end
end SLS

/-! ## S3 -/
set_option Elab.async false
set_option linter.all false
set_option autoImplicit false
set_option maxRecDepth 100000
/-! Soundness 3: operators and comparisons by values. -/
namespace SLS
open PySem PySem.Spec PyProof.Rows L2
open SL (D Slot PV Res)

mutual
def toP : D → PyData
  | .non => .none
  | .bl b => .bool b
  | .int i => .int i
  | .str x => .str (S x)
  | .tup ds => .tuple (toPs ds)
  | .lst ds => .list (toPs ds)
  | .dct _ _ _ => .none
  | .wr _ => .none
def toPs : List D → List PyData
  | [] => []
  | d :: ds => toP d :: toPs ds
end
theorem toPs_map : ∀ ds : List D, toPs ds = ds.map toP
  | [] => rfl
  | d :: ds => by rw [toPs, List.map_cons, toPs_map ds]
theorem S_inj {x y : List Nat} (h : S x = S y) : x = y := by
  have e : x.toArray = y.toArray := congrArg Str.cps h
  simpa using congrArg Array.toList e
theorem S_beq (x y : List Nat) : (S x == S y) = (x == y) := by
  by_cases h : x = y
  · subst h; simp
  · have h' : S x ≠ S y := fun e => h (S_inj e)
    rw [beq_eq_false_iff_ne.mpr h, beq_eq_false_iff_ne.mpr h']
mutual
theorem eqv_toP : ∀ a b : D, a.plain = true → b.plain = true → PyData.eqv (toP a) (toP b) = a.eqv b
  | .non, b, _, hb => by cases b <;> first | rfl | exact nomatch hb
  | .bl x, b, _, hb => by cases b <;> first | rfl | exact nomatch hb
  | .int x, b, _, hb => by cases b <;> first | rfl | exact nomatch hb
  | .str x, b, _, hb => by
    cases b with
    | str y => simp only [toP, PyData.eqv, SL.D.eqv]; exact S_beq _ _
    | dct _ _ _ => exact nomatch hb
    | wr _ => exact nomatch hb
    | _ => rfl
  | .tup xs, b, ha, hb => by
    cases b with
    | tup ys => simp only [toP, PyData.eqv, SL.D.eqv]; exact eqvs_toP xs ys ha hb
    | dct _ _ _ => exact nomatch hb
    | wr _ => exact nomatch hb
    | _ => rfl
  | .lst xs, b, ha, hb => by
    cases b with
    | lst ys => simp only [toP, PyData.eqv, SL.D.eqv]; exact eqvs_toP xs ys ha hb
    | dct _ _ _ => exact nomatch hb
    | wr _ => exact nomatch hb
    | _ => rfl
  | .dct _ _ _, _, ha, _ => nomatch ha
  | .wr _, _, ha, _ => nomatch ha
theorem eqvs_toP : ∀ a b : List D, D.plains a = true → D.plains b = true → PyData.eqvAll (toPs a) (toPs b) = D.eqvs a b
  | [], [], _, _ => rfl
  | [], _ :: _, _, _ => rfl
  | _ :: _, [], _, _ => rfl
  | x :: xs, y :: ys, ha, hb => by
    rw [D.plains, Bool.and_eq_true] at ha hb
    simp only [toPs, PyData.eqvAll, SL.D.eqvs]
    rw [eqv_toP x y ha.1 hb.1, eqvs_toP xs ys ha.2 hb.2]
end
mutual
theorem plain_toP : ∀ a : D, a.plain = true → (toP a).plain = true
  | .non, _ => rfl
  | .bl _, _ => rfl
  | .int _, _ => rfl
  | .str _, _ => rfl
  | .tup xs, h => plains_toP xs h
  | .lst xs, h => plains_toP xs h
  | .dct _ _ _, h => nomatch h
  | .wr _, h => nomatch h
theorem plains_toP : ∀ a : List D, D.plains a = true → PyData.plainAll (toPs a) = true
  | [], _ => rfl
  | x :: xs, h => by
    rw [D.plains, Bool.and_eq_true] at h
    simp only [toPs, PyData.plainAll, Bool.and_eq_true]
    exact ⟨plain_toP x h.1, plains_toP xs h.2⟩
end
mutual
theorem depth_toP : ∀ a : D, (toP a).depth ≤ a.depth
  | .non => Nat.le_refl _
  | .bl _ => Nat.le_refl _
  | .int _ => Nat.le_refl _
  | .str _ => Nat.le_refl _
  | .tup xs => by
    have h := depths_toP xs
    simp only [toP, PyData.depth, D.depth]
    omega
  | .lst xs => by
    have h := depths_toP xs
    simp only [toP, PyData.depth, D.depth]
    omega
  | .dct _ _ _ => Nat.le_refl _
  | .wr _ => Nat.le_refl _
theorem depths_toP : ∀ a : List D, PyData.depthAll (toPs a) ≤ D.depths a
  | [] => Nat.le_refl _
  | x :: xs => by
    have h := depth_toP x
    have h2 := depths_toP xs
    simp only [toPs, PyData.depthAll, D.depths]
    omega
end
theorem fine_plain {d : D} (h : d.fine = true) : d.plain = true := by
  unfold SL.D.fine at h
  rw [Bool.and_eq_true] at h
  exact h.1
theorem fine_depth {d : D} (h : d.fine = true) : (toP d).depth ≤ 60 := by
  unfold SL.D.fine at h
  rw [Bool.and_eq_true] at h
  have q := depth_toP d
  have z := of_decide_eq_true h.2
  omega

mutual
theorem Rp.dp {K : PySem.W.Frag} {F H : Hp} (e : Same F H) : ∀ {v : V} {d : D}, Rp K F v d → d.plain = true → Dp K H v (toP d)
  | _, _, .non, _ => .non
  | _, _, .bl b, _ => .bl b
  | _, _, .int i, _ => .int i
  | _, _, .str x, _ => .str _
  | _, _, .tup h r, p => .tup (.inl (.inl (e _ _ h))) (Rps.dp e r p)
  | _, _, .wr _ _, p => nomatch p
  | _, _, .lst h r, p => .lst (e.seq h) (Rps.dp e r p)
  | _, _, .dK _ _ _ _, p => nomatch p
  | _, _, .dT _ _ _ _, p => nomatch p
theorem Rps.dp {K : PySem.W.Frag} {F H : Hp} (e : Same F H) : ∀ {vs : List V} {ds : List D}, Rps K F vs ds → D.plains ds = true → DpAll K H vs (toPs ds)
  | _, _, .nil, _ => .nil
  | _, _, .cons h r, p => by
    rw [D.plains, Bool.and_eq_true] at p
    exact .cons (Rp.dp e h p.1) (Rps.dp e r p.2)
end
theorem Cn.dp {K : PySem.W.Frag} {F H : Hp} (e : Same F H) {v : V} {d : D} (c : Cn K F H v d) (p : d.plain = true) : Dp K H v (toP d) := by
  cases d with
  | non => obtain rfl : v = .non := c; exact .non
  | bl b => obtain rfl : v = .bl b := c; exact .bl b
  | int i => obtain rfl : v = .int i := c; exact .int i
  | str x => obtain rfl : v = .str (S x) := c; exact .str _
  | tup ds => obtain ⟨a, xs, rfl, h, r, _⟩ := c; exact .tup (.inl (.inl h)) (Rps.dp e r p)
  | wr _ => exact nomatch p
  | lst ds => obtain ⟨a, xs, rfl, h, r⟩ := c; exact .lst h (Rps.dp e r p)
  | dct _ _ _ => exact nomatch p

/-- a value made: an immediate one, or a new object -/
def Made (K : PySem.W.Frag) (F H : Hp) (p : PV) (v : V) (H' : Hp) : Prop :=
  match p with
  | .slot _ => False
  | .sh d => (H' = H ∧ Rp K F v d) ∨ ∃ q xs ds, H q = none ∧ v = .ref q ∧ H' = L2.upd H q (.tup xs) ∧ d = .tup ds ∧ Rps K F xs ds
  | .mu d => ∃ q o, H q = none ∧ v = .ref q ∧ H' = L2.upd H q o ∧ Ow K F o d
theorem Made.post {K : PySem.W.Frag} {C : Cfg} {F H H' : Hp} {σ ts : List (Option V)} {ρ τ : List Slot} {p : PV} {v : V} (a : At K C F H σ ts ρ τ) (m : Made K F H p v H') : ∃ F', Same F F' ∧ Post K C σ ts ρ τ p v F' H' := by
  cases p with
  | slot i => exact m.elim
  | sh d =>
    rcases m with ⟨rfl, r⟩ | ⟨q, xs, ds, hq, rfl, rfl, rfl, r⟩
    · exact ⟨F, Same.refl F, r, a⟩
    · have sf : Same F (L2.upd F q (.tup xs)) := same_upd (a.fs.fnone hq)
      exact ⟨_, sf, .tup upd_same (r.mono sf), a.share hq⟩
  | mu d =>
    obtain ⟨q, o, hq, rfl, rfl, r⟩ := m
    exact ⟨F, Same.refl F, a.new hq r⟩

def opOf : SL.Op → Operator
  | .add => .Add
  | .sub => .Sub
  | .mul => .Mult
  | .fdiv => .FloorDiv
  | .mod => .Mod
  | .pow => .Pow
def rBin (K : PySem.W.Frag) (o : SL.Op) : R2 := fun x y H Q => ∃ F dx dy p, Same F H ∧ Cn K F H x dx ∧ Cn K F H y dy ∧ SL.binop o dx dy = some p ∧ ∀ v H', Made K F H p v H' → Q v H'
theorem lim_line {n : Nat} (h : n ≤ SL.lim) : n ≤ sizeLine := Nat.le_trans h (by decide)
theorem bits_le (i : Int) : Builtin.Int.intBits i ≤ i.natAbs.log2 + 1 := by
  unfold Builtin.Int.intBits
  split <;> omega
theorem mul_ok {i j : Int} (h : SL.mulOk i j = true) : IntMulOk i j := by
  unfold SL.mulOk at h
  rw [Bool.or_eq_true, Bool.or_eq_true] at h
  rcases h with h | h | h
  · have h := of_decide_eq_true h
    exact CMul.ok (.inl ⟨by omega, by omega⟩)
  · have h := of_decide_eq_true h
    exact CMul.ok (.inr ⟨by omega, by omega⟩)
  · have h := of_decide_eq_true h
    have a := bits_le i
    have b := bits_le j
    exact CMulX.ok (by unfold CMulX; omega)
section
variable {X : Cx}
theorem tuple_mul1 (l : Addr) (items : Array Value) (n : Nat) (dd : Option Addr) (sl : Array (Option Value)) (u : Tok) :
    Meets (Builtin.«tuple.__mul__» ⟨[.ref l, .int 1 u], []⟩) (fun _ R s => s.heap.get? l = some { cls := .type "tuple", dict := dd, data := .seq items n, slots := sl } ∧ R (.ok (.ret (Value.ref l))) s) :=
  .of_wp fun prog w A R s h => by
    obtain ⟨hp, g, d, tk, os⟩ := s
    obtain ⟨hl, h⟩ := h
    have f1 := AutoSeq1.idx_int
    have c0 : (decide ((1 : Int) < -(2 ^ 63)) || decide ((1 : Int) ≥ 2 ^ 63)) = false := by decide
    have c1 : (items.isEmpty || (1 : Int) == 1) = true := by simp
    wp_walk using wpAny_loadPart' hl
    exact ⟨_, rfl, h⟩
theorem op_rep1 : OpR X (binaryOp .Mult) (fun x y H Q => ∃ l xs, x = .ref l ∧ y = .int 1 ∧ SqT X.K H l xs ∧ Q (.ref l) H) := by
  intro pins s σ H x y v u Q I rx ry h
  obtain ⟨l, xs, rfl, rfl, hT, q⟩ := h
  cases rx
  obtain ⟨t, rfl⟩ := ry
  obtain ⟨its, r, ⟨⟨cls, dd, data, sl⟩, ho, hc, n, hd⟩, hs⟩ := I.tuple hT
  simp only at hc hd
  subst hc hd
  refine wpAny_binaryOp_repeat_ref (T := "tuple") (U := "int") (by decide) ⟨_, ho, rfl⟩ (fun s' => typeIs_int s' 1 t) noFill_tuple_mul F.fills_int_mul F.slot_int_rmul repeat_tuple F.slot_int_index.lookup
    (call_meets F.slot_int_rmul (typeIs_int s 1 t) F.entry_int_rmul (F.args_int_rmul_2 _ _) (int_rmul_tuple 1 t l its.toArray n dd sl)
      ⟨ho, rfl, ⟨_, ho, rfl⟩, call_meets F.slot_tuple_mul ⟨_, ho, rfl⟩ F.entry_tuple_mul (F.args_tuple_mul_2 _ _) (tuple_mul1 l its.toArray n dd sl t) ⟨ho, ?_⟩⟩)
  exact ⟨.ref l, H, I, rfl, q⟩
theorem op_bin (o : SL.Op) : OpR X (binaryOp (opOf o)) (rBin X.K o) := by
  intro pins s σ H x y v u Q I rx ry h
  obtain ⟨F, dx, dy, p, sub, cx, cy, e, k⟩ := h
  cases o with
  | add =>
    cases dx with
    | int i =>
      cases dy with
      | int j =>
        obtain rfl : x = .int i := cx
        obtain rfl : y = .int j := cy
        cases e
        exact op_add pins s σ H _ _ v u Q I rx ry ⟨i, j, rfl, rfl, k _ _ (.inl ⟨rfl, .int _⟩)⟩
      | _ => cases e
    | tup ds =>
      cases dy with
      | tup es =>
        obtain ⟨a, xs, rfl, h1, r1, f1⟩ := cx
        obtain ⟨b, ys, rfl, h2, r2, f2⟩ := cy
        have e' : (if ds.length + es.length ≤ SL.lim then some (PV.sh (.tup (ds ++ es))) else none) = some p := e
        split at e'
        · rename_i hl
          cases e'
          refine op_catA pins s σ H _ _ v u Q I rx ry ⟨a, b, xs, ys, rfl, rfl, .inl (.inl h1), .inl (.inl h2), lim_line (by rw [r1.length, r2.length]; exact hl), fun e1 => ?_, fun e1 e2 => ?_, fun e1 e2 q hq => ?_⟩
          · subst e1
            cases r1
            exact k _ _ (.inl ⟨rfl, .tup f2 r2⟩)
          · subst e2
            cases r2
            rw [List.append_nil] at k
            exact k _ _ (.inl ⟨rfl, .tup f1 r1⟩)
          · exact k _ _ (.inr ⟨q, _, _, hq, rfl, rfl, rfl, r1.append r2⟩)
        · cases e'
      | _ => cases e
    | lst ds =>
      cases dy with
      | lst es =>
        obtain ⟨a, xs, rfl, h1, r1⟩ := cx
        obtain ⟨b, ys, rfl, h2, r2⟩ := cy
        have e' : (if ds.length + es.length ≤ SL.lim then some (PV.mu (.lst (ds ++ es))) else none) = some p := e
        split at e'
        · rename_i hl
          cases e'
          cases rx
          cases ry
          obtain ⟨i1, v1, p1, z1⟩ := I.list h1
          obtain ⟨i2, v2, p2, z2⟩ := I.list h2
          have hz : i1.length + i2.length ≤ sizeLine := lim_line (by rw [← v1.length, ← v2.length, r1.length, r2.length]; exact hl)
          obtain ⟨⟨c1, d1, t1, l1⟩, o1, hc1, n1, hd1⟩ := p1.isList
          obtain ⟨⟨c2, d2, t2, l2⟩, o2, hc2, n2, hd2⟩ := p2.isList
          simp only at hc1 hd1 hc2 hd2
          subst hc1 hd1 hc2 hd2
          have eq : i1.toArray ++ i2.toArray = (i1 ++ i2).toArray := by simp
          refine concat_meets ⟨_, o1, rfl⟩ ⟨_, o2, rfl⟩ noFill_list_add seq_list_add PySem.F.slot_list_add PySem.F.entry_list_add (PySem.F.args_list_add_2 _ _) (list_addW a b i1.toArray i2.toArray n1 n2 d1 d2 l1 l2 (by simpa using hz)) ⟨o1, o2, ?_⟩
          rw [eq]
          exact ⟨.ref _, _, I.lnew (t' := s.toks) (v1.append v2) (by rw [List.length_append, v1.length, v2.length]; exact hz), rfl, k _ _ ⟨_, _, I.fresh, rfl, rfl, xs ++ ys, rfl, r1.append r2⟩⟩
        · cases e'
      | _ => cases e
    | str a =>
      cases dy with
      | str b =>
        obtain rfl : x = .str (S a) := cx
        obtain rfl : y = .str (S b) := cy
        have e' : (if a.length + b.length ≤ SL.lim then some (PV.sh (.str (a ++ b))) else none) = some p := e
        split at e'
        · rename_i hl
          cases e'
          refine op_add_str pins s σ H _ _ v u Q I rx ry ⟨_, _, rfl, rfl, lim_line ?_, ?_⟩
          · simpa [S, Str.length] using hl
          · have q : S a ++ S b = S (a ++ b) := by show Str.mk _ = Str.mk _; simp [S]
            rw [q]
            exact k _ _ (.inl ⟨rfl, .str _⟩)
        · cases e'
      | _ => cases e
    | _ => cases e
  | sub =>
    cases dx with
    | int i =>
      cases dy with
      | int j =>
        obtain rfl : x = .int i := cx
        obtain rfl : y = .int j := cy
        cases e
        exact op_sub pins s σ H _ _ v u Q I rx ry ⟨i, j, rfl, rfl, k _ _ (.inl ⟨rfl, .int _⟩)⟩
      | _ => cases e
    | _ => cases e
  | mul =>
    cases dx with
    | int i =>
      cases dy with
      | int j =>
        obtain rfl : x = .int i := cx
        obtain rfl : y = .int j := cy
        have e' : (if SL.mulOk i j = true then some (PV.sh (.int (i * j))) else none) = some p := e
        split at e'
        · rename_i hm
          cases e'
          obtain ⟨t, rfl⟩ := rx
          obtain ⟨t', rfl⟩ := ry
          exact mul_int ⟨.int _, H, I.tok _, ⟨_, rfl⟩, k _ _ (.inl ⟨rfl, .int _⟩)⟩ (mul_ok hm)
        · cases e'
      | _ => cases e
    | tup ds =>
      cases dy with
      | int n =>
        obtain ⟨a, xs, rfl, h1, r1, f1⟩ := cx
        obtain rfl : y = .int n := cy
        have e' : (if ¬ ds.isEmpty ∧ ds.length ≤ 1000 ∧ 1 ≤ n ∧ n ≤ 1000 then some (PV.sh (.tup (SL.rep n.toNat ds))) else none) = some p := e
        split at e'
        · rename_i hm
          cases e'
          obtain ⟨m1, m2, m3, m4⟩ := hm
          have hne : xs ≠ [] := fun z => by
            subst z
            cases r1
            exact m1 rfl
          by_cases h2 : 2 ≤ n
          · exact op_repT pins s σ H _ _ v u Q I rx ry ⟨a, n, xs, rfl, rfl, .inl (.inl h1), hne, h2, m4, by rw [r1.length]; exact m2, fun q hq => k _ _ (.inr ⟨q, _, _, hq, rfl, rfl, rfl, r1.flatten_rep _⟩)⟩
          · have e1 : n = 1 := by omega
            subst e1
            refine op_rep1 pins s σ H _ _ v u Q I rx ry ⟨a, xs, rfl, rfl, .inl (.inl h1), k _ _ (.inl ⟨rfl, ?_⟩)⟩
            have e2 : SL.rep (1 : Int).toNat ds = ds := by
              show (List.replicate 1 ds).flatten = ds
              simp
            rw [e2]
            exact .tup f1 r1
        · cases e'
      | _ => cases e
    | _ => cases e
  | fdiv =>
    cases dx with
    | int i =>
      cases dy with
      | int j =>
        obtain rfl : x = .int i := cx
        obtain rfl : y = .int j := cy
        have e' : (if SL.divOk i j = true then some (PV.sh (.int (i / j))) else none) = some p := e
        split at e'
        · rename_i hm
          cases e'
          unfold SL.divOk at hm
          rw [Bool.and_eq_true] at hm
          have h1 : 0 < j := of_decide_eq_true hm.1
          have h2 : (decide (SL.digs j > 300) && decide (SL.digs i > SL.digs j + 150)) = false := by have z := hm.2; simpa only [Bool.not_eq_true'] using z
          obtain ⟨t, rfl⟩ := rx
          obtain ⟨t', rfl⟩ := ry
          exact floordiv_int (by omega) (by rw [Int.fdiv_eq_ediv_of_nonneg i (by omega)]; exact ⟨.int _, H, I.tok _, ⟨_, rfl⟩, k _ _ (.inl ⟨rfl, .int _⟩)⟩) (.inl h2)
        · cases e'
      | _ => cases e
    | _ => cases e
  | mod =>
    cases dx with
    | int i =>
      cases dy with
      | int j =>
        obtain rfl : x = .int i := cx
        obtain rfl : y = .int j := cy
        have e' : (if 0 < j then some (PV.sh (.int (i % j))) else none) = some p := e
        split at e'
        · rename_i hm
          cases e'
          exact op_mod pins s σ H _ _ v u Q I rx ry ⟨i, j, rfl, rfl, hm, k _ _ (.inl ⟨rfl, .int _⟩)⟩
        · cases e'
      | _ => cases e
    | _ => cases e
  | pow =>
    cases dx with
    | int i =>
      cases dy with
      | int j =>
        obtain rfl : x = .int i := cx
        obtain rfl : y = .int j := cy
        have e' : (if SL.powOk i j = true then some (PV.sh (.int (i ^ j.toNat))) else none) = some p := e
        split at e'
        · rename_i hm
          cases e'
          unfold SL.powOk at hm
          rw [Bool.and_eq_true, Bool.and_eq_true] at hm
          have h1 := of_decide_eq_true hm.1.1
          have h2 := of_decide_eq_true hm.1.2
          have h3 := of_decide_eq_true hm.2
          exact op_pow pins s σ H _ _ v u Q I rx ry ⟨i, j, rfl, rfl, ⟨h1, by omega, h3⟩, k _ _ (.inl ⟨rfl, .int _⟩)⟩
        · cases e'
      | _ => cases e
    | _ => cases e
end
end SLS

/-! ## S4 -/
set_option Elab.async false
set_option linter.all false
set_option autoImplicit false
set_option maxRecDepth 100000
/-! Soundness 4: comparisons by values. -/
namespace SLS
open PySem PySem.Spec PyProof.Rows L2
open SL (D Slot PV Res)

mutual
theorem like_toP : ∀ a b : D, a.like b = true → PySem.W.alike (toP a) (toP b) = true
  | .int _, b, h => by cases b <;> first | rfl | exact nomatch h
  | .str _, b, h => by cases b <;> first | rfl | exact nomatch h
  | .tup xs, b, h => by
    cases b with
    | tup ys => simp only [toP, PySem.W.alike]; exact likes_toP xs ys (by simpa [SL.D.like] using h)
    | _ => exact nomatch h
  | .lst xs, b, h => by
    cases b with
    | lst ys => simp only [toP, PySem.W.alike]; exact likes_toP xs ys (by simpa [SL.D.like] using h)
    | _ => exact nomatch h
  | .non, b, h => by cases b <;> exact nomatch h
  | .bl _, b, h => by cases b <;> exact nomatch h
  | .dct _ _ _, b, h => by cases b <;> exact nomatch h
  | .wr _, b, h => by cases b <;> exact nomatch h
theorem likes_toP : ∀ a b : List D, D.likes a b = true → PySem.W.alikeAll (toPs a) (toPs b) = true
  | [], b, _ => by cases b <;> simp [toPs, PySem.W.alikeAll]
  | _ :: _, [], _ => by simp [toPs, PySem.W.alikeAll]
  | x :: xs, y :: ys, h => by
    rw [D.likes, Bool.and_eq_true] at h
    simp only [toPs, PySem.W.alikeAll, Bool.and_eq_true]
    exact ⟨like_toP x y h.1, likes_toP xs ys h.2⟩
end
theorem lexNat_lt : ∀ a b : List Nat, SL.lexNat a b = decide (a < b)
  | [], [] => by simp [SL.lexNat]
  | [], _ :: _ => by simp [SL.lexNat]
  | _ :: _, [] => by simp [SL.lexNat]
  | x :: xs, y :: ys => by
    unfold SL.lexNat
    by_cases h : x = y
    · subst h
      rw [if_pos rfl, lexNat_lt xs ys]
      simp [List.cons_lt_cons_iff]
    · rw [if_neg h]
      simp [List.cons_lt_cons_iff, h]
mutual
theorem lt_toP : ∀ a b : D, a.like b = true → a.plain = true → b.plain = true → PySem.W.dataLt (toP a) (toP b) = a.lt b
  | .int x, b, h, _, _ => by
    cases b with
    | int y => simp only [toP, SL.D.lt]; exact PySem.W.dataLt_int x y
    | _ => exact nomatch h
  | .str x, b, h, _, _ => by
    cases b with
    | str y =>
      simp only [toP, SL.D.lt]
      rw [PySem.W.dataLt_str, lexNat_lt]
      exact decide_eq_decide.mpr (by simp [S])
    | _ => exact nomatch h
  | .tup xs, b, h, ha, hb => by
    cases b with
    | tup ys =>
      simp only [toP, SL.D.lt]
      rw [PySem.W.dataLt_tuple]
      exact lts_toP xs ys (by simpa [SL.D.like] using h) ha hb
    | _ => exact nomatch h
  | .lst xs, b, h, ha, hb => by
    cases b with
    | lst ys =>
      simp only [toP, SL.D.lt]
      rw [PySem.W.dataLt_list]
      exact lts_toP xs ys (by simpa [SL.D.like] using h) ha hb
    | _ => exact nomatch h
  | .non, b, h, _, _ => by cases b <;> exact nomatch h
  | .bl _, b, h, _, _ => by cases b <;> exact nomatch h
  | .dct _ _ _, b, h, _, _ => by cases b <;> exact nomatch h
  | .wr _, b, h, _, _ => by cases b <;> exact nomatch h
theorem lts_toP : ∀ a b : List D, D.likes a b = true → D.plains a = true → D.plains b = true → PyProof.Rows.lexLt itemOrd (PySem.W.keyToksAll (toPs a)) (PySem.W.keyToksAll (toPs b)) = D.lts a b
  | [], [], _, _, _ => by
    simp only [toPs, SL.D.lts]
    exact lex_irrefl _
  | [], y :: ys, _, _, _ => by
    simp only [toPs, SL.D.lts]
    rfl
  | x :: xs, [], _, _, _ => by
    simp only [toPs, SL.D.lts]
    rfl
  | x :: xs, y :: ys, h, ha, hb => by
    rw [D.likes, Bool.and_eq_true] at h
    rw [D.plains, Bool.and_eq_true] at ha hb
    simp only [toPs, SL.D.lts]
    rw [PySem.W.dataLt_cons (like_toP x y h.1), eqv_toP x y ha.1 hb.1]
    cases x.eqv y with
    | true => simp only [if_true]; exact lts_toP xs ys h.2 ha.2 hb.2
    | false => simp only [Bool.false_eq_true, if_false]; exact lt_toP x y h.1 ha.1 hb.1
end

def cmpOf : SL.Cmp → CmpOp
  | .eq => .Eq
  | .ne => .NotEq
  | .lt => .Lt
  | .le => .LtE
  | .gt => .Gt
  | .ge => .GtE
  | .is => .Is
  | .isnot => .IsNot
  | .isin => .In
  | .notin => .NotIn
def rCmp (K : PySem.W.Frag) (o : SL.Cmp) : R2 := fun x y H Q => ∃ F dx dy b, Same F H ∧ Cn K F H x dx ∧ Cn K F H y dy ∧ SL.cmpop o dx dy = some b ∧ Q (.bl b) H
theorem if_some {α : Type} {c : Bool} {x y : α} (h : (if c = true then some x else none) = some y) : c = true ∧ x = y := by
  cases c with
  | true => exact ⟨rfl, by simpa using h⟩
  | false => simp at h
section
variable {X : Cx}
theorem cn_reads {F H : Hp} {pins : List (Addr × Obj)} {s : Shared} {σ : L2.St} {v : V} {u : Value} {d : D} (I : Inv X pins σ H s) (sub : Same F H) (c : Cn X.K F H v d) (r : RelV v u) (h : d.fine = true) : ∃ as, Reads s.heap u (toP d) as :=
  Dp.reads I _ v u (c.dp sub (fine_plain h)) r
theorem keys_plain {is : List Int} : D.plains (kI is) = true := by
  induction is with
  | nil => rfl
  | cons i is ih => exact ih
theorem any_kI {is : List Int} {d : D} {k : Int} (hd : d = .int k) : ((kI is).any fun x => x.eqv d) = is.any fun i => decide (i = k) := by
  subst hd
  unfold kI
  rw [List.any_map]
  congr 1
theorem eqvs_ints : ∀ a b : List Int, D.eqvs (a.map D.int) (b.map D.int) = decide (a = b)
  | [], [] => by simp [SL.D.eqvs]
  | [], _ :: _ => by simp [SL.D.eqvs]
  | _ :: _, [] => by simp [SL.D.eqvs]
  | x :: xs, y :: ys => by
    simp only [List.map_cons, SL.D.eqvs, SL.D.eqv]
    rw [eqvs_ints xs ys]
    by_cases h : x = y
    · subst h; simp
    · simp [h]
theorem valV_isSome {κ : Type} [DecidableEq κ] (kvs : List (κ × V)) (k : κ) : (valV kvs k).isSome = (kvs.map (·.1)).any fun j => decide (j = k) := by
  unfold valV
  rw [Option.isSome_map, List.any_map]
  induction kvs with
  | nil => rfl
  | cons p r ih =>
    rw [List.find?_cons, List.any_cons]
    by_cases h : p.1 = k
    · simp [h]
    · simp [h]
      simpa using ih

theorem all_isInt : ∀ ds : List D, ds.all SL.isInt = true → ∃ l : List Int, ds = l.map .int
  | [], _ => ⟨[], rfl⟩
  | .int i :: ds, h => by
    obtain ⟨l, e⟩ := all_isInt ds (by simpa [SL.isInt] using h)
    exact ⟨i :: l, by rw [e]; rfl⟩
  | .non :: _, h => by simp [SL.isInt] at h
  | .bl _ :: _, h => by simp [SL.isInt] at h
  | .str _ :: _, h => by simp [SL.isInt] at h
  | .tup _ :: _, h => by simp [SL.isInt] at h
  | .lst _ :: _, h => by simp [SL.isInt] at h
  | .dct _ _ _ :: _, h => by simp [SL.isInt] at h
  | .wr _ :: _, h => by simp [SL.isInt] at h
theorem Rps.ofInts {K : PySem.W.Frag} {F : Hp} : ∀ {xs : List V} {l : List Int}, Rps K F xs (l.map .int) → xs = l.map V.int
  | _, [], .nil => rfl
  | _, i :: l, .cons h r => by
    cases h
    rw [Rps.ofInts r]; rfl
/-- a key looked for in a dict -/
theorem dget_of {K : PySem.W.Frag} {F H : Hp} {x y : V} {t : Bool} {ks vs : List D} {d : D} (c : Cn K F H y (.dct t ks vs)) (cx : Cn K F H x d) (hk : SL.keyOk t d = true) :
    ∃ a o, y = .ref a ∧ DGet H a x o ∧ o.isSome = ks.any (fun k => k.eqv d) ∧ ∀ e, SL.dget ks vs d = some e → ∃ v, o = some v ∧ Rp K F v e := by
  cases t with
  | false =>
    cases d with
    | int i =>
      obtain ⟨a, kvs, is, rfl, e, e1, e2, r⟩ := c
      obtain rfl : x = .int i := cx
      refine ⟨a, valV kvs (.inl i), rfl, .inl ⟨kvs, .inl i, e, rfl, rfl⟩, ?_, ?_⟩
      · rw [valV_isSome, e1, e2, any_kI rfl]
        unfold hI
        rw [List.any_map]
        congr 1
        funext j
        simp
      · subst e2
        clear e
        intro e he
        induction kvs generalizing is vs with
        | nil =>
          cases is with
          | nil => simp [kI, SL.dget] at he
          | cons _ _ => simp [hI] at e1
        | cons p kvs ih =>
          cases is with
          | nil => simp [hI] at e1
          | cons j is =>
            simp only [List.map_cons, hI, List.cons.injEq] at e1
            cases r with
            | cons r1 r2 =>
              rename_i w ws
              have he' : (if (D.int j).eqv (.int i) = true then some w else SL.dget (kI is) ws (.int i)) = some e := he
              by_cases hj : j = i
              · subst hj
                have q : (D.int j).eqv (.int j) = true := by simp [SL.D.eqv]
                rw [if_pos q] at he'
                cases he'
                exact ⟨p.2, valV_pos e1.1, r1⟩
              · have q : ¬ (D.int j).eqv (.int i) = true := by simp [SL.D.eqv, hj]
                rw [if_neg q] at he'
                obtain ⟨v, h1, h2⟩ := ih is e1.2 r2 he'
                refine ⟨v, ?_, h2⟩
                rw [← h1]
                unfold valV
                rw [List.find?_cons]
                have : decide (p.1 = (Sum.inl i : Key)) = false := decide_eq_false (by rw [e1.1]; intro z; exact hj (Sum.inl.inj z))
                rw [this]
    | _ => simp [SL.keyOk] at hk
  | true =>
    cases d with
    | tup ds =>
      obtain ⟨l, rfl⟩ := all_isInt ds (by simpa [SL.keyOk] using hk)
      obtain ⟨a, kvs, is, rfl, e, e1, e2, r⟩ := c
      obtain ⟨b, xs, rfl, hb, rb, _⟩ := cx
      have exs := Rps.ofInts rb
      subst exs
      have hb' : H b = some (.tup ((l.map Sum.inl : List Key).map kV)) := by rw [hb, List.map_map]; rfl
      refine ⟨a, valV kvs (l.map Sum.inl), rfl, .inr ⟨kvs, _, b, e, rfl, hb', rfl⟩, ?_, ?_⟩
      · rw [valV_isSome, e1, e2]
        unfold hT kT
        rw [List.any_map, List.any_map]
        congr 1
        funext j
        simp only [Function.comp, SL.D.eqv]
        rw [eqvs_ints]
        apply decide_eq_decide.mpr
        constructor
        · intro z
          exact (List.map_inj_right (fun a b z => Sum.inl.inj z)).mp z
        · intro z; rw [z]
      · subst e2
        clear e hb hb' rb
        intro e he
        induction kvs generalizing is vs with
        | nil =>
          cases is with
          | nil => simp [kT, SL.dget] at he
          | cons _ _ => simp [hT] at e1
        | cons p kvs ih =>
          cases is with
          | nil => simp [hT] at e1
          | cons j is =>
            simp only [List.map_cons, hT, List.cons.injEq] at e1
            cases r with
            | cons r1 r2 =>
              rename_i w ws
              have he' : (if (D.tup (j.map .int)).eqv (.tup (l.map .int)) = true then some w else SL.dget (kT is) ws (.tup (l.map .int))) = some e := he
              have q0 : (D.tup (j.map .int)).eqv (.tup (l.map .int)) = decide (j = l) := by simp only [SL.D.eqv]; exact eqvs_ints j l
              rw [q0] at he'
              by_cases hj : j = l
              · subst hj
                rw [if_pos (by simp)] at he'
                cases he'
                exact ⟨p.2, valV_pos e1.1, r1⟩
              · rw [if_neg (by simp [hj])] at he'
                obtain ⟨v, h1, h2⟩ := ih is e1.2 r2 he'
                refine ⟨v, ?_, h2⟩
                rw [← h1]
                unfold valV
                rw [List.find?_cons]
                have : decide (p.1 = (l.map Sum.inl : List Key)) = false := decide_eq_false (by rw [e1.1]; intro z; exact hj ((List.map_inj_right (fun a b z => Sum.inl.inj z)).mp z))
                rw [this]
    | _ => simp [SL.keyOk] at hk

theorem min_lt {u a b : Nat} (hu : u + 100 < cLine) (h : a ≤ 61) : u + 1 + min a b < cLine := by omega
theorem op_cmp (hu : X.A.units + 100 < cLine) (o : SL.Cmp) : OpR X (compareOp (cmpOf o)) (rCmp X.K o) := by
  intro pins s σ H x y v u Q I rx ry h
  obtain ⟨F, dx, dy, b, sub, cx, cy, e, k⟩ := h
  cases o with
  | eq =>
    have e' : (if (dx.fine && dy.fine) = true then some (dx.eqv dy) else none) = some b := e
    obtain ⟨hf, rfl⟩ := if_some e'
    rw [Bool.and_eq_true] at hf
    obtain ⟨as, r1⟩ := cn_reads I sub cx rx hf.1
    obtain ⟨bs, r2⟩ := cn_reads I sub cy ry hf.2
    have d1 := fine_depth hf.1
    exact SeqAt.eq_plain r1 r2 (plain_toP _ (fine_plain hf.1)) (plain_toP _ (fine_plain hf.2)) (by omega) ⟨.bl _, H, I, by rw [eqv_toP _ _ (fine_plain hf.1) (fine_plain hf.2)]; rfl, k⟩
  | ne =>
    have e' : (if (dx.fine && dy.fine) = true then some (!dx.eqv dy) else none) = some b := e
    obtain ⟨hf, rfl⟩ := if_some e'
    rw [Bool.and_eq_true] at hf
    obtain ⟨as, r1⟩ := cn_reads I sub cx rx hf.1
    obtain ⟨bs, r2⟩ := cn_reads I sub cy ry hf.2
    have d1 := fine_depth hf.1
    exact SeqAt.ne_plain r1 r2 (plain_toP _ (fine_plain hf.1)) (plain_toP _ (fine_plain hf.2)) (by omega) ⟨.bl _, H, I, by rw [eqv_toP _ _ (fine_plain hf.1) (fine_plain hf.2)]; rfl, k⟩
  | lt =>
    have e' : (if (dx.like dy && dx.fine && dy.fine) = true then some (dx.lt dy) else none) = some b := e
    obtain ⟨hf, rfl⟩ := if_some e'
    rw [Bool.and_eq_true, Bool.and_eq_true] at hf
    obtain ⟨as, r1⟩ := cn_reads I sub cx rx hf.1.2
    obtain ⟨bs, r2⟩ := cn_reads I sub cy ry hf.2
    have d1 := fine_depth hf.1.2
    refine PySem.W.rcLt_alike _ _ X.A s v u as bs r1 r2 (like_toP _ _ hf.1.1) (fun z => ?_) (by omega) X.prog X.w X.xe (EP X pins σ Q) ⟨.bl _, H, I, by rw [lt_toP _ _ hf.1.1 (fine_plain hf.1.2) (fine_plain hf.2)]; rfl, k⟩
    cases dx with
    | non => have q := hf.1.1; cases dy <;> exact nomatch q
    | dct _ _ _ => have q := hf.1.1; cases dy <;> exact nomatch q
    | wr _ => have q := hf.1.1; cases dy <;> exact nomatch q
    | _ => exact nomatch z
  | le =>
    cases dx with
    | int i =>
      cases dy with
      | int j =>
        obtain rfl : x = .int _ := cx
        obtain rfl : y = .int _ := cy
        cases e
        exact op_le pins s σ H _ _ v u Q I rx ry ⟨_, _, rfl, rfl, k⟩
      | _ => cases e
    | _ => cases e
  | gt =>
    cases dx with
    | int i =>
      cases dy with
      | int j =>
        obtain rfl : x = .int _ := cx
        obtain rfl : y = .int _ := cy
        cases e
        exact op_gt pins s σ H _ _ v u Q I rx ry ⟨_, _, rfl, rfl, k⟩
      | _ => cases e
    | _ => cases e
  | ge =>
    cases dx with
    | int i =>
      cases dy with
      | int j =>
        obtain rfl : x = .int _ := cx
        obtain rfl : y = .int _ := cy
        cases e
        exact op_ge pins s σ H _ _ v u Q I rx ry ⟨_, _, rfl, rfl, k⟩
      | _ => cases e
    | _ => cases e
  | is =>
    cases dy with
    | non =>
      obtain rfl : y = .non := cy
      refine op_isN pins s σ H _ _ v u Q I rx ry ⟨rfl, ?_⟩
      have q : decide (x = V.non) = b := by
        cases dx with
        | non => obtain rfl : x = .non := cx; cases e; rfl
        | bl c => obtain rfl : x = .bl c := cx; cases e; rfl
        | int c => obtain rfl : x = .int c := cx; cases e; rfl
        | str c => obtain rfl : x = .str (S c) := cx; cases e; rfl
        | tup c => obtain ⟨_, _, rfl, _⟩ := cx; cases e; rfl
        | lst c => obtain ⟨_, _, rfl, _⟩ := cx; cases e; rfl
        | wr c => obtain ⟨_, _, rfl, _⟩ := cx; cases e; rfl
        | dct t c d => cases t <;> (obtain ⟨_, _, _, rfl, _⟩ := cx; cases e; rfl)
      rw [q]; exact k
    | bl c =>
      cases dx with
      | bl d =>
        obtain rfl : x = .bl _ := cx
        obtain rfl : y = .bl _ := cy
        cases e
        exact op_is_bl pins s σ H _ _ v u Q I rx ry ⟨_, _, rfl, rfl, by rw [← Bool.beq_eq_decide_eq]; exact k⟩
      | _ => cases e
    | _ => cases dx <;> cases e
  | isnot =>
    cases dy with
    | non =>
      obtain rfl : y = .non := cy
      refine op_notN pins s σ H _ _ v u Q I rx ry ⟨rfl, ?_⟩
      have q : (!decide (x = V.non)) = b := by
        cases dx with
        | non => obtain rfl : x = .non := cx; cases e; rfl
        | bl c => obtain rfl : x = .bl c := cx; cases e; rfl
        | int c => obtain rfl : x = .int c := cx; cases e; rfl
        | str c => obtain rfl : x = .str (S c) := cx; cases e; rfl
        | tup c => obtain ⟨_, _, rfl, _⟩ := cx; cases e; rfl
        | lst c => obtain ⟨_, _, rfl, _⟩ := cx; cases e; rfl
        | wr c => obtain ⟨_, _, rfl, _⟩ := cx; cases e; rfl
        | dct t c d => cases t <;> (obtain ⟨_, _, _, rfl, _⟩ := cx; cases e; rfl)
      rw [q]; exact k
    | bl c =>
      cases dx with
      | bl d =>
        obtain rfl : x = .bl _ := cx
        obtain rfl : y = .bl _ := cy
        cases e
        exact op_isnot_bl pins s σ H _ _ v u Q I rx ry ⟨_, _, rfl, rfl, by rw [← Bool.beq_eq_decide_eq]; exact k⟩
      | _ => cases e
    | _ => cases dx <;> cases e
  | isin =>
    have any : ∀ (ds : List D), dx.fine = true → (D.lst ds).fine = true → ((toPs ds).any fun z => PyData.eqv z (toP dx)) = ds.any fun z => z.eqv dx := fun ds h1 h2 => by
      have hp : D.plains ds = true := fine_plain h2
      clear h2 e cy
      induction ds with
      | nil => rfl
      | cons d ds ih =>
        rw [D.plains, Bool.and_eq_true] at hp
        simp only [toPs, List.any_cons]
        rw [ih hp.2, eqv_toP _ _ hp.1 (fine_plain h1)]
    cases dy with
    | lst ds =>
      have e' : (if (dx.fine && (D.lst ds).fine) = true then some (ds.any fun z => z.eqv dx) else none) = some b := by cases dx <;> exact e
      obtain ⟨hf, rfl⟩ := if_some e'
      rw [Bool.and_eq_true] at hf
      obtain ⟨as, r1⟩ := cn_reads I sub cx rx hf.1
      obtain ⟨bs, r2⟩ := cn_reads I sub cy ry hf.2
      have d2 := fine_depth hf.2
      have d2 : (PyData.list (toPs ds)).depth ≤ 60 := d2
      rw [PyData.depth] at d2
      exact SeqAt.in_list_data r2 r1 (plains_toP _ (fine_plain hf.2)) (plain_toP _ (fine_plain hf.1)) (min_lt hu (by omega)) ⟨.bl _, H, I, by rw [any ds hf.1 hf.2]; rfl, k⟩
    | tup ds =>
      have e' : (if (dx.fine && (D.lst ds).fine) = true then some (ds.any fun z => z.eqv dx) else none) = some b := by cases dx <;> exact e
      obtain ⟨hf, rfl⟩ := if_some e'
      rw [Bool.and_eq_true] at hf
      obtain ⟨as, r1⟩ := cn_reads I sub cx rx hf.1
      have hf2 : (D.tup ds).fine = true := hf.2
      obtain ⟨bs, r2⟩ := cn_reads I sub cy ry hf2
      have d2 := fine_depth hf2
      have d2 : (PyData.tuple (toPs ds)).depth ≤ 60 := d2
      rw [PyData.depth] at d2
      exact SeqAt.in_tuple_data r2 r1 (plains_toP _ (fine_plain hf.2)) (plain_toP _ (fine_plain hf.1)) (min_lt hu (by omega)) ⟨.bl _, H, I, by rw [any ds hf.1 hf.2]; rfl, k⟩
    | dct t ks vs =>
      have e' : (if SL.keyOk t dx = true then some (ks.any fun z => z.eqv dx) else none) = some b := by cases dx <;> exact e
      obtain ⟨hf, rfl⟩ := if_some e'
      obtain ⟨a, o, rfl, g, ho, _⟩ := dget_of cy cx hf
      cases ry
      exact d_in (by omega) I g rx fun s' I' => ⟨.bl _, H, I', by rw [ho]; rfl, k⟩
    | _ => cases dx <;> cases e
  | notin =>
    have any : ∀ (ds : List D), dx.fine = true → (D.lst ds).fine = true → ((toPs ds).any fun z => PyData.eqv z (toP dx)) = ds.any fun z => z.eqv dx := fun ds h1 h2 => by
      have hp : D.plains ds = true := fine_plain h2
      clear h2 e cy
      induction ds with
      | nil => rfl
      | cons d ds ih =>
        rw [D.plains, Bool.and_eq_true] at hp
        simp only [toPs, List.any_cons]
        rw [ih hp.2, eqv_toP _ _ hp.1 (fine_plain h1)]
    cases dy with
    | lst ds =>
      have e' : (if (dx.fine && (D.lst ds).fine) = true then some (!ds.any fun z => z.eqv dx) else none) = some b := by cases dx <;> exact e
      obtain ⟨hf, rfl⟩ := if_some e'
      rw [Bool.and_eq_true] at hf
      obtain ⟨as, r1⟩ := cn_reads I sub cx rx hf.1
      obtain ⟨bs, r2⟩ := cn_reads I sub cy ry hf.2
      have d2 := fine_depth hf.2
      have d2 : (PyData.list (toPs ds)).depth ≤ 60 := d2
      rw [PyData.depth] at d2
      exact SeqAt.notIn_list_data r2 r1 (plains_toP _ (fine_plain hf.2)) (plain_toP _ (fine_plain hf.1)) (min_lt hu (by omega)) ⟨.bl _, H, I, by rw [any ds hf.1 hf.2]; rfl, k⟩
    | tup ds =>
      have e' : (if (dx.fine && (D.lst ds).fine) = true then some (!ds.any fun z => z.eqv dx) else none) = some b := by cases dx <;> exact e
      obtain ⟨hf, rfl⟩ := if_some e'
      rw [Bool.and_eq_true] at hf
      obtain ⟨as, r1⟩ := cn_reads I sub cx rx hf.1
      have hf2 : (D.tup ds).fine = true := hf.2
      obtain ⟨bs, r2⟩ := cn_reads I sub cy ry hf2
      have d2 := fine_depth hf2
      have d2 : (PyData.tuple (toPs ds)).depth ≤ 60 := d2
      rw [PyData.depth] at d2
      exact SeqAt.notIn_tuple_data r2 r1 (plains_toP _ (fine_plain hf.2)) (plain_toP _ (fine_plain hf.1)) (min_lt hu (by omega)) ⟨.bl _, H, I, by rw [any ds hf.1 hf.2]; rfl, k⟩
    | dct t ks vs =>
      have e' : (if SL.keyOk t dx = true then some (!ks.any fun z => z.eqv dx) else none) = some b := by cases dx <;> exact e
      obtain ⟨hf, rfl⟩ := if_some e'
      obtain ⟨a, o, rfl, g, ho, _⟩ := dget_of cy cx hf
      cases ry
      exact d_notIn (by omega) I g rx fun s' I' => ⟨.bl _, H, I', by rw [ho]; rfl, k⟩
    | _ => cases dx <;> cases e
end
end SLS

/-! ## S5 -/
set_option Elab.async false
set_option linter.all false
set_option autoImplicit false
set_option maxRecDepth 100000
/-! Soundness 5: subscripts, slices, built-ins by values. -/
namespace SLS
open PySem PySem.Spec PyProof.Rows L2
open SL (D Slot PV Res)
section
variable {X : Cx}
theorem ite_some {α : Type} {c : Prop} [Decidable c] {x : Option α} {y : α} (h : (if c then x else none) = some y) : c ∧ x = some y := by
  by_cases q : c
  · rw [if_pos q] at h; exact ⟨q, h⟩
  · rw [if_neg q] at h; cases h
theorem place_eq (n : Nat) (i : Int) : SL.place n i = ixN n i := rfl
def rItem (K : PySem.W.Frag) : R2 := fun x y H Q => ∃ F dx dy d, Same F H ∧ Cn K F H x dx ∧ Cn K F H y dy ∧ SL.item dx dy = some d ∧ ∀ v, Rp K F v d → Q v H
theorem atI_of {K : PySem.W.Frag} {F : Hp} {xs : List V} {ds : List D} {i : Int} {d : D} (r : Rps K F xs ds) (e : ((SL.place ds.length i).bind fun j => ds[j]?) = some d) : ∃ v, atI xs i = some v ∧ Rp K F v d := by
  rw [← r.length, place_eq] at e
  unfold atI
  cases q : ixN xs.length i with
  | none => rw [q] at e; cases e
  | some j =>
    rw [q] at e
    exact r.get (i := j) e
theorem ix_dict (hu : X.A.units + 1 < cLine) : IxR X (fun x y H Q => ∃ a v, x = .ref a ∧ DGet H a y (some v) ∧ Q v H) := by
  intro value slice pins s σ H x y v u Q I rx ry h hs
  obtain ⟨a, w', rfl, g, q⟩ := h
  cases rx
  exact tail_any (ops := [.ref a, u]) (dict_typeIs I g) PySem.F.slot_dict_getitem.lookup (d_getItem hu I g ry fun w2 s2 I2 r2 => ⟨w', H, I2, r2, q⟩) hs
theorem ix_item (hu : X.A.units + 100 < cLine) : IxR X (rItem X.K) := by
  intro value slice pins s σ H x y v u Q I rx ry h hs
  obtain ⟨F, dx, dy, d, sub, cx, cy, e, k⟩ := h
  cases dx with
  | lst ds =>
    cases dy with
    | int i =>
      obtain ⟨a, xs, rfl, h1, r1⟩ := cx
      obtain rfl : y = .int i := cy
      obtain ⟨w', h2, r2⟩ := atI_of r1 e
      exact ix_list value slice pins s σ H _ _ v u Q I rx ry ⟨a, xs, i, w', rfl, rfl, h1, h2, k _ r2⟩ hs
    | _ => cases e
  | tup ds =>
    cases dy with
    | int i =>
      obtain ⟨a, xs, rfl, h1, r1, _⟩ := cx
      obtain rfl : y = .int i := cy
      obtain ⟨w', h2, r2⟩ := atI_of r1 e
      exact ix_tup value slice pins s σ H _ _ v u Q I rx ry ⟨a, xs, i, w', rfl, rfl, .inl (.inl h1), h2, k _ r2⟩ hs
    | _ => cases e
  | wr ds =>
    cases dy with
    | int i =>
      obtain ⟨a, xs, rfl, h1, r1⟩ := cx
      obtain rfl : y = .int i := cy
      obtain ⟨w', h2, r2⟩ := atI_of r1 e
      exact ix_tup value slice pins s σ H _ _ v u Q I rx ry ⟨a, xs, i, w', rfl, rfl, .inr h1, h2, k _ r2⟩ hs
    | _ => cases e
  | str z =>
    cases dy with
    | int i =>
      obtain rfl : x = .str (S z) := cx
      obtain rfl : y = .int i := cy
      have e' : (if z.length ≤ SL.lim then (SL.place z.length i).bind fun j => (z[j]?).map fun c => D.str [c] else none) = some d := e
      obtain ⟨hl, e'⟩ := ite_some e'
      cases q : SL.place z.length i with
      | none => rw [q] at e'; cases e'
      | some j =>
        rw [q] at e'
        obtain ⟨c, hc, rfl⟩ := Option.map_eq_some_iff.mp e'
        have hz : (S z).cps.toList = z := by simp [S]
        refine ix_str value slice pins s σ H _ _ v u Q I rx ry ⟨S z, i, c, rfl, rfl, lim_line (by simpa [S, Str.length] using hl), ?_, k _ (.str [c])⟩ hs
        rw [hz]
        unfold atI
        rw [← place_eq, q]
        exact hc
    | _ => cases e
  | dct t ks vs =>
    have e' : (if SL.keyOk t dy = true then SL.dget ks vs dy else none) = some d := by cases dy <;> exact e
    split at e'
    · rename_i hk
      obtain ⟨a, o, rfl, g, _, ho⟩ := dget_of cx cy hk
      obtain ⟨w', rfl, r⟩ := ho d e'
      exact ix_dict (by omega) value slice pins s σ H _ _ v u Q I rx ry ⟨a, w', rfl, g, k _ r⟩ hs
    · cases e'
  | _ => cases dy <;> cases e

theorem edge_eq (n d : Nat) (i : Int) : SL.edge n i = HT.sIx n d (some i) := by
  show (if 0 ≤ i then min i.toNat n else (i + n).toNat) = if i < 0 then (i + (n : Int)).toNat else min i.toNat n
  by_cases h : 0 ≤ i
  · rw [if_pos h, if_neg (by omega)]
  · rw [if_neg h, if_pos (by omega)]
theorem cut_eq {α : Type} (xs : List α) (lo hi : Option Int) : SL.cut xs lo hi = (xs.drop (HT.sIx xs.length 0 lo)).take (HT.sIx xs.length xs.length hi - HT.sIx xs.length 0 lo) := by
  unfold SL.cut
  cases lo <;> cases hi <;> simp only [edge_eq xs.length 0, edge_eq xs.length xs.length] <;> rfl
theorem Rps.cut {K : PySem.W.Frag} {F : Hp} {xs : List V} {ds : List D} (r : Rps K F xs ds) (lo hi : Option Int) : Rps K F (cutV xs lo hi) (SL.cut ds lo hi) := by
  rw [cut_eq]
  unfold cutV
  rw [r.length]
  exact (r.drop _).take _
def rSlice (K : PySem.W.Frag) : V → Option Int → Option Int → Hp → VK → Prop := fun x lo hi H Q => ∃ F dx p, Same F H ∧ Cn K F H x dx ∧ SL.slice lo hi dx = some p ∧ ∀ v H', Made K F H p v H' → Q v H'
theorem sl_slice : SlR X (rSlice X.K) := by
  intro pins s σ H x v vl vu lo hi sl Q I rx hs pl pu h
  obtain ⟨F, dx, p, sub, cx, e, k⟩ := h
  cases dx with
  | lst ds =>
    cases e
    obtain ⟨a, xs, rfl, h1, r1⟩ := cx
    exact sl_list pins s σ H _ v vl vu lo hi sl Q I rx hs pl pu ⟨a, xs, rfl, h1, fun q hq => k _ _ ⟨q, _, hq, rfl, rfl, _, rfl, r1.cut lo hi⟩⟩
  | tup ds =>
    cases e
    obtain ⟨a, xs, rfl, h1, r1, f1⟩ := cx
    refine sl_tupA pins s σ H _ v vl vu lo hi sl Q I rx hs pl pu ⟨a, xs, rfl, .inl (.inl h1), fun hw => k _ _ (.inl ⟨rfl, ?_⟩), fun hw q hq => k _ _ (.inr ⟨q, _, _, hq, rfl, rfl, rfl, r1.cut lo hi⟩)⟩
    have e2 : SL.cut ds lo hi = ds := by
      rw [cut_eq, ← r1.length, hw.1, hw.2, List.drop_zero, Nat.sub_zero]
      exact List.take_of_length_le (by rw [r1.length]; exact Nat.le_refl _)
    rw [e2]
    exact .tup f1 r1
  | str z =>
    have e' : (if z.length ≤ SL.lim then some (PV.sh (.str (SL.cut z lo hi))) else none) = some p := e
    obtain ⟨hl, e'⟩ := ite_some e'
    cases e'
    obtain rfl : x = .str (S z) := cx
    refine sl_str pins s σ H _ v vl vu lo hi sl Q I rx hs pl pu ⟨S z, rfl, lim_line (by simpa [S, Str.length] using hl), ?_⟩
    have e2 : cutS (S z) lo hi = S (SL.cut z lo hi) := by
      unfold cutS
      rw [cut_eq]
      simp [S, Str.length]
    rw [e2]
    exact k _ _ (.inl ⟨rfl, .str _⟩)
  | _ => cases e

/-! ### built-ins -/
inductive Cns (K : PySem.W.Frag) (F H : Hp) : List V → List D → Prop
  | nil : Cns K F H [] []
  | cons {v : V} {vs : List V} {d : D} {ds : List D} : Cn K F H v d → Cns K F H vs ds → Cns K F H (v :: vs) (d :: ds)
def rBi (K : PySem.W.Frag) (b : SL.Bi) : List V → Hp → VK → Prop := fun vs H Q => ∃ F ds p, Same F H ∧ Cns K F H vs ds ∧ SL.bi b ds = some p ∧ ∀ v H', Made K F H p v H' → Q v H'
theorem Cns.one {K : PySem.W.Frag} {F H : Hp} {vs : List V} {d : D} (c : Cns K F H vs [d]) : ∃ v, vs = [v] ∧ Cn K F H v d := by
  cases c with
  | cons h r => cases r; exact ⟨_, rfl, h⟩
theorem Cns.two {K : PySem.W.Frag} {F H : Hp} {vs : List V} {d e : D} (c : Cns K F H vs [d, e]) : ∃ v w, vs = [v, w] ∧ Cn K F H v d ∧ Cn K F H w e := by
  cases c with
  | cons h r => cases r with
    | cons h2 r2 => cases r2; exact ⟨_, _, rfl, h, h2⟩
theorem bi_one {b : SL.Bi} {ds : List D} {p : PV} (hb : b ≠ .max2 ∧ b ≠ .min2) (e : SL.bi b ds = some p) : ∃ d, ds = [d] ∧ SL.bi1 b d = some p := by
  cases ds with
  | nil => cases e
  | cons d r =>
    cases r with
    | nil => exact ⟨d, rfl, e⟩
    | cons d2 r2 =>
      exfalso
      cases r2 with
      | nil =>
        have e' : SL.bi2 b d d2 = some p := e
        cases b <;> first | exact hb.1 rfl | exact hb.2 rfl | cases e'
      | cons _ _ => cases e
theorem bi_two {b : SL.Bi} {ds : List D} {p : PV} (hb : b = .max2 ∨ b = .min2) (e : SL.bi b ds = some p) : ∃ i j, ds = [.int i, .int j] ∧ SL.bi2 b (.int i) (.int j) = some p := by
  cases ds with
  | nil => cases e
  | cons d r =>
    cases r with
    | nil =>
      have e' : SL.bi1 b d = some p := e
      rcases hb with rfl | rfl <;> cases e'
    | cons d2 r2 =>
      cases r2 with
      | nil =>
        have e' : SL.bi2 b d d2 = some p := e
        rcases hb with rfl | rfl <;> (cases d <;> first | (cases d2 <;> first | exact ⟨_, _, rfl, e'⟩ | cases e') | cases e')
      | cons _ _ => cases e
theorem cb_len : CallR X (.builtin "len") (rBi X.K .len) := by
  intro pins s σ H xs us Q I r h
  obtain ⟨F, ds, p, sub, c, e, k⟩ := h
  obtain ⟨d, rfl, e⟩ := bi_one ⟨by decide, by decide⟩ e
  obtain ⟨v, rfl, cv⟩ := c.one
  cases d with
  | lst ds =>
    cases e
    obtain ⟨a, ys, rfl, h1, r1⟩ := cv
    exact call_len_seq pins s σ H _ us Q I r ⟨a, ys, rfl, .inl h1, k _ _ (.inl ⟨rfl, by rw [r1.length]; exact .int _⟩)⟩
  | tup ds =>
    cases e
    obtain ⟨a, ys, rfl, h1, r1, _⟩ := cv
    exact call_len_seq pins s σ H _ us Q I r ⟨a, ys, rfl, .inr (.inl (.inl h1)), k _ _ (.inl ⟨rfl, by rw [r1.length]; exact .int _⟩)⟩
  | str z =>
    have e' : (if z.length ≤ SL.lim then some (PV.sh (.int z.length)) else none) = some p := e
    obtain ⟨hl, e'⟩ := ite_some e'
    cases e'
    obtain rfl : v = .str (S z) := cv
    refine call_len_str pins s σ H _ us Q I r ⟨S z, rfl, lim_line (by simpa [S, Str.length] using hl), ?_⟩
    have e2 : (S z).length = z.length := by simp [S, Str.length]
    rw [e2]
    exact k _ _ (.inl ⟨rfl, .int _⟩)
  | dct t ks vs =>
    cases t with
    | false =>
      cases e
      obtain ⟨a, kvs, is, rfl, h1, e1, e2, r1⟩ := cv
      rw [Vals.ref1 r]
      refine d_len I h1 fun t s' I' => ⟨.int kvs.length, H, I', ⟨t, rfl⟩, ?_⟩
      have e3 : kvs.length = ks.length := by
        have := congrArg List.length e1
        rw [e2]
        simpa [hI, kI] using this
      rw [e3]
      exact k _ _ (.inl ⟨rfl, .int _⟩)
    | true => cases e
  | _ => cases e
theorem cb_abs : CallR X (.builtin "abs") (rBi X.K .abs) := by
  intro pins s σ H xs us Q I r h
  obtain ⟨F, ds, p, sub, c, e, k⟩ := h
  obtain ⟨d, rfl, e⟩ := bi_one ⟨by decide, by decide⟩ e
  obtain ⟨v, rfl, cv⟩ := c.one
  cases d with
  | int i =>
    cases e
    obtain rfl : v = .int i := cv
    exact call_abs pins s σ H _ us Q I r ⟨i, rfl, k _ _ (.inl ⟨rfl, .int _⟩)⟩
  | _ => cases e
theorem cb_max2 (hc : X.calm = true) : CallR X (.builtin "max") (rBi X.K .max2) := by
  intro pins s σ H xs us Q I r h
  obtain ⟨F, ds, p, sub, c, e, k⟩ := h
  obtain ⟨i, j, rfl, e⟩ := bi_two (.inl rfl) e
  cases e
  obtain ⟨v, w, rfl, c1, c2⟩ := c.two
  obtain rfl : v = .int i := c1
  obtain rfl : w = .int j := c2
  exact call_max2 hc pins s σ H _ us Q I r ⟨i, j, rfl, k _ _ (.inl ⟨rfl, .int _⟩)⟩
theorem cb_min2 (hc : X.calm = true) : CallR X (.builtin "min") (rBi X.K .min2) := by
  intro pins s σ H xs us Q I r h
  obtain ⟨F, ds, p, sub, c, e, k⟩ := h
  obtain ⟨i, j, rfl, e⟩ := bi_two (.inr rfl) e
  cases e
  obtain ⟨v, w, rfl, c1, c2⟩ := c.two
  obtain rfl : v = .int i := c1
  obtain rfl : w = .int j := c2
  exact call_min2 hc pins s σ H _ us Q I r ⟨i, j, rfl, k _ _ (.inl ⟨rfl, .int _⟩)⟩
theorem cb_sum (hc : X.calm = true) : CallR X (.builtin "sum") (rBi X.K .sum) := by
  intro pins s σ H xs us Q I r h
  obtain ⟨F, ds, p, sub, c, e, k⟩ := h
  obtain ⟨d, rfl, e⟩ := bi_one ⟨by decide, by decide⟩ e
  obtain ⟨v, rfl, cv⟩ := c.one
  cases d with
  | lst ds =>
    have e' : (match SL.intsD ds with | some xs => some (PV.sh (.int xs.sum)) | none => none) = some p := e
    cases q : SL.intsD ds with
    | none => rw [q] at e'; cases e'
    | some ns =>
      rw [q] at e'
      cases e'
      obtain ⟨a, ys, rfl, h1, r1⟩ := cv
      obtain ⟨rfl, _⟩ := r1.intsD q
      exact cr_sum hc pins s σ H _ us Q I r ⟨a, ns, rfl, h1, k _ _ (.inl ⟨rfl, .int _⟩)⟩
  | _ => cases e
theorem most_spec : ∀ (xs : List Int) (m : Int), SL.most m xs ∈ m :: xs ∧ ∀ y ∈ m :: xs, y ≤ SL.most m xs
  | [], m => ⟨by simp [SL.most], by simp [SL.most]⟩
  | x :: xs, m => by
    obtain ⟨h1, h2⟩ := most_spec xs (if m < x then x else m)
    have e : SL.most m (x :: xs) = SL.most (if m < x then x else m) xs := rfl
    rw [e]
    refine ⟨?_, fun y hy => ?_⟩
    · rcases List.mem_cons.mp h1 with h | h
      · rw [h]; split <;> simp
      · simp [h]
    · have q := h2 (if m < x then x else m) List.mem_cons_self
      rcases List.mem_cons.mp hy with rfl | hy
      · split at q <;> split <;> omega
      · rcases List.mem_cons.mp hy with rfl | hy
        · split at q <;> split <;> omega
        · exact h2 y (List.mem_cons_of_mem _ hy)
theorem least_spec : ∀ (xs : List Int) (m : Int), SL.least m xs ∈ m :: xs ∧ ∀ y ∈ m :: xs, SL.least m xs ≤ y
  | [], m => ⟨by simp [SL.least], by simp [SL.least]⟩
  | x :: xs, m => by
    obtain ⟨h1, h2⟩ := least_spec xs (if x < m then x else m)
    have e : SL.least m (x :: xs) = SL.least (if x < m then x else m) xs := rfl
    rw [e]
    refine ⟨?_, fun y hy => ?_⟩
    · rcases List.mem_cons.mp h1 with h | h
      · rw [h]; split <;> simp
      · simp [h]
    · have q := h2 (if x < m then x else m) List.mem_cons_self
      rcases List.mem_cons.mp hy with rfl | hy
      · split at q <;> split <;> omega
      · rcases List.mem_cons.mp hy with rfl | hy
        · split at q <;> split <;> omega
        · exact h2 y (List.mem_cons_of_mem _ hy)
theorem cb_all (hc : X.calm = true) : CallR X (.builtin "all") (rBi X.K .all) := by
  intro pins s σ H xs us Q I r h
  obtain ⟨F, ds, p, sub, c, e, k⟩ := h
  obtain ⟨d, rfl, e⟩ := bi_one ⟨by decide, by decide⟩ e
  obtain ⟨v, rfl, cv⟩ := c.one
  cases d with
  | lst ds =>
    have e' : (match SL.bools ds with | some bs => some (PV.sh (.bl (bs.all id))) | none => none) = some p := e
    cases q : SL.bools ds with
    | none => rw [q] at e'; cases e'
    | some ns =>
      rw [q] at e'
      cases e'
      obtain ⟨a, ys, rfl, h1, r1⟩ := cv
      obtain rfl := r1.bools q
      exact cr_all hc pins s σ H _ us Q I r ⟨a, ns, rfl, h1, k _ _ (.inl ⟨rfl, .bl _⟩)⟩
  | _ => cases e
theorem cb_any (hc : X.calm = true) : CallR X (.builtin "any") (rBi X.K .any) := by
  intro pins s σ H xs us Q I r h
  obtain ⟨F, ds, p, sub, c, e, k⟩ := h
  obtain ⟨d, rfl, e⟩ := bi_one ⟨by decide, by decide⟩ e
  obtain ⟨v, rfl, cv⟩ := c.one
  cases d with
  | lst ds =>
    have e' : (match SL.bools ds with | some bs => some (PV.sh (.bl (bs.any id))) | none => none) = some p := e
    cases q : SL.bools ds with
    | none => rw [q] at e'; cases e'
    | some ns =>
      rw [q] at e'
      cases e'
      obtain ⟨a, ys, rfl, h1, r1⟩ := cv
      obtain rfl := r1.bools q
      exact cr_any hc pins s σ H _ us Q I r ⟨a, ns, rfl, h1, k _ _ (.inl ⟨rfl, .bl _⟩)⟩
  | _ => cases e
theorem cb_int : CallR X (.type "int") (rBi X.K .int) := by
  intro pins s σ H xs us Q I r h
  obtain ⟨F, ds, p, sub, c, e, k⟩ := h
  obtain ⟨d, rfl, e⟩ := bi_one ⟨by decide, by decide⟩ e
  obtain ⟨v, rfl, cv⟩ := c.one
  cases d with
  | int i =>
    cases e
    obtain rfl : v = .int i := cv
    exact call_int1 pins s σ H _ us Q I r (.inl ⟨i, rfl, k _ _ (.inl ⟨rfl, .int _⟩)⟩)
  | bl b =>
    cases e
    obtain rfl : v = .bl b := cv
    exact call_int1 pins s σ H _ us Q I r (.inr ⟨b, rfl, k _ _ (.inl ⟨rfl, .int _⟩)⟩)
  | _ => cases e
theorem cb_tuple : CallR X (.type "tuple") (rBi X.K .tuple) := by
  intro pins s σ H xs us Q I r h
  obtain ⟨F, ds, p, sub, c, e, k⟩ := h
  obtain ⟨d, rfl, e⟩ := bi_one ⟨by decide, by decide⟩ e
  obtain ⟨v, rfl, cv⟩ := c.one
  cases d with
  | lst ds =>
    cases e
    obtain ⟨a, ys, rfl, h1, r1⟩ := cv
    exact call_tuple_of pins s σ H _ us Q I r ⟨a, ys, rfl, .inl ⟨h1, fun q hq => k _ _ (.inr ⟨q, _, _, hq, rfl, rfl, rfl, r1⟩)⟩⟩
  | tup ds =>
    cases e
    obtain ⟨a, ys, rfl, h1, r1, f1⟩ := cv
    exact call_tuple_of pins s σ H _ us Q I r ⟨a, ys, rfl, .inr ⟨.inl (.inl h1), k _ _ (.inl ⟨rfl, .tup f1 r1⟩)⟩⟩
  | _ => cases e
theorem cb_list (hc : X.calm = true) : CallR X (.type "list") (rBi X.K .list) := by
  intro pins s σ H xs us Q I r h
  obtain ⟨F, ds, p, sub, c, e, k⟩ := h
  obtain ⟨d, rfl, e⟩ := bi_one ⟨by decide, by decide⟩ e
  obtain ⟨v, rfl, cv⟩ := c.one
  cases d with
  | lst ds =>
    cases e
    obtain ⟨a, ys, rfl, h1, r1⟩ := cv
    exact call_list_of pins s σ H _ us Q I r ⟨a, ys, rfl, .inl h1, fun q hq => k _ _ ⟨q, _, hq, rfl, rfl, _, rfl, r1⟩⟩
  | tup ds =>
    cases e
    obtain ⟨a, ys, rfl, h1, r1, f1⟩ := cv
    exact call_list_of pins s σ H _ us Q I r ⟨a, ys, rfl, .inr (.inl (.inl h1)), fun q hq => k _ _ ⟨q, _, hq, rfl, rfl, _, rfl, r1⟩⟩
  | dct t ks vs =>
    cases t with
    | false =>
      cases e
      obtain ⟨a, kvs, is, rfl, h1, e1, e2, r1⟩ := cv
      refine call_listD hc pins s σ H _ us Q I r ⟨a, kvs, rfl, h1, fun q hq => k _ _ ⟨q, _, hq, rfl, rfl, _, rfl, ?_⟩⟩
      have e3 : kvs.map (fun kv => kV kv.1) = is.map V.int := by
        have q2 : kvs.map (fun kv => kV kv.1) = (kvs.map (·.1)).map kV := by rw [List.map_map]; rfl
        rw [q2, e1]
        unfold hI
        rw [List.map_map]; rfl
      rw [e3, e2]
      exact Rps.of_map (fun i => .int i) is
    | true => cases e
  | _ => cases e
end
end SLS

/-! ## S6 -/
set_option Elab.async false
set_option linter.all false
set_option autoImplicit false
set_option maxRecDepth 100000
/-! Soundness 6: expressions put together. -/
namespace SLS
open PySem PySem.Spec PyProof.Rows L2
open SL (D Slot PV Res)
section
variable {X : Cx} {E : XK} {cl : Nat → Value} {e e1 e2 e3 : Expr} {es : List Expr} {pos : Pos} {r r1 r2 r3 : List Slot → Res PV}

/-- a step's end: what is made is the answer -/
theorem made_end {C : Cfg} {F H H' : Hp} {σ ts : List (Option V)} {ρ τ : List Slot} {p : PV} {v : V} {Q : VK} (a : At X.K C F H σ ts ρ τ) (m : Made X.K F H p v H')
    (k : ∀ v F' H', Same F F' → Post X.K C σ ts ρ τ p v F' H' → Q v H') : Q v H' := by
  obtain ⟨F', s, po⟩ := m.post a
  exact k v F' H' s po

/-! ### displays -/
theorem a_nil : PA X [] (RdL E cl X.K fun ρ => .ok [] ρ) := PA.weak pa_nil fun σ H Q ⟨C, F, ts, ρ, τ, a, o⟩ => o [] F H (Same.refl F) a .nil
theorem a_cons {rs : List Slot → Res (List D)} (he : PE X e (RdE E cl X.K r)) (hs : PA X es (RdL E cl X.K rs)) (hst : starEach (e :: es) X.env = (false, eval e X.env) :: starEach es X.env) :
    PA X (e :: es) (RdL E cl X.K fun ρ => (SL.frzR (r ρ)).bind fun d ρ1 => (rs ρ1).bind fun ds ρ2 => .ok (d :: ds) ρ2) := by
  refine PA.weak (pa_cons (e_frz he) hs hst) fun σ H Q ⟨C, F, ts, ρ, τ, a, o⟩ => ⟨C, F, ts, ρ, τ, a, o.bind.imp fun d ρ1 o1 v F1 H1 s1 a1 w1 => ?_⟩
  exact ⟨C, F1, ts, ρ1, τ, a1, (o1.mono s1).bind.imp fun ds ρ2 o2 vs F2 H2 s2 a2 w2 => o2 _ F2 H2 (s1.trans s2) a2 (.cons (w1.mono s2) w2)⟩
theorem e_tup {rs : List Slot → Res (List D)} {k : Nat} (hs : PA X es (RdL E cl X.K rs)) (hl : ∀ ρ ds ρ', rs ρ = .ok ds ρ' → ds.length ≤ SL.lim) :
    PE X (.Tuple es k pos) (RdE E cl X.K fun ρ => (rs ρ).bind fun ds ρ' => .ok (.sh (.tup ds)) ρ') := by
  refine PE.weak (pe_tup hs) fun σ H Q ⟨C, F, ts, ρ, τ, a, o⟩ => ⟨C, F, ts, ρ, τ, a, ?_⟩
  cases q : rs ρ with
  | stuck => simp only [q] at o; exact o.elim
  | exc k ρ' => simp only [q] at o; exact o
  | ok ds ρ' =>
    simp only [q] at o
    intro vs F1 H1 s1 a1 w1
    refine ⟨lim_line (by rw [w1.length]; exact hl ρ ds ρ' q), fun p hp => ?_⟩
    exact made_end a1 (p := .sh (.tup ds)) (.inr ⟨p, vs, ds, hp, rfl, rfl, rfl, w1⟩) fun v F' H' s' po => o v F' H' (s1.trans s') po
theorem e_lst {rs : List Slot → Res (List D)} (hs : PA X es (RdL E cl X.K rs)) (hl : ∀ ρ ds ρ', rs ρ = .ok ds ρ' → ds.length ≤ SL.lim) :
    PE X (.List es pos) (RdE E cl X.K fun ρ => (rs ρ).bind fun ds ρ' => .ok (.mu (.lst ds)) ρ') := by
  refine PE.weak (pe_lst hs) fun σ H Q ⟨C, F, ts, ρ, τ, a, o⟩ => ⟨C, F, ts, ρ, τ, a, ?_⟩
  cases q : rs ρ with
  | stuck => simp only [q] at o; exact o.elim
  | exc k ρ' => simp only [q] at o; exact o
  | ok ds ρ' =>
    simp only [q] at o
    intro vs F1 H1 s1 a1 w1
    refine ⟨lim_line (by rw [w1.length]; exact hl ρ ds ρ' q), fun p hp => ?_⟩
    exact made_end a1 (p := .mu (.lst ds)) ⟨p, _, hp, rfl, rfl, vs, rfl, w1⟩ fun v F' H' s' po => o v F' H' (s1.trans s') po
theorem e_dnew : PE X (.Dict [] [] pos) (RdE E cl X.K fun ρ => .ok (.mu (.dct true [] [])) ρ) := by
  refine PE.weak pe_dnewT fun σ H Q ⟨C, F, ts, ρ, τ, a, o⟩ p hp => ?_
  exact made_end a (p := .mu (.dct true [] [])) ⟨p, _, hp, rfl, rfl, [], [], rfl, rfl, rfl, .nil⟩ fun v F' H' s' po => o v F' H' s' po

/-! ### two operands -/
/-- two operands in a row, then f of what they are -/
theorem two {op : R2} {f : D → D → Option PV} {σ : L2.St} {H : Hp} {Q : VK}
    (h : RdE E cl X.K (fun ρ => (r1 ρ).bind fun p ρ1 => (r2 ρ1).bind fun q ρ2 => match SL.peek ρ2 p, SL.peek ρ2 q with | some x, some y => SL.lift (f x y) ρ2 | _, _ => .stuck) σ H Q)
    (hop : ∀ x y H F dx dy p, Same F H → Cn X.K F H x dx → Cn X.K F H y dy → f dx dy = some p → (∀ v H', Made X.K F H p v H' → Q v H') → op x y H Q) :
    tOp op (RdE E cl X.K r1) (RdE E cl X.K r2) σ H Q := by
  obtain ⟨C, F, ts, ρ, τ, a, o⟩ := h
  refine ⟨C, F, ts, ρ, τ, a, o.bind.imp fun p ρ1 o1 x F1 H1 s1 p1 => ?_⟩
  obtain ⟨F1', s1', a1, w1⟩ := p1.opd
  refine ⟨C, F1', ts, ρ1, τ, a1, (o1.mono (s1.trans s1')).bind.imp fun q ρ2 o2 y F2 H2 s2 p2 => ?_⟩
  obtain ⟨F2', s2', a2, w2⟩ := p2.opd
  cases e1 : SL.peek ρ2 p with
  | none => simp only [e1] at o2; exact o2.elim
  | some dx =>
    cases e2 : SL.peek ρ2 q with
    | none => simp only [e1, e2] at o2; exact o2.elim
    | some dy =>
      simp only [e1, e2] at o2
      cases e3 : f dx dy with
      | none => simp only [e3] at o2; exact o2.elim
      | some pv =>
        simp only [e3] at o2
        refine hop x y H2 F2' dx dy pv a2.fs.sub ((w1.mono (s2.trans s2')).cn a2 e1) (w2.cn a2 e2) e3 fun v H' m => ?_
        exact made_end a2 m fun v F' H' s' po => o2 v F' H' ((s1.trans s1').trans (s2.trans (s2'.trans s'))) po
theorem e_bin (o : SL.Op) (h1 : PE X e1 (RdE E cl X.K r1)) (h2 : PE X e2 (RdE E cl X.K r2)) : PE X (.BinOp e1 (opOf o) e2 pos)
    (RdE E cl X.K fun ρ => (r1 ρ).bind fun p ρ1 => (r2 ρ1).bind fun q ρ2 => match SL.peek ρ2 p, SL.peek ρ2 q with | some x, some y => SL.lift (SL.binop o x y) ρ2 | _, _ => .stuck) :=
  PE.weak (pe_op (op_bin o) h1 h2) fun σ H Q h => two (f := SL.binop o) h fun x y H F dx dy p s cx cy e k => ⟨F, dx, dy, p, s, cx, cy, e, k⟩
def cmpF (o : SL.Cmp) (x y : D) : Option PV := (SL.cmpop o x y).map fun b => .sh (.bl b)
theorem cmp_hop {o : SL.Cmp} {Q : VK} : ∀ (x y : V) (H F : Hp) (dx dy : D) (p : PV), Same F H → Cn X.K F H x dx → Cn X.K F H y dy → cmpF o dx dy = some p → (∀ v H', Made X.K F H p v H' → Q v H') → rCmp X.K o x y H Q := fun x y H F dx dy p s cx cy e k => by
  obtain ⟨b, e', rfl⟩ := Option.map_eq_some_iff.mp e
  exact ⟨F, dx, dy, b, s, cx, cy, e', k _ _ (.inl ⟨rfl, .bl b⟩)⟩
theorem cmp_rd {o : SL.Cmp} : (fun ρ => (r1 ρ).bind fun p ρ1 => (r2 ρ1).bind fun q ρ2 => match SL.peek ρ2 p, SL.peek ρ2 q with
    | some x, some y => (match SL.cmpop o x y with | some r => Res.ok (PV.sh (.bl r)) ρ2 | none => .stuck) | _, _ => .stuck) =
    (fun ρ => (r1 ρ).bind fun p ρ1 => (r2 ρ1).bind fun q ρ2 => match SL.peek ρ2 p, SL.peek ρ2 q with | some x, some y => SL.lift (cmpF o x y) ρ2 | _, _ => .stuck) := by
  funext ρ
  congr 1
  funext p ρ1
  congr 1
  funext q ρ2
  cases SL.peek ρ2 p with
  | none => rfl
  | some x =>
    cases SL.peek ρ2 q with
    | none => rfl
    | some y =>
      show (match SL.cmpop o x y with | some r => Res.ok (PV.sh (.bl r)) ρ2 | none => .stuck) = SL.lift (cmpF o x y) ρ2
      unfold cmpF
      cases SL.cmpop o x y <;> rfl
theorem e_cmp (hu : X.A.units + 100 < cLine) (o : SL.Cmp) (h1 : PE X e1 (RdE E cl X.K r1)) (h2 : PE X e2 (RdE E cl X.K r2)) (hm : behindInMarks (cmpOf o) e2 = false) : PE X (.Compare e1 [cmpOf o] [e2] pos)
    (RdE E cl X.K fun ρ => (r1 ρ).bind fun p ρ1 => (r2 ρ1).bind fun q ρ2 => match SL.peek ρ2 p, SL.peek ρ2 q with
      | some x, some y => (match SL.cmpop o x y with | some r => .ok (.sh (.bl r)) ρ2 | none => .stuck) | _, _ => .stuck) := by
  rw [cmp_rd]
  exact PE.weak (pe_cmpR (op_cmp hu o) h1 h2 hm) fun σ H Q h => two (f := cmpF o) h cmp_hop
/-- a test by its value -/
def RdT (E : XK) (cl : Nat → Value) (K : PySem.W.Frag) (r : List Slot → Res PV) : TT := RdB E cl K fun ρ => SL.asB (r ρ)
theorem test_rd {σ : L2.St} {H : Hp} {Q : Bool → Hp → Prop} (h : RdT E cl X.K r σ H Q) : RdE E cl X.K r σ H fun x H' => ∃ k, x = .bl k ∧ Q k H' := by
  obtain ⟨C, F, ts, ρ, τ, a, o⟩ := h
  refine ⟨C, F, ts, ρ, τ, a, o.bind.imp fun p ρ1 o1 v F1 H1 s1 p1 => ?_⟩
  obtain ⟨F2, s2, a2, w2⟩ := p1.opd
  cases q : SL.peek ρ1 p with
  | none => simp only [q] at o1; exact False.elim o1
  | some d =>
    simp only [q] at o1
    have c := w2.cn a2 q
    cases d with
    | bl b => exact ⟨b, c, o1 F2 H1 (s1.trans s2) a2⟩
    | _ => exact False.elim o1
theorem t_cmp (hu : X.A.units + 100 < cLine) (o : SL.Cmp) (h1 : PE X e1 (RdE E cl X.K r1)) (h2 : PE X e2 (RdE E cl X.K r2)) (hm : behindInMarks (cmpOf o) e2 = false) : PT X (.Compare e1 [cmpOf o] [e2] pos)
    (RdT E cl X.K fun ρ => (r1 ρ).bind fun p ρ1 => (r2 ρ1).bind fun q ρ2 => match SL.peek ρ2 p, SL.peek ρ2 q with
      | some x, some y => (match SL.cmpop o x y with | some r => .ok (.sh (.bl r)) ρ2 | none => .stuck) | _, _ => .stuck) := by
  rw [cmp_rd]
  exact PT.weak (pt_cmpR (op_cmp hu o) h1 h2 hm) fun σ H Q h => two (f := cmpF o) (test_rd h) cmp_hop
/-- any other expression as a test -/
theorem t_val (h : PE X e (RdE E cl X.K r)) (he : ∀ whole, isTrue e X.env whole = (do let v ← whole; standAt e.pos; holding [v] (truthy v))) : PT X e (RdT E cl X.K r) :=
  PT.weak (pt_val h he) fun σ H Q h => test_rd h
/-- a < b < c -/
def chainR (o1 o2 : SL.Cmp) (r1 r2 r3 : List Slot → Res PV) (ρ : List Slot) : Res PV := (r1 ρ).bind fun p ρ1 => (r2 ρ1).bind fun q ρ2 =>
      match SL.peek ρ2 p, SL.peek ρ2 q with
      | some x, some y => match SL.cmpop o1 x y with
        | some true => (r3 ρ2).bind fun r ρ3 => match SL.peek ρ3 q, SL.peek ρ3 r with
          | some y', some z => match SL.cmpop o2 y' z with
            | some t => .ok (.sh (.bl t)) ρ3
            | none => .stuck
          | _, _ => .stuck
        | some false => .ok (.sh (.bl false)) ρ2
        | none => .stuck
      | _, _ => .stuck
theorem chain_rd {u1 u2 : SL.Cmp} {σ : L2.St} {H : Hp} {Q : VK} (h : RdE E cl X.K (chainR u1 u2 r1 r2 r3) σ H Q) :
    tChain (rCmp X.K u1) (rCmp X.K u2) (RdE E cl X.K r1) (RdE E cl X.K r2) (RdE E cl X.K r3) σ H Q := by
  obtain ⟨C, F, ts, ρ, τ, a, o⟩ := h
  refine ⟨C, F, ts, ρ, τ, a, o.bind.imp fun p ρ1 o1 x F1 H1 s1 p1 => ?_⟩
  obtain ⟨F1', s1', a1, w1⟩ := p1.opd
  refine ⟨C, F1', ts, ρ1, τ, a1, (o1.mono (s1.trans s1')).bind.imp fun q ρ2 o2 y F2 H2 s2 p2 => ?_⟩
  obtain ⟨F2', s2', a2, w2⟩ := p2.opd
  cases e1 : SL.peek ρ2 p with
  | none => simp only [e1] at o2; exact False.elim o2
  | some dx =>
    cases e2 : SL.peek ρ2 q with
    | none => simp only [e1, e2] at o2; exact False.elim o2
    | some dy =>
      simp only [e1, e2] at o2
      have w1' := w1.mono (s2.trans s2')
      cases e3 : SL.cmpop u1 dx dy with
      | none => simp only [e3] at o2; exact False.elim o2
      | some b =>
        refine ⟨F2', dx, dy, b, a2.fs.sub, w1'.cn a2 e1, w2.cn a2 e2, e3, b, rfl, ?_⟩
        cases b with
        | false =>
          simp only [e3] at o2
          rw [if_neg Bool.false_ne_true]
          exact o2 _ F2' H2 ((s1.trans s1').trans (s2.trans s2')) ⟨.bl false, a2⟩
        | true =>
          simp only [e3] at o2
          rw [if_pos rfl]
          refine ⟨C, F2', ts, ρ2, τ, a2, (o2.mono (s2.trans s2')).bind.imp fun z ρ3 o3 w F3 H3 s3 p3 => ?_⟩
          obtain ⟨F3', s3', a3, w3⟩ := p3.opd
          cases e4 : SL.peek ρ3 q with
          | none => simp only [e4] at o3; exact False.elim o3
          | some dy' =>
            cases e5 : SL.peek ρ3 z with
            | none => simp only [e4, e5] at o3; exact False.elim o3
            | some dz =>
              simp only [e4, e5] at o3
              cases e6 : SL.cmpop u2 dy' dz with
              | none => simp only [e6] at o3; exact False.elim o3
              | some t =>
                simp only [e6] at o3
                exact ⟨F3', dy', dz, t, a3.fs.sub, (w2.mono (s3.trans s3')).cn a3 e4, w3.cn a3 e5, e6, o3 _ F3' H3 (((s1.trans s1').trans (s2.trans s2')).trans (s3.trans s3')) ⟨.bl t, a3⟩⟩
theorem e_chain (hu : X.A.units + 100 < cLine) (o1 o2 : SL.Cmp) (h1 : PE X e1 (RdE E cl X.K r1)) (h2 : PE X e2 (RdE E cl X.K r2)) (h3 : PE X e3 (RdE E cl X.K r3)) (hm : lastMarks [cmpOf o1, cmpOf o2] [e2, e3] = false) :
    PE X (.Compare e1 [cmpOf o1, cmpOf o2] [e2, e3] pos) (RdE E cl X.K (chainR o1 o2 r1 r2 r3)) := PE.weak (pe_chain (op_cmp hu o1) (op_cmp hu o2) h1 h2 h3 hm) fun σ H Q h => chain_rd h
theorem t_chain (hu : X.A.units + 100 < cLine) (o1 o2 : SL.Cmp) (h1 : PE X e1 (RdE E cl X.K r1)) (h2 : PE X e2 (RdE E cl X.K r2)) (h3 : PE X e3 (RdE E cl X.K r3)) (hm : lastMarks [cmpOf o1, cmpOf o2] [e2, e3] = false) :
    PT X (.Compare e1 [cmpOf o1, cmpOf o2] [e2, e3] pos) (RdT E cl X.K (chainR o1 o2 r1 r2 r3)) := PT.weak (pt_chain (op_cmp hu o1) (op_cmp hu o2) h1 h2 h3 hm) fun σ H Q h => chain_rd (test_rd h)

/-! ### not, and, or -/
theorem e_not (h : PE X e (RdE E cl X.K r)) : PE X (.UnaryOp .Not e pos) (RdE E cl X.K fun ρ => (SL.asB (r ρ)).bind fun b ρ1 => .ok (.sh (.bl (!b))) ρ1) := by
  refine PE.weak (pe_not h) fun σ H Q ⟨C, F, ts, ρ, τ, a, o⟩ => test_rd ⟨C, F, ts, ρ, τ, a, o.bind.imp fun b ρ1 o1 F1 H1 s1 a1 => ?_⟩
  exact o1 _ F1 H1 s1 ⟨.bl _, a1⟩
theorem t_not (h : PT X e (RdT E cl X.K r)) : PT X (.UnaryOp .Not e pos) (RdT E cl X.K fun ρ => (SL.asB (r ρ)).bind fun b ρ1 => .ok (.sh (.bl (!b))) ρ1) := by
  refine PT.weak (pt_not h) fun σ H Q ⟨C, F, ts, ρ, τ, a, o⟩ => ⟨C, F, ts, ρ, τ, a, o.bind.bind.imp fun b ρ1 o1 F1 H1 s1 a1 => ?_⟩
  exact o1 F1 H1 s1 a1
/-- several tests: all of them, one of them -/
inductive Tests (X : Cx) (E : XK) (cl : Nat → Value) : List Expr → List (List Slot → Res PV) → Prop
  | nil : Tests X E cl [] []
  | cons {e : Expr} {es : List Expr} {r : List Slot → Res PV} {rs : List (List Slot → Res PV)} : PT X e (RdT E cl X.K r) → PE X e (RdE E cl X.K r) → Tests X E cl es rs → Tests X E cl (e :: es) (r :: rs)
def andR : List (List Slot → Res PV) → List Slot → Res Bool
  | [], ρ => .ok true ρ
  | r :: rs, ρ => (SL.asB (r ρ)).bind fun b ρ1 => if b then andR rs ρ1 else .ok false ρ1
def orR : List (List Slot → Res PV) → List Slot → Res Bool
  | [], ρ => .ok false ρ
  | r :: rs, ρ => (SL.asB (r ρ)).bind fun b ρ1 => if b then .ok true ρ1 else orR rs ρ1
theorem bind_true {x : Res Bool} : (x.bind fun b ρ1 => if b then Res.ok true ρ1 else .ok false ρ1) = x := by
  cases x with
  | ok b ρ => cases b <;> rfl
  | exc k ρ => rfl
  | stuck => rfl
theorem w_and : ∀ {es : List Expr} {rs : List (List Slot → Res PV)}, Tests X E cl es rs → es ≠ [] → PW X (.BoolOp .And es pos) (RdB E cl X.K (andR rs))
  | _, _, .nil, h => absurd rfl h
  | _, _, .cons (r := r) h _ .nil, _ => by
    have q : andR [r] = fun ρ => SL.asB (r ρ) := by
      funext ρ
      show (SL.asB (r ρ)).bind (fun b ρ1 => if b then Res.ok true ρ1 else .ok false ρ1) = _
      exact bind_true
    rw [q]
    exact pw_and1 h
  | _, _, .cons (r := r) h _ (.cons h2 h3 t), _ => by
    have ih := w_and (.cons h2 h3 t) (by simp)
    refine ⟨fun wh pins s σ H Q I hw => (pw_and h ih).run wh pins s σ H Q I ?_⟩
    obtain ⟨C, F, ts, ρ, τ, a, o⟩ := hw
    refine ⟨C, F, ts, ρ, τ, a, o.bind.imp fun b ρ1 o1 F1 H1 s1 a1 => ?_⟩
    cases b with
    | false => rw [if_neg Bool.false_ne_true]; exact o1 F1 H1 s1 a1
    | true => rw [if_pos rfl]; exact ⟨C, F1, ts, ρ1, τ, a1, (o1.mono s1).imp fun b ρ2 o2 F2 H2 s2 a2 => o2 F2 H2 (s1.trans s2) a2⟩
theorem w_or : ∀ {es : List Expr} {rs : List (List Slot → Res PV)}, Tests X E cl es rs → es ≠ [] → PW X (.BoolOp .Or es pos) (RdB E cl X.K (orR rs))
  | _, _, .nil, h => absurd rfl h
  | _, _, .cons (r := r) h _ .nil, _ => by
    have q : orR [r] = fun ρ => SL.asB (r ρ) := by
      funext ρ
      show (SL.asB (r ρ)).bind (fun b ρ1 => if b then Res.ok true ρ1 else .ok false ρ1) = _
      exact bind_true
    rw [q]
    exact pw_or1 h
  | _, _, .cons (r := r) h _ (.cons h2 h3 t), _ => by
    have ih := w_or (.cons h2 h3 t) (by simp)
    refine ⟨fun wh pins s σ H Q I hw => (pw_or h ih).run wh pins s σ H Q I ?_⟩
    obtain ⟨C, F, ts, ρ, τ, a, o⟩ := hw
    refine ⟨C, F, ts, ρ, τ, a, o.bind.imp fun b ρ1 o1 F1 H1 s1 a1 => ?_⟩
    cases b with
    | true => rw [if_pos rfl]; exact o1 F1 H1 s1 a1
    | false => rw [if_neg Bool.false_ne_true]; exact ⟨C, F1, ts, ρ1, τ, a1, (o1.mono s1).imp fun b ρ2 o2 F2 H2 s2 a2 => o2 F2 H2 (s1.trans s2) a2⟩
theorem e_and : ∀ {es : List Expr} {rs : List (List Slot → Res PV)}, Tests X E cl es rs → es ≠ [] → PE X (.BoolOp .And es pos) (RdE E cl X.K fun ρ => (andR rs ρ).bind fun b ρ1 => .ok (.sh (.bl b)) ρ1)
  | _, _, .nil, h => absurd rfl h
  | _, _, .cons (r := r) _ h .nil, _ => by
    refine PE.weak (pe_one h) fun σ H Q ⟨C, F, ts, ρ, τ, a, o⟩ => ?_
    obtain ⟨C, F, ts, ρ, τ, a, o⟩ : RdE E cl X.K r σ H fun x H' => ∃ k, x = .bl k ∧ Q (.bl k) H' := test_rd ⟨C, F, ts, ρ, τ, a, o.bind.bind.imp fun b ρ1 o1 F1 H1 s1 a1 => by
      cases b with
      | true => exact o1 _ F1 H1 s1 ⟨.bl _, a1⟩
      | false => exact o1 _ F1 H1 s1 ⟨.bl _, a1⟩⟩
    exact ⟨C, F, ts, ρ, τ, a, o.imp fun p ρ1 o1 v F1 H1 s1 p1 => by obtain ⟨k, rfl, q⟩ := o1 v F1 H1 s1 p1; exact q⟩
  | _, _, .cons (r := r) _ h (.cons h2 h3 t), _ => by
    have ih := e_and (.cons h2 h3 t) (by simp)
    refine PE.weak (pe_and h ih) fun σ H Q ⟨C, F, ts, ρ, τ, a, o⟩ => test_rd ⟨C, F, ts, ρ, τ, a, o.bind.bind.imp fun b ρ1 o1 F1 H1 s1 a1 => ?_⟩
    cases b with
    | false => rw [if_neg Bool.false_ne_true]; exact o1 _ F1 H1 s1 ⟨.bl _, a1⟩
    | true => rw [if_pos rfl]; exact ⟨C, F1, ts, ρ1, τ, a1, Out.bindI ((o1.mono s1).imp fun b ρ2 o2 v F2 H2 s2 p2 => o2 v F2 H2 (s1.trans s2) p2)⟩
theorem e_or : ∀ {es : List Expr} {rs : List (List Slot → Res PV)}, Tests X E cl es rs → es ≠ [] → PE X (.BoolOp .Or es pos) (RdE E cl X.K fun ρ => (orR rs ρ).bind fun b ρ1 => .ok (.sh (.bl b)) ρ1)
  | _, _, .nil, h => absurd rfl h
  | _, _, .cons (r := r) _ h .nil, _ => by
    refine PE.weak (pe_one h) fun σ H Q ⟨C, F, ts, ρ, τ, a, o⟩ => ?_
    obtain ⟨C, F, ts, ρ, τ, a, o⟩ : RdE E cl X.K r σ H fun x H' => ∃ k, x = .bl k ∧ Q (.bl k) H' := test_rd ⟨C, F, ts, ρ, τ, a, o.bind.bind.imp fun b ρ1 o1 F1 H1 s1 a1 => by
      cases b with
      | true => exact o1 _ F1 H1 s1 ⟨.bl _, a1⟩
      | false => exact o1 _ F1 H1 s1 ⟨.bl _, a1⟩⟩
    exact ⟨C, F, ts, ρ, τ, a, o.imp fun p ρ1 o1 v F1 H1 s1 p1 => by obtain ⟨k, rfl, q⟩ := o1 v F1 H1 s1 p1; exact q⟩
  | _, _, .cons (r := r) _ h (.cons h2 h3 t), _ => by
    have ih := e_or (.cons h2 h3 t) (by simp)
    refine PE.weak (pe_or h ih) fun σ H Q ⟨C, F, ts, ρ, τ, a, o⟩ => test_rd ⟨C, F, ts, ρ, τ, a, o.bind.bind.imp fun b ρ1 o1 F1 H1 s1 a1 => ?_⟩
    cases b with
    | true => rw [if_pos rfl]; exact o1 _ F1 H1 s1 ⟨.bl _, a1⟩
    | false => rw [if_neg Bool.false_ne_true]; exact ⟨C, F1, ts, ρ1, τ, a1, Out.bindI ((o1.mono s1).imp fun b ρ2 o2 v F2 H2 s2 p2 => o2 v F2 H2 (s1.trans s2) p2)⟩
theorem t_of_b {rb : List Slot → Res Bool} (h : PW X e (RdB E cl X.K rb)) : PT X e (RdT E cl X.K fun ρ => (rb ρ).bind fun b ρ1 => .ok (.sh (.bl b)) ρ1) := by
  refine PT.weak h.pt fun σ H Q ⟨C, F, ts, ρ, τ, a, o⟩ => ⟨C, F, ts, ρ, τ, a, o.bind.bind.imp fun b ρ1 o1 F1 H1 s1 a1 => o1 F1 H1 s1 a1⟩
/-- a if c else b -/
theorem e_ite (hc : PT X e (RdT E cl X.K r)) (h1 : PE X e1 (RdE E cl X.K r1)) (h2 : PE X e2 (RdE E cl X.K r2)) : PE X (.IfExp e e1 e2 pos)
    (RdE E cl X.K fun ρ => (SL.asB (r ρ)).bind fun t ρ1 => if t then (r1 ρ1).bind fun p ρ2 => .ok p ρ2 else (r2 ρ1).bind fun p ρ2 => .ok p ρ2) := by
  refine PE.weak (pe_ifExp hc h1 h2) fun σ H Q ⟨C, F, ts, ρ, τ, a, o⟩ => ⟨C, F, ts, ρ, τ, a, o.bind.imp fun b ρ1 o1 F1 H1 s1 a1 => ?_⟩
  cases b with
  | true => rw [if_pos rfl]; exact ⟨C, F1, ts, ρ1, τ, a1, (o1.mono s1).bind.imp fun p ρ2 o2 v F2 H2 s2 p2 => o2 v F2 H2 (s1.trans s2) p2⟩
  | false => rw [if_neg Bool.false_ne_true]; exact ⟨C, F1, ts, ρ1, τ, a1, (o1.mono s1).bind.imp fun p ρ2 o2 v F2 H2 s2 p2 => o2 v F2 H2 (s1.trans s2) p2⟩
end
end SLS

/-! ## S7 -/
set_option Elab.async false
set_option linter.all false
set_option autoImplicit false
set_option maxRecDepth 100000
/-! Soundness 7: calls. -/
namespace SLS
open PySem PySem.Spec PyProof.Rows L2
open SL (D Slot PV Res Ag)

def resSlot : PV → Slot
  | .sh d => .sh d
  | .mu d => .mu d
  | .slot _ => .no
abbrev callCfg (F B : Hp) (vs : List V) : Cfg := ⟨F, B, fun i => vs[i]?, fun _ => none⟩
/-- what a function promises -/
def SpF (K : PySem.W.Frag) (cl : Nat → Value) (f : List Slot → SL.Out) : Sp := fun vs H Q E => ∃ F B ss, Fs K (callCfg F B vs) F H (vs.map some) ss ∧
  match f ss with
  | .ret r lent => ∀ v F' H', Fs K (callCfg F B vs) F' H' (vs.map some ++ [some v]) (lent ++ [resSlot r]) → Q v H'
  | .exc k lent => ∀ F' H', Fs K (callCfg F B vs) F' H' (vs.map some) lent → E (cl k) none H'
  | .stuck => False
/-- arguments: their values; the own things that are given away stand in us, υ -/
inductive ArgsV (K : PySem.W.Frag) (F : Hp) (σ : List (Option V)) : List V → List Ag → List (Option V) → List Slot → Prop
  | nil : ArgsV K F σ [] [] [] []
  | val {v : V} {d : D} {vs : List V} {as : List Ag} {us : List (Option V)} {υ : List Slot} : Rp K F v d → ArgsV K F σ vs as us υ → ArgsV K F σ (v :: vs) (.val d :: as) us υ
  | len {v : V} {i : Nat} {vs : List V} {as : List Ag} {us : List (Option V)} {υ : List Slot} : (σ[i]?).join = some v → ArgsV K F σ vs as us υ → ArgsV K F σ (v :: vs) (.len i :: as) us υ
  | mov {v : V} {d : D} {vs : List V} {as : List Ag} {us : List (Option V)} {υ : List Slot} : ArgsV K F σ vs as us υ → ArgsV K F σ (v :: vs) (.mov d :: as) (some v :: us) (.mu d :: υ)
section
variable {K : PySem.W.Frag} {C : Cfg} {F F' H H' : Hp} {σ ts us : List (Option V)} {ρ ρ' τ υ : List Slot} {vs : List V} {as : List Ag}
theorem ArgsV.mono (e : Same F F') (h : ArgsV K F σ vs as us υ) : ArgsV K F' σ vs as us υ := by
  induction h with
  | nil => exact .nil
  | val r _ ih => exact .val (Rp.mono e r) ih
  | len r _ ih => exact .len r ih
  | mov _ ih => exact .mov ih
theorem Fs.addOwn {ws : List (Option V)} {R : List Slot} (s : Fs K C F H ws R) {p : Addr} {o : HO} {d : D} (hn : ∀ (i : Nat) (t : Slot), R[i]? = some t → owned t → (ws[i]?).join ≠ some (V.ref p))
    (f : F p = none) (b : C.B p = none) (h : H p = some o) (ho : Ow K F o d) : Fs K C F H (ws ++ [some (.ref p)]) (R ++ [.mu d]) := by
  have up : ∀ (i : Nat), i < ws.length → (ws ++ [some (V.ref p)])[i]? = ws[i]? := fun i h => List.getElem?_append_left h
  have lw : ∀ {i : Nat} {t : Slot}, (R ++ [Slot.mu d])[i]? = some t → (i < ws.length ∧ R[i]? = some t) ∨ (i = ws.length ∧ t = .mu d) := fun {i t} e => by
    by_cases h : i < R.length
    · rw [List.getElem?_append_left h] at e
      exact .inl ⟨by rw [s.len]; exact h, e⟩
    · have h' : i = R.length := by
        have := (List.getElem?_eq_some_iff.mp e).1
        rw [List.length_append, List.length_singleton] at this
        omega
      subst h'
      rw [List.getElem?_append_right (Nat.le_refl _), Nat.sub_self] at e
      exact .inr ⟨s.len.symm, (Option.some.inj e).symm⟩
  have lastv : (ws ++ [some (V.ref p)])[ws.length]? = some (some (V.ref p)) := by simp
  refine ⟨s.sub, s.old, s.frm, s.grow, by simp [s.len], fun i t e => ?_, fun i j t u q e1 e2 o1 o2 v1 v2 => ?_⟩
  · rcases lw e with ⟨h, e'⟩ | ⟨h, e'⟩
    · rw [up i h]; exact s.slot i t e'
    · subst h; subst e'
      rw [lastv]
      exact ⟨_, rfl, p, o, rfl, f, b, by assumption, ho⟩
  · rcases lw e1 with ⟨h1, e1⟩ | ⟨h1, e1⟩ <;> rcases lw e2 with ⟨h2, e2⟩ | ⟨h2, e2⟩
    · rw [up i h1] at v1; rw [up j h2] at v2
      exact s.inj i j t u q e1 e2 o1 o2 v1 v2
    · subst h2
      rw [lastv] at v2
      cases v2
      rw [up i h1] at v1
      exact (hn i t e1 o1 v1).elim
    · subst h1
      rw [lastv] at v1
      cases v1
      rw [up j h2] at v2
      exact (hn j u e2 o2 v2).elim
    · rw [h1, h2]
/-- nothing of one's own goes into the call -/
theorem Fs.after0 {B2 : Hp} {ws ws2 : List (Option V)} {R R2 : List Slot} {br : Nat → Option V} {lk : Nat → Option D} (s : Fs K C F H ws R) (c : Fs K ⟨F, H, br, lk⟩ F' H' ws2 R2) : Fs K C F' H' ws R :=
  s.ext c.frm c.old c.sub c.grow
/-- the own thing at k goes into the call -/
def but (H : Hp) (p : Addr) : Hp := fun b => if b = p then none else H b
theorem but_some {b p : Addr} {o : HO} (h : but H p b = some o) : b ≠ p ∧ H b = some o := by
  unfold but at h
  by_cases e : b = p
  · rw [if_pos e] at h; cases h
  · rw [if_neg e] at h; exact ⟨e, h⟩
theorem but_ne {b p : Addr} (h : b ≠ p) : but H p b = H b := by
  unfold but
  rw [if_neg h]
theorem but_same {p : Addr} : but H p p = none := by
  unfold but
  rw [if_pos rfl]
theorem but_none {b p : Addr} (h : but H p b = none) : b = p ∨ H b = none := by
  by_cases e : b = p
  · exact .inl e
  · rw [but_ne e] at h; exact .inr h
theorem Fs.after1 {ws ws2 : List (Option V)} {R R2 : List Slot} {br : Nat → Option V} {lk : Nat → Option D} {k : Nat} {t t' : Slot} {p : Addr} (s : Fs K C F H ws R) (hk : R[k]? = some t) (ow : owned t) (hv : (ws[k]?).join = some (V.ref p))
    (c : Fs K ⟨F, but H p, br, lk⟩ F' H' ws2 R2) (ht : t' = .no ∨ (owned t' ∧ SlotOk K F' C.B H' (C.br k) ((ws[k]?).join) (C.lk k) t')) : Fs K C F' H' ws (R.set k t') := by
  obtain ⟨p', o, d, e1, f1, b1, h1, _⟩ := (s.slot k t hk).own_of ow
  rw [hv] at e1
  cases e1
  refine s.turn (fun b => b = p) (fun b u e hb => c.frm b u (by show but H p b = _; rw [but_ne hb]; exact e)) c.old c.sub (fun b u e => ?_) (fun b u e => ?_) (by rw [List.length_set]) fun i s' e => ?_
  · have nb : b ≠ p := fun z => by subst z; rw [b1] at e; cases e
    exact c.frm b u (by show but H p b = _; rw [but_ne nb]; exact s.frm _ _ e)
  · rcases c.grow b u e with h | h
    · exact .inl h
    · rcases but_none (show but H p b = none from h) with h | h
      · subst h; exact .inr (.inr ⟨rfl, b1⟩)
      · exact .inr (.inl h)
  · rcases getElem?_set_cases e with ⟨h, h', _⟩ | ⟨h, h'⟩
    · subst h; subst h'
      rcases ht with ht | ⟨ht1, ht2⟩
      · exact ⟨t, hk, .inl ht⟩
      · exact ⟨t, hk, .inr (.inr ⟨ow, ht1, ht2⟩)⟩
    · exact ⟨s', h', .inr (.inl ⟨rfl, fun q ow' ev hq => by subst hq; exact h (s.inj i k s' t q h' hk ow' ow ev hv)⟩)⟩

theorem slot_map_sh {ds : List D} {i : Nat} {t : Slot} (e : (ds.map Slot.sh)[i]? = some t) : ∃ d, ds[i]? = some d ∧ t = .sh d := by
  rw [List.getElem?_map] at e
  obtain ⟨d, h, rfl⟩ := Option.map_eq_some_iff.mp e
  exact ⟨d, h, rfl⟩
theorem args_fs0 {ds : List D} (r : Rps K F vs ds) (sub : Same F H) : Fs K (callCfg F H vs) F H (vs.map some) (ds.map .sh) := by
  refine ⟨sub, Same.refl F, Same.refl H, fun b o e => .inl e, by rw [List.length_map, List.length_map]; exact r.length, fun i t e => ?_, fun i j t u p e1 e2 o1 o2 v1 v2 => ?_⟩
  · obtain ⟨d, h, rfl⟩ := slot_map_sh e
    obtain ⟨v, h1, h2⟩ := r.get h
    exact ⟨v, by rw [List.getElem?_map, h1]; rfl, h2⟩
  · obtain ⟨d, _, rfl⟩ := slot_map_sh e1
    exact o1.elim
theorem slot_mid {ds1 ds2 : List D} {s t : Slot} {i : Nat} (e : (ds1.map Slot.sh ++ s :: ds2.map Slot.sh)[i]? = some t) :
    (i < ds1.length ∧ ∃ d, ds1[i]? = some d ∧ t = .sh d) ∨ (i = ds1.length ∧ t = s) ∨ (ds1.length < i ∧ ∃ d, ds2[i - ds1.length - 1]? = some d ∧ t = .sh d) := by
  by_cases h : i < ds1.length
  · rw [List.getElem?_append_left (by simpa using h)] at e
    exact .inl ⟨h, slot_map_sh e⟩
  · rw [List.getElem?_append_right (by simpa using h), List.length_map] at e
    by_cases h2 : i = ds1.length
    · subst h2
      rw [Nat.sub_self] at e
      exact .inr (.inl ⟨rfl, (Option.some.inj e).symm⟩)
    · have : i - ds1.length = (i - ds1.length - 1) + 1 := by omega
      rw [this, List.getElem?_cons_succ] at e
      exact .inr (.inr ⟨by omega, slot_map_sh e⟩)
theorem val_mid1 {vs1 vs2 : List V} {v : V} {i : Nat} (h : i < vs1.length) : ((vs1 ++ v :: vs2).map some)[i]? = (vs1[i]?).map some := by
  rw [List.getElem?_map, List.getElem?_append_left h]
theorem val_mid {vs1 vs2 : List V} {v : V} : ((vs1 ++ v :: vs2).map some)[vs1.length]? = some (some v) := by
  rw [List.getElem?_map, List.getElem?_append_right (Nat.le_refl _), Nat.sub_self]; rfl
theorem val_mid2 {vs1 vs2 : List V} {v : V} {i : Nat} (h : vs1.length < i) : ((vs1 ++ v :: vs2).map some)[i]? = (vs2[i - vs1.length - 1]?).map some := by
  have e : i - vs1.length = (i - vs1.length - 1) + 1 := by omega
  rw [List.getElem?_map, List.getElem?_append_right (by omega), e, List.getElem?_cons_succ]
  simp
theorem args_fs1 {vs1 vs2 : List V} {ds1 ds2 : List D} {p : Addr} {o : HO} {d : D} {s : Slot} (r1 : Rps K F vs1 ds1) (r2 : Rps K F vs2 ds2) (sub : Same F H) (f : F p = none) (h : H p = some o) (ho : Ow K F o d) (hs : s = .mu d ∨ s = .br d) :
    Fs K (callCfg F (but H p) (vs1 ++ .ref p :: vs2)) F H ((vs1 ++ .ref p :: vs2).map some) (ds1.map .sh ++ s :: ds2.map .sh) := by
  refine ⟨sub, Same.refl F, fun b u e => (but_some e).2, fun b o e => .inl e, by simp [r1.length, r2.length], fun i t e => ?_, fun i j t u q e1 e2 o1 o2 v1 v2 => ?_⟩
  · rcases slot_mid e with ⟨hi, d', h1, rfl⟩ | ⟨rfl, rfl⟩ | ⟨hi, d', h1, rfl⟩
    · obtain ⟨v, g1, g2⟩ := r1.get h1
      exact ⟨v, by rw [val_mid1 (by rw [r1.length]; exact hi), g1]; rfl, g2⟩
    · rw [← r1.length, val_mid]
      have at' : OwnAt K F (but H p) H (.ref p) d := ⟨p, o, rfl, f, but_same, h, ho⟩
      rcases hs with rfl | rfl
      · exact ⟨_, rfl, at'⟩
      · refine ⟨_, rfl, at', ?_⟩
        show (vs1 ++ V.ref p :: vs2)[vs1.length]? = some (.ref p)
        rw [List.getElem?_append_right (Nat.le_refl _), Nat.sub_self]; rfl
    · obtain ⟨v, g1, g2⟩ := r2.get h1
      refine ⟨v, ?_, g2⟩
      rw [← r1.length] at hi g1
      rw [val_mid2 hi, g1]; rfl
  · have one : ∀ {i : Nat} {t : Slot}, (ds1.map Slot.sh ++ s :: ds2.map Slot.sh)[i]? = some t → owned t → i = ds1.length := fun {i t} e o => by
      rcases slot_mid e with ⟨_, _, _, rfl⟩ | ⟨rfl, _⟩ | ⟨_, _, _, rfl⟩
      · exact o.elim
      · rfl
      · exact o.elim
    rw [one e1 o1, one e2 o2]
theorem lends0 : ∀ {as : List Ag}, SL.lends as = 0 → ∃ ds : List D, as = ds.map Ag.val
  | [], _ => ⟨[], rfl⟩
  | .val d :: as, h => by obtain ⟨ds, rfl⟩ := lends0 (as := as) h; exact ⟨d :: ds, rfl⟩
  | .len _ :: as, h => by simp [SL.lends] at h
  | .mov _ :: as, h => by simp [SL.lends] at h
theorem lends1 : ∀ {as : List Ag}, SL.lends as = 1 → ∃ (ds1 : List D) (x : Ag) (ds2 : List D), as = ds1.map Ag.val ++ x :: ds2.map Ag.val ∧ ∀ d, x ≠ .val d
  | [], h => by simp [SL.lends] at h
  | .val d :: as, h => by obtain ⟨ds1, x, ds2, rfl, hx⟩ := lends1 (as := as) h; exact ⟨d :: ds1, x, ds2, rfl, hx⟩
  | .len i :: as, h => by
    obtain ⟨ds, rfl⟩ := lends0 (as := as) (by simpa [SL.lends] using h)
    exact ⟨[], .len i, ds, rfl, fun d z => nomatch z⟩
  | .mov d :: as, h => by
    obtain ⟨ds, rfl⟩ := lends0 (as := as) (by simpa [SL.lends] using h)
    exact ⟨[], .mov d, ds, rfl, fun d z => nomatch z⟩
theorem slots_vals (ρ : List Slot) : ∀ (ds : List D), SL.slotsOf ρ (ds.map Ag.val) = some (ds.map .sh)
  | [] => rfl
  | d :: ds => by
    show (match SL.slotsOf ρ (ds.map Ag.val) with | some ss => some (Slot.sh d :: ss) | none => none) = _
    rw [slots_vals ρ ds]; rfl
theorem slots_mid (ρ : List Slot) (x : Ag) (ds2 : List D) : ∀ (ds1 : List D), SL.slotsOf ρ (ds1.map Ag.val ++ x :: ds2.map Ag.val) = (SL.slotsOf ρ (x :: ds2.map Ag.val)).map fun ss => ds1.map .sh ++ ss
  | [] => by simp
  | d :: ds => by
    show (match SL.slotsOf ρ (ds.map Ag.val ++ x :: ds2.map Ag.val) with | some ss => some (Slot.sh d :: ss) | none => none) = _
    rw [slots_mid ρ x ds2 ds]
    cases SL.slotsOf ρ (x :: ds2.map Ag.val) <;> rfl
theorem argsV_vals : ∀ {ds : List D} {vs : List V} {us : List (Option V)} {υ : List Slot}, ArgsV K F σ vs (ds.map Ag.val) us υ → Rps K F vs ds ∧ us = [] ∧ υ = []
  | [], _, _, _, h => by cases h; exact ⟨.nil, rfl, rfl⟩
  | d :: ds, _, _, _, h => by
    cases h with
    | val r h =>
      obtain ⟨a, b, c⟩ := argsV_vals h
      exact ⟨.cons r a, b, c⟩
theorem argsV_mid {x : Ag} {ds2 : List D} : ∀ {ds1 : List D} {vs : List V} {us : List (Option V)} {υ : List Slot}, ArgsV K F σ vs (ds1.map Ag.val ++ x :: ds2.map Ag.val) us υ →
    ∃ vs1 v vs2, vs = vs1 ++ v :: vs2 ∧ Rps K F vs1 ds1 ∧ Rps K F vs2 ds2 ∧ ArgsV K F σ [v] [x] us υ
  | [], _, _, _, h => by
    cases h with
    | val r h => obtain ⟨a, rfl, rfl⟩ := argsV_vals h; exact ⟨[], _, _, rfl, .nil, a, .val r .nil⟩
    | len r h => obtain ⟨a, rfl, rfl⟩ := argsV_vals h; exact ⟨[], _, _, rfl, .nil, a, .len r .nil⟩
    | mov h => obtain ⟨a, rfl, rfl⟩ := argsV_vals h; exact ⟨[], _, _, rfl, .nil, a, .mov .nil⟩
  | d :: ds1, _, _, _, h => by
    cases h with
    | val r h =>
      obtain ⟨vs1, v, vs2, rfl, a, b, c⟩ := argsV_mid h
      exact ⟨_ :: vs1, v, vs2, rfl, .cons r a, b, c⟩
theorem back_vals {ρ : List Slot} : ∀ {ds : List D} {l : List Slot} {ρ' : List Slot}, SL.back (ds.map Ag.val) l ρ = some ρ' → ρ' = ρ ∧ l.length = ds.length
  | [], [], ρ', h => ⟨(Option.some.inj h).symm, rfl⟩
  | [], _ :: _, _, h => by simp [SL.back] at h
  | d :: ds, [], _, h => by simp [SL.back] at h
  | d :: ds, s :: l, ρ', h => by
    have h' : SL.back (ds.map Ag.val) l ρ = some ρ' := h
    obtain ⟨a, b⟩ := back_vals h'
    exact ⟨a, by simp [b]⟩
theorem back_mid {x : Ag} {ds2 : List D} {ρ : List Slot} : ∀ {ds1 : List D} {l ρ' : List Slot}, SL.back (ds1.map Ag.val ++ x :: ds2.map Ag.val) l ρ = some ρ' →
    ∃ y, l[ds1.length]? = some y ∧ SL.back [x] [y] ρ = some ρ'
  | [], [], _, h => by cases x <;> simp [SL.back] at h
  | [], y :: l, ρ', h => by
    refine ⟨y, rfl, ?_⟩
    cases x with
    | val d =>
      have h' : SL.back (ds2.map Ag.val) l ρ = some ρ' := h
      rw [(back_vals h').1]; rfl
    | mov d =>
      have h' : SL.back (ds2.map Ag.val) l ρ = some ρ' := h
      rw [(back_vals h').1]; rfl
    | len i =>
      cases y with
      | br d =>
        have h' : (match SL.upd ρ i d with | some ρ1 => SL.back (ds2.map Ag.val) l ρ1 | none => none) = some ρ' := h
        cases q : SL.upd ρ i d with
        | none => rw [q] at h'; cases h'
        | some ρ1 =>
          rw [q] at h'
          rw [(back_vals h').1]
          show (match SL.upd ρ i d with | some ρ1 => SL.back [] [] ρ1 | none => none) = _
          rw [q]; rfl
      | _ => simp [SL.back] at h
  | d :: ds1, [], _, h => by simp [SL.back] at h
  | d :: ds1, s :: l, ρ', h => by
    have h' : SL.back (ds1.map Ag.val ++ x :: ds2.map Ag.val) l ρ = some ρ' := h
    obtain ⟨y, a, b⟩ := back_mid h'
    exact ⟨y, by simpa using a, b⟩

theorem Fs.last {ws : List (Option V)} {R : List Slot} {v : V} {t : Slot} (c : Fs K C F H (ws ++ [some v]) (R ++ [t])) : ws.length = R.length ∧ SlotOk K F C.B H (C.br ws.length) (some v) (C.lk ws.length) t := by
  have hl : ws.length = R.length := by have := c.len; simpa using this
  refine ⟨hl, ?_⟩
  have q := c.slot R.length t (by simp)
  rw [← hl] at q
  simpa using q
/-- what a call answers, for the caller -/
theorem call_post {vs1 vs2 : List V} {r : PV} {B : Hp} {br : Nat → Option V} {lk : Nat → Option D} {ws : List (Option V)} {R : List Slot} {v : V} (a : At K C F' H' σ ts ρ τ) (c : Fs K ⟨F, B, br, lk⟩ F' H' (ws ++ [some v]) (R ++ [resSlot r])) (hr : ∀ i, r ≠ .slot i)
    (hb : ∀ p d, r = .mu d → v = .ref p → B p = none → C.B p = none ∧ ∀ (i : Nat) (t : Slot), (ρ ++ τ)[i]? = some t → owned t → ((σ ++ ts)[i]?).join ≠ some (V.ref p)) : Post K C σ ts ρ τ r v F' H' := by
  obtain ⟨_, q⟩ := c.last
  cases r with
  | slot i => exact absurd rfl (hr i)
  | sh d => obtain ⟨x, e, r⟩ := q; cases e; exact ⟨r, a⟩
  | mu d =>
    obtain ⟨x, e, p, o, e2, f, b, h, r⟩ := q
    cases e
    subst e2
    obtain ⟨h1, h2⟩ := hb p d rfl rfl b
    refine ⟨?_, a.len⟩
    rw [← List.append_assoc, ← List.append_assoc]
    exact a.fs.addOwn h2 f h1 h r
theorem own_get {i : Nat} {d : D} (h : SL.own ρ i = some d) : ρ[i]? = some (.mu d) ∨ ρ[i]? = some (.br d) := by
  unfold SL.own at h
  cases q : SL.look ρ i with
  | mu e => rw [q] at h; cases h; exact .inl (look_own q (fun z => nomatch z))
  | br e => rw [q] at h; cases h; exact .inr (look_own q (fun z => nomatch z))
  | no => rw [q] at h; cases h
  | sh e => rw [q] at h; cases h
  | lk e => rw [q] at h; cases h
theorem upd_get {i : Nat} {d d' : D} {ρ' : List Slot} (h : SL.own ρ i = some d) (hu : SL.upd ρ i d' = some ρ') : (ρ[i]? = some (.mu d) ∧ ρ' = ρ.set i (.mu d')) ∨ (ρ[i]? = some (.br d) ∧ ρ' = ρ.set i (.br d')) := by
  unfold SL.own at h
  unfold SL.upd at hu
  cases q : SL.look ρ i with
  | mu e => rw [q] at h hu; cases h; cases hu; exact .inl ⟨look_own q (fun z => nomatch z), rfl⟩
  | br e => rw [q] at h hu; cases h; cases hu; exact .inr ⟨look_own q (fun z => nomatch z), rfl⟩
  | no => rw [q] at h; cases h
  | sh e => rw [q] at h; cases h
  | lk e => rw [q] at h; cases h
theorem lt_of_some {i : Nat} {t : Slot} (h : ρ[i]? = some t) : i < ρ.length := (List.getElem?_eq_some_iff.mp h).1
/-- one's own thing in a call: the caller's state behind it -/
theorem call_len {i : Nat} {d d' : D} {p : Addr} {B2 : Hp} {br : Nat → Option V} {lk : Nat → Option D} {ws : List (Option V)} {R : List Slot} {k : Nat} (a : At K C F H σ ts ρ τ) (h : SL.own ρ i = some d) (hv : (σ[i]?).join = some (V.ref p)) (hu : SL.upd ρ i d' = some ρ')
    (c : Fs K ⟨F, but H p, br, lk⟩ F' H' ws R) (hk : R[k]? = some (.br d')) (hw : (ws[k]?).join = some (V.ref p)) : At K C F' H' σ ts ρ' τ := by
  have hi : i < ρ.length := by rcases own_get h with h | h <;> exact lt_of_some h
  have hv' : ((σ ++ ts)[i]?).join = some (V.ref p) := by rw [List.getElem?_append_left (by rw [a.len]; exact hi)]; exact hv
  obtain ⟨x, ex, ⟨p', o, e2, f, _, h1, r⟩, _⟩ := c.slot k _ hk
  rw [hw] at ex
  cases ex
  cases e2
  rcases upd_get h hu with ⟨g, rfl⟩ | ⟨g, rfl⟩
  · have g' : (ρ ++ τ)[i]? = some (.mu d) := by rw [List.getElem?_append_left hi]; exact g
    obtain ⟨_, _, _, e1, _, b1, _⟩ := (a.fs.slot i _ g').own_of trivial
    rw [hv'] at e1
    cases e1
    refine ⟨?_, by rw [List.length_set]; exact a.len⟩
    rw [← List.set_append_left _ _ hi]
    exact a.fs.after1 g' trivial hv' c (.inr ⟨trivial, _, hv', p, o, rfl, f, b1, h1, r⟩)
  · have g' : (ρ ++ τ)[i]? = some (.br d) := by rw [List.getElem?_append_left hi]; exact g
    obtain ⟨_, _, _, e1, _, b1, _, _, kk⟩ := (a.fs.slot i _ g').own_of trivial
    rw [hv'] at e1
    cases e1
    refine ⟨?_, by rw [List.length_set]; exact a.len⟩
    rw [← List.set_append_left _ _ hi]
    refine a.fs.after1 g' trivial hv' c (.inr ⟨trivial, _, hv', ⟨p, o, rfl, f, b1, h1, r⟩, ?_⟩)
    rcases kk with kk | ⟨kk, _⟩ | ⟨_, kk⟩
    · cases kk
    · cases kk
    · rw [kk, hv']
theorem call_rd {E : XK} {cl : Nat → Value} {f : List Slot → SL.Out} {Q : VK} (a : At K C F H σ (ts ++ us) ρ (τ ++ υ)) (ht : ts.length = τ.length) (g : ArgsV K F σ vs as us υ)
    (o : Out E cl K C σ ts τ F (SL.called f as ρ) fun p ρ' => ∀ v F' H', Same F F' → Post K C σ ts ρ' τ p v F' H' → Q v H') : SpF K cl f vs H Q E := by
  unfold SL.called at o
  by_cases hl : SL.lends as ≤ 1
  case neg => rw [if_neg hl] at o; exact False.elim o
  rw [if_pos hl] at o
  cases hs : SL.slotsOf ρ as with
  | none => rw [hs] at o; exact False.elim o
  | some ss =>
    rw [hs] at o
    simp only at o
    by_cases h0 : SL.lends as = 0
    · -- nothing of one's own
      obtain ⟨ds, rfl⟩ := lends0 h0
      obtain ⟨r, rfl, rfl⟩ := argsV_vals g
      rw [slots_vals] at hs
      cases hs
      rw [List.append_nil, List.append_nil] at a
      refine ⟨F, H, _, args_fs0 r a.fs.sub, ?_⟩
      cases hf : f (ds.map .sh) with
      | stuck => rw [hf] at o; exact False.elim o
      | exc k l =>
        rw [hf] at o
        simp only at o ⊢
        cases hb : SL.back (ds.map Ag.val) l ρ with
        | none => rw [hb] at o; exact False.elim o
        | some ρ' =>
          rw [hb] at o
          rw [(back_vals hb).1] at o
          intro F' H' c
          exact o F' H' c.old ⟨a.fs.after0 (B2 := H) c, a.len⟩
      | ret p l =>
        rw [hf] at o
        simp only at o ⊢
        have hr : ∀ i, p ≠ .slot i := fun i e => by subst e; exact o
        cases hb : SL.back (ds.map Ag.val) l ρ with
        | none => cases p <;> first | exact absurd rfl (hr _) | (rw [hb] at o; exact False.elim o)
        | some ρ' =>
          have o' : ∀ v F' H', Same F F' → Post K C σ ts ρ' τ p v F' H' → Q v H' := by
            cases p <;> first | exact absurd rfl (hr _) | (rw [hb] at o; exact o)
          rw [(back_vals hb).1] at o'
          intro v F' H' c
          have a' : At K C F' H' σ ts ρ τ := ⟨a.fs.after0 (B2 := H) c, a.len⟩
          refine o' v F' H' c.old (call_post (vs1 := []) (vs2 := []) a' c hr fun q d e1 e2 e3 => ?_)
          have e3 : H q = none := e3
          refine ⟨a.fs.bnone e3, fun i t et ow ev => ?_⟩
          obtain ⟨_, _, _, e4, _, _, e5, _⟩ := (a.fs.slot i t et).own_of ow
          rw [ev] at e4
          cases e4
          rw [e3] at e5; cases e5
    · -- one thing of one's own
      have h1 : SL.lends as = 1 := by omega
      obtain ⟨ds1, x, ds2, rfl, hx⟩ := lends1 h1
      obtain ⟨vs1, v0, vs2, rfl, r1, r2, gx⟩ := argsV_mid g
      rw [slots_mid] at hs
      cases gx with
      | val _ _ => exact absurd rfl (hx _)
      | @len _ i _ _ _ _ hv gn =>
        cases gn
        rw [List.append_nil, List.append_nil] at a
        have hs' : ((match SL.own ρ i, SL.slotsOf ρ (ds2.map Ag.val) with | some d, some ss => some (Slot.br d :: ss) | _, _ => none).map fun ss => ds1.map Slot.sh ++ ss) = some ss := hs
        rw [slots_vals] at hs'
        cases ho : SL.own ρ i with
        | none => rw [ho] at hs'; cases hs'
        | some d =>
          rw [ho] at hs'
          cases hs'
          -- the address
          have hi : i < ρ.length := by rcases own_get ho with h | h <;> exact lt_of_some h
          have hv' : ((σ ++ ts)[i]?).join = some v0 := by rw [List.getElem?_append_left (by rw [a.len]; exact hi)]; exact hv
          obtain ⟨t, gt, ow, hd⟩ : ∃ t, (ρ ++ τ)[i]? = some t ∧ owned t ∧ (t = .mu d ∨ t = .br d) := by
            rcases own_get ho with h | h
            · exact ⟨.mu d, by rw [List.getElem?_append_left hi]; exact h, trivial, .inl rfl⟩
            · exact ⟨.br d, by rw [List.getElem?_append_left hi]; exact h, trivial, .inr rfl⟩
          obtain ⟨p, ob, d', e1, f1, b1, h1', ro, kk⟩ := (a.fs.slot i t gt).own_of ow
          rw [hv'] at e1
          cases e1
          have ed : d' = d := by
            rcases hd with rfl | rfl
            · rcases kk with kk | ⟨kk, _⟩ | ⟨kk, _⟩ <;> cases kk <;> rfl
            · rcases kk with kk | ⟨kk, _⟩ | ⟨kk, _⟩ <;> cases kk <;> rfl
          subst ed
          have hv2 : (σ[i]?).join = some (V.ref p) := hv
          refine ⟨F, but H p, _, args_fs1 r1 r2 a.fs.sub f1 h1' ro (.inr rfl), ?_⟩
          have mid : ∀ {l ρ' : List Slot} {F' H' : Hp} {ws : List (Option V)} {R : List Slot}, SL.back (ds1.map Ag.val ++ Ag.len i :: ds2.map Ag.val) l ρ = some ρ' → Fs K (callCfg F (but H p) (vs1 ++ V.ref p :: vs2)) F' H' ((vs1 ++ V.ref p :: vs2).map some ++ ws) (l ++ R) → l.length = (vs1 ++ V.ref p :: vs2).length →
              At K C F' H' σ ts ρ' τ ∧ (∃ d2, (l ++ R)[vs1.length]? = some (.br d2) ∧ (((vs1 ++ V.ref p :: vs2).map some ++ ws)[vs1.length]?).join = some (V.ref p)) ∧ (∀ (j : Nat) (t : Slot), (ρ' ++ τ)[j]? = some t → owned t → ∃ t0, (ρ ++ τ)[j]? = some t0 ∧ owned t0) := fun {l ρ' F' H' ws R} hb c hll => by
            obtain ⟨y, hy, hb2⟩ := back_mid hb
            cases y with
            | br d2 =>
              have hu : SL.upd ρ i d2 = some ρ' := by
                have q : (match SL.upd ρ i d2 with | some ρ1 => SL.back [] [] ρ1 | none => none) = some ρ' := hb2
                cases z : SL.upd ρ i d2 with
                | none => rw [z] at q; cases q
                | some ρ1 => rw [z] at q; exact q
              have hk : (l ++ R)[vs1.length]? = some (.br d2) := by
                rw [r1.length, List.getElem?_append_left (lt_of_some hy)]; exact hy
              have hw : (((vs1 ++ V.ref p :: vs2).map some ++ ws)[vs1.length]?).join = some (V.ref p) := by
                rw [List.getElem?_append_left (by simp), val_mid]; rfl
              refine ⟨call_len (B2 := H) a ho hv2 hu c hk hw, ⟨d2, hk, hw⟩, fun j t e ow' => ?_⟩
              have own_set : ∀ {s' : Slot}, (ρ.set i s' ++ τ)[j]? = some t → ∃ t0, (ρ ++ τ)[j]? = some t0 ∧ owned t0 := fun {s'} e => by
                rw [← List.set_append_left _ _ hi] at e
                rcases getElem?_set_cases e with ⟨z, _, _⟩ | ⟨_, z⟩
                · subst z; exact ⟨_, gt, ow⟩
                · exact ⟨_, z, ow'⟩
              rcases upd_get ho hu with ⟨_, rfl⟩ | ⟨_, rfl⟩
              · exact own_set e
              · exact own_set e
            | _ => simp [SL.back] at hb2
          cases hf : f (ds1.map Slot.sh ++ Slot.br d' :: ds2.map Slot.sh) with
          | stuck => rw [hf] at o; exact False.elim o
          | exc k l =>
            rw [hf] at o
            simp only at o ⊢
            cases hb : SL.back (ds1.map Ag.val ++ Ag.len i :: ds2.map Ag.val) l ρ with
            | none => rw [hb] at o; exact False.elim o
            | some ρ' =>
              rw [hb] at o
              intro F' H' c
              refine o F' H' c.old (mid (ws := []) (R := []) hb (by rw [List.append_nil, List.append_nil]; exact c) ?_).1
              have := c.len; simpa using this.symm
          | ret q l =>
            rw [hf] at o
            simp only at o ⊢
            have hr : ∀ i, q ≠ .slot i := fun i e => by subst e; exact o
            cases hb : SL.back (ds1.map Ag.val ++ Ag.len i :: ds2.map Ag.val) l ρ with
            | none => cases q <;> first | exact absurd rfl (hr _) | (rw [hb] at o; exact False.elim o)
            | some ρ' =>
              have o' : ∀ v F' H', Same F F' → Post K C σ ts ρ' τ q v F' H' → Q v H' := by
                cases q <;> first | exact absurd rfl (hr _) | (rw [hb] at o; exact o)
              intro v F' H' c
              obtain ⟨hll, _⟩ := c.last
              obtain ⟨a', ⟨d2, hk, hw⟩, keep⟩ := mid (ws := [some v]) (R := [resSlot q]) hb c (by rw [List.length_map] at hll; exact hll.symm)
              refine o' v F' H' c.old (call_post (vs1 := []) (vs2 := []) a' c hr fun q2 d3 e1 e2 e3 => ?_)
              subst e1 e2
              -- the answer is another than what was lent
              have hne : q2 ≠ p := fun e => by
                subst e
                have lastS : (l ++ [resSlot (PV.mu d3)])[l.length]? = some (.mu d3) := by simp [resSlot]
                have lastV : (((vs1 ++ V.ref q2 :: vs2).map some ++ [some (V.ref q2)])[l.length]?).join = some (V.ref q2) := by
                  rw [← hll]; simp
                have := c.inj vs1.length l.length _ _ q2 hk lastS trivial trivial hw lastV
                have z : l.length = (vs1 ++ V.ref q2 :: vs2).length := by rw [List.length_map] at hll; exact hll.symm
                simp at z
                omega
              rcases but_none (show but H p q2 = none from e3) with e | e
              · exact absurd e hne
              · refine ⟨a.fs.bnone e, fun j t et ow ev => ?_⟩
                obtain ⟨t0, et0, ow0⟩ := keep j t et ow
                obtain ⟨_, _, _, e4, _, _, e5, _⟩ := (a.fs.slot j t0 et0).own_of ow0
                rw [ev] at e4
                cases e4
                rw [e] at e5; cases e5
      | @mov _ d _ _ _ _ gn =>
        cases gn
        have hs' : ((match SL.slotsOf ρ (ds2.map Ag.val) with | some ss => some (Slot.mu d :: ss) | none => none).map fun ss => ds1.map Slot.sh ++ ss) = some ss := hs
        rw [slots_vals] at hs'
        cases hs'
        have lt := a.len
        have a0 := a.fs
        rw [← List.append_assoc, ← List.append_assoc] at a0
        have hL : (σ ++ ts).length = (ρ ++ τ).length := by rw [List.length_append, List.length_append, lt, ht]
        have gl : ((ρ ++ τ) ++ [Slot.mu d])[(ρ ++ τ).length]? = some (.mu d) := by simp
        have gv : (((σ ++ ts) ++ [some v0])[(ρ ++ τ).length]?).join = some v0 := by rw [← hL]; simp
        obtain ⟨p, ob, d', e1, f1, b1, h1', ro, kk⟩ := (a0.slot _ _ gl).own_of trivial
        rw [gv] at e1
        cases e1
        have ed : d' = d := by rcases kk with kk | ⟨kk, _⟩ | ⟨kk, _⟩ <;> cases kk <;> rfl
        subst ed
        refine ⟨F, but H p, _, args_fs1 r1 r2 a0.sub f1 h1' ro (.inl rfl), ?_⟩
        have beh : ∀ {F' H' : Hp} {ws : List (Option V)} {R : List Slot}, Fs K (callCfg F (but H p) (vs1 ++ V.ref p :: vs2)) F' H' ws R → At K C F' H' σ ts ρ τ := fun {F' H' ws R} c => by
          have z := a0.after1 (t' := .no) gl trivial gv c (.inl rfl)
          have e2 : (((ρ ++ τ) ++ [Slot.mu d']).set (ρ ++ τ).length .no) = (ρ ++ τ) ++ [.no] := by
            rw [List.set_append_right _ _ (Nat.le_refl _)]
            simp
          rw [e2] at z
          exact ⟨z.drop hL, lt⟩
        have bk : ∀ {l ρ' : List Slot}, SL.back (ds1.map Ag.val ++ Ag.mov d' :: ds2.map Ag.val) l ρ = some ρ' → ρ' = ρ := fun {l ρ'} hb => by
          obtain ⟨y, _, hb2⟩ := back_mid hb
          exact (Option.some.inj hb2).symm
        cases hf : f (ds1.map Slot.sh ++ Slot.mu d' :: ds2.map Slot.sh) with
        | stuck => rw [hf] at o; exact False.elim o
        | exc k l =>
          rw [hf] at o
          simp only at o ⊢
          cases hb : SL.back (ds1.map Ag.val ++ Ag.mov d' :: ds2.map Ag.val) l ρ with
          | none => rw [hb] at o; exact False.elim o
          | some ρ' =>
            rw [hb, bk hb] at o
            intro F' H' c
            exact o F' H' c.old (beh c)
        | ret q l =>
          rw [hf] at o
          simp only at o ⊢
          have hr : ∀ i, q ≠ .slot i := fun i e => by subst e; exact o
          cases hb : SL.back (ds1.map Ag.val ++ Ag.mov d' :: ds2.map Ag.val) l ρ with
          | none => cases q <;> first | exact absurd rfl (hr _) | (rw [hb] at o; exact False.elim o)
          | some ρ' =>
            have o' : ∀ v F' H', Same F F' → Post K C σ ts ρ τ q v F' H' → Q v H' := by
              cases q <;> first | exact absurd rfl (hr _) | (rw [hb, bk hb] at o; exact o)
            intro v F' H' c
            have a' := beh c
            refine o' v F' H' c.old (call_post (vs1 := []) (vs2 := []) a' c hr fun q2 d3 e1 e2 e3 => ?_)
            subst e1 e2
            rcases but_none (show but H p q2 = none from e3) with e | e
            · subst e
              refine ⟨b1, fun j t et ow ev => ?_⟩
              have hj := lt_of_some et
              have := a0.inj j (ρ ++ τ).length t _ q2 (by rw [List.getElem?_append_left hj]; exact et) gl ow trivial (by rw [List.getElem?_append_left (by rw [hL]; exact hj)]; exact ev) gv
              omega
            · refine ⟨a0.bnone e, fun j t et ow ev => ?_⟩
              have hj := lt_of_some et
              obtain ⟨_, _, _, e4, _, _, e5, _⟩ := (a0.slot j t (by rw [List.getElem?_append_left hj]; exact et)).own_of ow
              rw [List.getElem?_append_left (by rw [hL]; exact hj), ev] at e4
              cases e4
              rw [e] at e5; cases e5
end
end SLS

/-! ## S8 -/
set_option Elab.async false
set_option linter.all false
set_option autoImplicit false
set_option maxRecDepth 100000
/-! Soundness 8: calls as expressions, built-ins, items, methods. -/
namespace SLS
open PySem PySem.Spec PyProof.Rows L2
open SL (D Slot PV Res Ag)
section
variable {X : Cx} {E : XK} {cl : Nat → Value} {e e1 e2 e3 : Expr} {es : List Expr} {pos : Pos} {r r1 r2 r3 : List Slot → Res PV}

theorem At.drop {K : PySem.W.Frag} {C : Cfg} {F H : Hp} {σ ts us : List (Option V)} {ρ τ υ : List Slot} (a : At K C F H σ (ts ++ us) ρ (τ ++ υ)) (h : ts.length = τ.length) : At K C F H σ ts ρ τ := by
  refine ⟨?_, a.len⟩
  have f := a.fs
  rw [← List.append_assoc, ← List.append_assoc] at f
  exact f.drop (by rw [List.length_append, List.length_append, a.len, h])
/-- the outcome, with more held -/
theorem Out.held {α : Type} {K : PySem.W.Frag} {C : Cfg} {F : Hp} {σ ts us : List (Option V)} {τ υ : List Slot} {x : Res α} {ok : α → List Slot → Prop} (h : Out E cl K C σ ts τ F x ok) (hl : ts.length = τ.length) : Out E cl K C σ (ts ++ us) (τ ++ υ) F x ok := by
  cases x with
  | ok a ρ => exact h
  | exc k ρ => exact fun F' H' s a => h F' H' s (a.drop hl)
  | stuck => exact h

/-! ### a call -/
/-- arguments -/
def RdA (E : XK) (cl : Nat → Value) (K : PySem.W.Frag) (r : List Slot → Res (List Ag)) : TA := fun σ H Q => ∃ C F ts ρ τ, At K C F H σ ts ρ τ ∧
  Out E cl K C σ ts τ F (r ρ) fun as ρ' => ∀ vs us υ F' H', Same F F' → At K C F' H' σ (ts ++ us) ρ' (τ ++ υ) → ArgsV K F' σ vs as us υ → Q vs H'
theorem g_nil : PA X [] (RdA E cl X.K fun ρ => .ok [] ρ) := PA.weak pa_nil fun σ H Q ⟨C, F, ts, ρ, τ, a, o⟩ =>
  o [] [] [] F H (Same.refl F) (by rw [List.append_nil, List.append_nil]; exact a) .nil
theorem g_cons {rs : List Slot → Res (List Ag)} {b : Bool} (he : PE X e (RdE E cl X.K r)) (hs : PA X es (RdA E cl X.K rs)) (hst : starEach (e :: es) X.env = (false, eval e X.env) :: starEach es X.env) :
    PA X (e :: es) (RdA E cl X.K fun ρ => (r ρ).bind fun p ρ1 => match SL.argOf b p ρ1 with
      | some (a, ρ2) => (rs ρ2).bind fun as ρ3 => .ok (a :: as) ρ3
      | none => .stuck) := by
  refine PA.weak (pa_cons he hs hst) fun σ H Q ⟨C, F, ts, ρ, τ, a, o⟩ => ⟨C, F, ts, ρ, τ, a, o.bind.imp fun p ρ1 o1 v F1 H1 s1 p1 => ?_⟩
  have lt := a.lenT
  cases q : SL.argOf b p ρ1 with
  | none => simp only [q] at o1; exact False.elim o1
  | some z =>
    obtain ⟨ag, ρ2⟩ := z
    simp only [q] at o1
    have o2 := o1.bind
    -- what is not given away
    have plain : ∀ (F2 : Hp), Same F1 F2 → At X.K C F2 H1 σ ts ρ2 τ → (∀ {F' : Hp} {vs : List V} {as : List Ag} {us : List (Option V)} {υ : List Slot}, Same F2 F' → ArgsV X.K F' σ vs as us υ → ArgsV X.K F' σ (v :: vs) (ag :: as) us υ) →
        RdA E cl X.K rs σ H1 fun vs H2 => Q (v :: vs) H2 := fun F2 s2 a2 hc =>
      ⟨C, F2, ts, ρ2, τ, a2, (o2.mono (s1.trans s2)).imp fun as ρ3 o3 vs us υ F3 H3 s3 a3 w3 => o3 (v :: vs) us υ F3 H3 ((s1.trans s2).trans s3) a3 (hc s3 w3)⟩
    unfold SL.argOf at q
    cases b with
    | false =>
      rw [if_neg Bool.false_ne_true] at q
      obtain ⟨F2, s2, a2, w2⟩ := p1.opd
      cases q2 : SL.frz ρ1 p with
      | none => rw [q2] at q; cases q
      | some y =>
        obtain ⟨d, ρ'⟩ := y
        rw [q2] at q
        cases q
        obtain ⟨F3, s3, a3, r3⟩ := w2.frz a2 q2
        exact plain F3 (s2.trans s3) a3 fun s w => .val (r3.mono s) w
    | true =>
      rw [if_pos rfl] at q
      cases p with
      | sh d => cases q
      | slot i =>
        cases q3 : SL.own ρ1 i with
        | none => simp only [q3] at q; cases q
        | some d =>
          simp only [q3] at q
          cases q
          exact plain F1 (Same.refl F1) p1.2 fun s w => .len p1.1 w
      | mu d =>
        cases q
        have p1' : At X.K C F1 H1 σ (ts ++ [some v]) ρ1 (τ ++ [.mu d]) := p1
        refine ⟨C, F1, ts ++ [some v], ρ1, τ ++ [.mu d], p1', ((o2.mono s1).held lt).imp fun as ρ3 o3 vs us υ F3 H3 s3 a3 w3 => ?_⟩
        rw [List.append_assoc, List.append_assoc] at a3
        exact o3 (v :: vs) (some v :: us) (.mu d :: υ) F3 H3 (s1.trans s3) a3 (.mov w3)
/-- a function that may be called -/
structure CalX (X : Cx) (cl : Nat → Value) (x : Str) (f : List Slot → SL.Out) : Prop where
  ex : ∃ (a : Addr) (fd : FuncData) (ps : List Str) (k : Nat), FnOk X.prog X.w X.K X.mg X.base (L2.CX X.prog X.w) k a fd ps (SpF X.K cl f) ∧ Room k X.A ∧ X.mg x = some (.ref a) ∧ PySem.W.keepIn X.K (.ref a) = true ∧ Binds X.K fd ps []
theorem e_call {x : Str} {p : Pos} {f : List Slot → SL.Out} {rs : List Slot → Res (List Ag)} (F : CalX X cl x f) (hg : Gl X x) (hx : Passes (L2.CX X.prog X.w) X E) (ha : PA X (e :: es) (RdA E cl X.K rs))
    (hdb : (x == ("__debug__" : Str)) = false) (he : starEach (e :: es) X.env = (false, eval e X.env) :: starEach es X.env) (hpl : (backTo pos (starEach es X.env)).any (·.1) = false) :
    PE X (.Call (.Name x p) (e :: es) [] pos) (RdE E cl X.K fun ρ => (rs ρ).bind fun as ρ1 => SL.called f as ρ1) := by
  obtain ⟨a, fd, ps, k, F, hr, hm, hk, hb⟩ := F.ex
  refine PE.weak (pe_call F hr hg hm hk hb .nil hx ha hdb he hpl) fun σ H Q ⟨C, F0, ts, ρ, τ, a0, o⟩ => ⟨C, F0, ts, ρ, τ, a0, o.bind.imp fun as ρ1 o1 vs us υ F1 H1 s1 a1 w1 => ?_⟩
  show SpF X.K cl f (vs ++ []) H1 Q E
  rw [List.append_nil]
  exact call_rd a1 a0.lenT w1 ((o1.mono s1).imp fun p ρ2 o2 v F2 H2 s2 p2 => o2 v F2 H2 (s1.trans s2) p2)
theorem e_call0 {x : Str} {p : Pos} {f : List Slot → SL.Out} (F : CalX X cl x f) (hg : Gl X x) (hx : Passes (L2.CX X.prog X.w) X E) (hdb : (x == ("__debug__" : Str)) = false) :
    PE X (.Call (.Name x p) [] [] pos) (RdE E cl X.K fun ρ => (Res.ok [] ρ).bind fun as ρ1 => SL.called f as ρ1) := by
  obtain ⟨a, fd, ps, k, F, hr, hm, hk, hb⟩ := F.ex
  refine PE.weak (pe_call0 F hr hg hm hk hb .nil hx hdb) fun σ H Q ⟨C, F0, ts, ρ, τ, a0, o⟩ => ?_
  exact call_rd (us := []) (υ := []) (by rw [List.append_nil, List.append_nil]; exact a0) a0.lenT .nil o

/-! ### built-ins by values -/
theorem p_nil : PA X [] (RdP E cl X.K fun ρ => .ok [] ρ) := PA.weak pa_nil fun σ H Q ⟨C, F, ts, ρ, τ, a, o⟩ => o [] F H (Same.refl F) a .nil
theorem p_cons {rs : List Slot → Res (List PV)} (he : PE X e (RdE E cl X.K r)) (hs : PA X es (RdP E cl X.K rs)) (hst : starEach (e :: es) X.env = (false, eval e X.env) :: starEach es X.env) :
    PA X (e :: es) (RdP E cl X.K fun ρ => (r ρ).bind fun p ρ1 => (rs ρ1).bind fun ps ρ2 => .ok (p :: ps) ρ2) := by
  refine PA.weak (pa_cons he hs hst) fun σ H Q ⟨C, F, ts, ρ, τ, a, o⟩ => ⟨C, F, ts, ρ, τ, a, o.bind.imp fun p ρ1 o1 v F1 H1 s1 p1 => ?_⟩
  obtain ⟨F2, s2, a2, w2⟩ := p1.opd
  exact ⟨C, F2, ts, ρ1, τ, a2, (o1.mono (s1.trans s2)).bind.imp fun ps ρ2 o2 vs F3 H3 s3 a3 w3 => o2 _ F3 H3 ((s1.trans s2).trans s3) a3 (.cons (w2.mono s3) w3)⟩
theorem Opds.cns {K : PySem.W.Frag} {C : Cfg} {F H : Hp} {σ ts : List (Option V)} {ρ τ : List Slot} (a : At K C F H σ ts ρ τ) : ∀ {vs : List V} {ps : List PV} {ds : List D}, Opds K F σ vs ps → ps.mapM (SL.peek ρ) = some ds → Cns K F H vs ds
  | _, _, ds, .nil, e => by
    have e' : ds = [] := by simpa using e.symm
    subst e'; exact .nil
  | _, p :: ps, ds, .cons h r, e => by
    cases q : SL.peek ρ p with
    | none => simp [q] at e
    | some d =>
      cases q2 : ps.mapM (SL.peek ρ) with
      | none => simp [q, q2] at e
      | some ds' =>
        have e' : d :: ds' = ds := by simpa [q, q2] using e
        subst e'
        exact .cons (h.cn a q) (Opds.cns a r q2)
theorem bi_rd {b : SL.Bi} {rs : List Slot → Res (List PV)} {σ : L2.St} {H : Hp} {Q : VK}
    (h : RdE E cl X.K (fun ρ => (rs ρ).bind fun ps ρ1 => match ps.mapM (SL.peek ρ1) with | some ds => SL.lift (SL.bi b ds) ρ1 | none => .stuck) σ H Q) : tCB (rBi X.K b) (RdP E cl X.K rs) σ H Q := by
  obtain ⟨C, F, ts, ρ, τ, a, o⟩ := h
  refine ⟨C, F, ts, ρ, τ, a, o.bind.imp fun ps ρ1 o1 vs F1 H1 s1 a1 w1 => ?_⟩
  cases q : ps.mapM (SL.peek ρ1) with
  | none => simp only [q] at o1; exact False.elim o1
  | some ds =>
    simp only [q] at o1
    cases q2 : SL.bi b ds with
    | none => simp only [q2] at o1; exact False.elim o1
    | some p =>
      simp only [q2] at o1
      refine ⟨F1, ds, p, a1.fs.sub, Opds.cns a1 w1 q, q2, fun v H' m => ?_⟩
      exact made_end a1 m fun v F' H' s' po => o1 v F' H' (s1.trans s') po

/-! ### items, slices -/
theorem e_idx (hu : X.A.units + 100 < cLine) (h1 : PE X e1 (RdE E cl X.K r1)) (h2 : PE X e2 (RdE E cl X.K r2)) (hs : PlainIx e2) : PE X (.Subscript e1 e2 pos)
    (RdE E cl X.K fun ρ => (r1 ρ).bind fun p ρ1 => (r2 ρ1).bind fun q ρ2 => match SL.peek ρ2 p, SL.peek ρ2 q with
      | some x, some y => (match SL.item x y with | some d => .ok (.sh d) ρ2 | none => .stuck) | _, _ => .stuck) := by
  have e : (fun ρ => (r1 ρ).bind fun p ρ1 => (r2 ρ1).bind fun q ρ2 => match SL.peek ρ2 p, SL.peek ρ2 q with
      | some x, some y => (match SL.item x y with | some d => Res.ok (PV.sh d) ρ2 | none => .stuck) | _, _ => .stuck) =
      (fun ρ => (r1 ρ).bind fun p ρ1 => (r2 ρ1).bind fun q ρ2 => match SL.peek ρ2 p, SL.peek ρ2 q with
      | some x, some y => SL.lift ((SL.item x y).map PV.sh) ρ2 | _, _ => .stuck) := by
    funext ρ
    congr 1
    funext p ρ1
    congr 1
    funext q ρ2
    cases SL.peek ρ2 p with
    | none => rfl
    | some x =>
      cases SL.peek ρ2 q with
      | none => rfl
      | some y =>
        show (match SL.item x y with | some d => Res.ok (PV.sh d) ρ2 | none => .stuck) = SL.lift ((SL.item x y).map PV.sh) ρ2
        cases SL.item x y <;> rfl
  rw [e]
  refine PE.weak (pe_ix (ix_item hu) h1 h2 hs) fun σ H Q h => two (f := fun x y => (SL.item x y).map PV.sh) h fun x y H F dx dy p s cx cy e k => ?_
  obtain ⟨d, e', rfl⟩ := Option.map_eq_some_iff.mp e
  exact ⟨F, dx, dy, d, s, cx, cy, e', fun v w => k v H (.inl ⟨rfl, w⟩)⟩
theorem e_neg (h : PE X e (RdE E cl X.K r)) : PE X (.UnaryOp .USub e pos) (RdE E cl X.K fun ρ => (r ρ).bind fun p ρ1 => match SL.peek ρ1 p with | some (.int i) => .ok (.sh (.int (-i))) ρ1 | _ => .stuck) := by
  refine PE.weak (pe_un un_neg h) fun σ H Q ⟨C, F, ts, ρ, τ, a, o⟩ => ⟨C, F, ts, ρ, τ, a, o.bind.imp fun p ρ1 o1 v F1 H1 s1 p1 => ?_⟩
  obtain ⟨F2, s2, a2, w2⟩ := p1.opd
  cases q : SL.peek ρ1 p with
  | none => simp only [q] at o1; exact False.elim o1
  | some d =>
    simp only [q] at o1
    have c := w2.cn a2 q
    cases d with
    | int i => exact ⟨i, c, o1 _ F2 H1 (s1.trans s2) ⟨.int _, a2⟩⟩
    | _ => exact False.elim o1
/-- an optional int -/
def RdO (E : XK) (cl : Nat → Value) (K : PySem.W.Frag) (r : List Slot → Res (Option Int)) : TO := fun σ H Q => ∃ C F ts ρ τ, At K C F H σ ts ρ τ ∧
  Out E cl K C σ ts τ F (r ρ) fun z ρ' => ∀ F' H', Same F F' → At K C F' H' σ ts ρ' τ → Q z H'
theorem PO.weak {lo : Option Expr} {t t' : TO} (h : PO X lo t) (w : ∀ σ H Q, t' σ H Q → t σ H Q) : PO X lo t' := ⟨fun pins s σ H Q I q => h.run pins s σ H Q I (w σ H Q q)⟩
theorem o_none : PO X none (RdO E cl X.K fun ρ => .ok none ρ) := PO.weak po_none fun σ H Q ⟨C, F, ts, ρ, τ, a, o⟩ => o F H (Same.refl F) a
theorem o_some (h : PE X e (RdE E cl X.K r)) : PO X (some e) (RdO E cl X.K fun ρ => (r ρ).bind fun p ρ1 => match SL.peek ρ1 p with | some (.int i) => .ok (some i) ρ1 | _ => .stuck) := by
  refine PO.weak (po_some h) fun σ H Q ⟨C, F, ts, ρ, τ, a, o⟩ => ⟨C, F, ts, ρ, τ, a, o.bind.imp fun p ρ1 o1 v F1 H1 s1 p1 => ?_⟩
  obtain ⟨F2, s2, a2, w2⟩ := p1.opd
  cases q : SL.peek ρ1 p with
  | none => simp only [q] at o1; exact False.elim o1
  | some d =>
    simp only [q] at o1
    have c := w2.cn a2 q
    cases d with
    | int i => exact ⟨i, c, o1 F2 H1 (s1.trans s2) a2⟩
    | _ => exact False.elim o1
theorem e_slc {lo hi : Option Expr} {rl rh : List Slot → Res (Option Int)} {p2 : Pos} (h : PE X e (RdE E cl X.K r)) (hl : PO X lo (RdO E cl X.K rl)) (hh : PO X hi (RdO E cl X.K rh)) :
    PE X (.Subscript e (.Slice lo hi none p2) pos) (RdE E cl X.K fun ρ => (r ρ).bind fun p ρ1 => (rl ρ1).bind fun a ρ2 => (rh ρ2).bind fun b ρ3 => match SL.peek ρ3 p with | some x => SL.lift (SL.slice a b x) ρ3 | none => .stuck) := by
  refine PE.weak (pe_slice sl_slice h hl hh) fun σ H Q ⟨C, F, ts, ρ, τ, a, o⟩ => ⟨C, F, ts, ρ, τ, a, o.bind.imp fun p ρ1 o1 v F1 H1 s1 p1 => ?_⟩
  obtain ⟨F1', s1', a1, w1⟩ := p1.opd
  refine ⟨C, F1', ts, ρ1, τ, a1, (o1.mono (s1.trans s1')).bind.imp fun z ρ2 o2 F2 H2 s2 a2 => ?_⟩
  refine ⟨C, F2, ts, ρ2, τ, a2, (o2.mono s2).bind.imp fun y ρ3 o3 F3 H3 s3 a3 => ?_⟩
  cases q : SL.peek ρ3 p with
  | none => simp only [q] at o3; exact False.elim o3
  | some d =>
    simp only [q] at o3
    cases q2 : SL.slice z y d with
    | none => simp only [q2] at o3; exact False.elim o3
    | some pv =>
      simp only [q2] at o3
      refine ⟨F3, d, pv, a3.fs.sub, (w1.mono (s2.trans s3)).cn a3 q, q2, fun v H' m => ?_⟩
      exact made_end a3 m fun v F' H' s' po => o3 v F' H' (((s1.trans s1').trans s2).trans (s3.trans s')) po

/-! ### one's own lists -/
theorem At.own {K : PySem.W.Frag} {C : Cfg} {F H : Hp} {σ ts : List (Option V)} {ρ τ : List Slot} {i : Nat} {d : D} (a : At K C F H σ ts ρ τ) (h : SL.own ρ i = some d) : ∃ p o, σ[i]? = some (some (V.ref p)) ∧ F p = none ∧ H p = some o ∧ Ow K F o d := by
  have hi : i < ρ.length := by rcases own_get h with h | h <;> exact lt_of_some h
  have key : ∀ t, ρ[i]? = some t → owned t → ∃ p o d, (σ[i]?).join = some (V.ref p) ∧ F p = none ∧ H p = some o ∧ Ow K F o d ∧ (t = .mu d ∨ t = .br d ∨ t = .lk d) := fun t e ow => by
    obtain ⟨p, o, d', e1, f1, b1, h1, r1, k⟩ := (a.fs.slot i t (by rw [List.getElem?_append_left hi]; exact e)).own_of ow
    rw [List.getElem?_append_left (by rw [a.len]; exact hi)] at e1
    refine ⟨p, o, d', e1, f1, h1, r1, ?_⟩
    rcases k with k | ⟨k, _⟩ | ⟨k, _⟩
    · exact .inl k
    · exact .inr (.inr k)
    · exact .inr (.inl k)
  have up : ∀ {p : Addr}, (σ[i]?).join = some (V.ref p) → σ[i]? = some (some (V.ref p)) := fun {p} e => by
    cases q : σ[i]? with
    | none => rw [q] at e; cases e
    | some x =>
      rw [q] at e
      exact congrArg some e
  rcases own_get h with g | g
  · obtain ⟨p, o, d', e1, f, h1, r, k⟩ := key _ g trivial
    rcases k with k | k | k <;> cases k
    exact ⟨p, o, up e1, f, h1, r⟩
  · obtain ⟨p, o, d', e1, f, h1, r, k⟩ := key _ g trivial
    rcases k with k | k | k <;> cases k
    exact ⟨p, o, up e1, f, h1, r⟩
theorem At.change {K : PySem.W.Frag} {C : Cfg} {F H : Hp} {σ ts : List (Option V)} {ρ ρ' τ : List Slot} {i : Nat} {d d' : D} {p : Addr} {o' : HO} (a : At K C F H σ ts ρ τ) (h : SL.own ρ i = some d) (hu : SL.upd ρ i d' = some ρ') (hv : σ[i]? = some (some (V.ref p))) (ho : Ow K F o' d') :
    At K C F (L2.upd H p o') σ ts ρ' τ := by
  have hi : i < ρ.length := by rcases own_get h with h | h <;> exact lt_of_some h
  have hv' : ((σ ++ ts)[i]?).join = some (V.ref p) := by rw [List.getElem?_append_left (by rw [a.len]; exact hi), hv]; rfl
  rcases upd_get h hu with ⟨g, rfl⟩ | ⟨g, rfl⟩
  · refine ⟨?_, by rw [List.length_set]; exact a.len⟩
    rw [← List.set_append_left _ _ hi]
    exact a.fs.change (t := .mu d) (by rw [List.getElem?_append_left hi]; exact g) trivial hv' ho ⟨fun _ _ => rfl, fun _ e => (nomatch e), fun _ e => (nomatch e)⟩
  · refine ⟨?_, by rw [List.length_set]; exact a.len⟩
    rw [← List.set_append_left _ _ hi]
    exact a.fs.change (t := .br d) (by rw [List.getElem?_append_left hi]; exact g) trivial hv' ho ⟨fun _ e => (nomatch e), fun _ _ => rfl, fun _ e => (nomatch e)⟩
theorem isL_own {ρ : List Slot} {i : Nat} (h : SL.isL ρ i = true) : ∃ xs, SL.own ρ i = some (.lst xs) := by
  unfold SL.isL at h
  split at h
  · rename_i xs q; exact ⟨xs, q⟩
  · cases h
/-- no star, no slice, no set -/
def plainE : Expr → Bool
  | .Starred .. => false
  | .Set .. => false
  | .Slice .. => false
  | _ => true
theorem star_plain {env : Env} (h : plainE e = true) : starEach (e :: es) env = (false, eval e env) :: starEach es env := by
  cases e <;> first | rfl | cases h
theorem set_plain' {env : Env} (h : plainE e = true) (x : Value) : foldedSetIterable e env x = pure x := by
  cases e <;> first | rfl | cases h
theorem marks_plain {o : CmpOp} (h : plainE e = true) : behindInMarks o e = false := by
  cases e <;> first | rfl | cases h
theorem ix_plain (h : plainE e = true) : PlainIx e := by
  cases e <;> first | (intro o i; rfl) | cases h
variable {x : Str} {p apos cpos : Pos} {i : Nat}
/-- x.m(e) of one's own list -/
theorem bm1 {m : Str} {id : String} {rr : V → List V → Hp → VK → Prop} {t : TE} (slot : Slot "list" m id) (hty : typeOf (.builtin id) = pure (.type "method_descriptor")) (hm : MtM X id rr) (hv : PE X (.Name x p) (tVar i)) (he : PE X e t) (hp : plainE e = true)
    (hl : (apos.endLine == cpos.line) = true) : PE X (.Call (.Attribute (.Name x p) m apos) [e] [] cpos) (tBM X.K "list" rr (tVar i) (tCons t tNil)) := by
  have st := star_plain (es := []) (env := X.env) hp
  refine pe_bm PySem.F.plainAttrs_list slot hty hm hv (pa_cons he pa_nil st) rfl ?_ hl st rfl
  rw [st]; rfl
theorem bm_rd {α : Type} {f : α → List Slot → Res PV} {rr : V → List V → Hp → VK → Prop} {t : TE} {σ : L2.St} {H : Hp} {Q : VK} {C : Cfg} {F : Hp} {ts : List (Option V)} {ρ τ : List Slot} (a : At X.K C F H σ ts ρ τ) {g : List Slot → Res PV}
    (o : Out E cl X.K C σ ts τ F (if SL.isL ρ i = true then g ρ else .stuck) fun p ρ' => ∀ v F' H', Same F F' → Post X.K C σ ts ρ' τ p v F' H' → Q v H')
    (k : ∀ (q : Addr), σ[i]? = some (some (V.ref q)) → Out E cl X.K C σ ts τ F (g ρ) (fun p ρ' => ∀ v F' H', Same F F' → Post X.K C σ ts ρ' τ p v F' H' → Q v H') → t σ H fun y H2 => rr (.ref q) [y] H2 Q) :
    tBM X.K "list" rr (tVar i) (tCons t tNil) σ H Q := by
  by_cases c : SL.isL ρ i = true
  case neg => rw [if_neg c] at o; exact False.elim o
  rw [if_pos c] at o
  obtain ⟨xs, ho⟩ := isL_own c
  obtain ⟨q, ob, hq, f, h1, r1⟩ := a.own ho
  obtain ⟨vs, rfl, rv⟩ := r1
  exact ⟨_, hq, .inl ⟨rfl, vs, .of h1⟩, k q hq o⟩
theorem e_app (hv : PE X (.Name x p) (tVar i)) (he : PE X e (RdE E cl X.K r)) (hp : plainE e = true) (hl : (apos.endLine == cpos.line) = true) : PE X (.Call (.Attribute (.Name x p) "append" apos) [e] [] cpos)
    (RdE E cl X.K fun ρ => if SL.isL ρ i then ((SL.frzR (r ρ)).bind fun d ρ1 => match SL.own ρ1 i with
      | some (.lst xs) => if xs.length < SL.lim then (SL.liftE (SL.upd ρ1 i (.lst (xs ++ [d])))).bind fun _ ρ2 => .ok (.sh .non) ρ2 else .stuck
      | _ => .stuck) else .stuck) := by
  refine PE.weak (bm1 PySem.F.slot_list_append PySem.F.type_list_append mt_append hv (e_frz he) hp hl) fun σ H Q ⟨C, F, ts, ρ, τ, a, o⟩ => ?_
  refine bm_rd (α := Unit) (f := fun _ _ => .stuck) (g := fun ρ => (SL.frzR (r ρ)).bind fun d ρ1 => match SL.own ρ1 i with
      | some (.lst xs) => if xs.length < SL.lim then (SL.liftE (SL.upd ρ1 i (.lst (xs ++ [d])))).bind fun _ ρ2 => .ok (.sh .non) ρ2 else .stuck
      | _ => .stuck) a o fun q hq o => ⟨C, F, ts, ρ, τ, a, o.bind.imp fun d ρ1 o1 v F1 H1 s1 a1 w1 => ?_⟩
  cases ho : SL.own ρ1 i with
  | none => simp only [ho] at o1; exact False.elim o1
  | some d1 =>
    simp only [ho] at o1
    cases d1 with
    | lst xs =>
      simp only at o1
      by_cases hn : xs.length < SL.lim
      case neg => rw [if_neg hn] at o1; exact False.elim o1
      rw [if_pos hn] at o1
      cases hu : SL.upd ρ1 i (.lst (xs ++ [d])) with
      | none => rw [hu] at o1; exact False.elim o1
      | some ρ2 =>
        rw [hu] at o1
        obtain ⟨q', ob, hq', f, h1, ws, rfl, rw'⟩ := a1.own ho
        rw [hq] at hq'
        cases hq'
        refine ⟨q, ws, v, rfl, rfl, h1, Nat.lt_of_lt_of_le (by rw [rw'.length]; exact hn) (by decide), ?_⟩
        exact o1 _ F1 _ s1 ⟨.non, a1.change ho hu hq ⟨_, rfl, rw'.append (.cons w1 .nil)⟩⟩
    | _ => exact False.elim o1
end
end SLS

/-! ## S9 -/
set_option Elab.async false
set_option linter.all false
set_option autoImplicit false
set_option maxRecDepth 100000
/-! Soundness 9: isinstance, further methods, ranges. -/
namespace SLS
open PySem PySem.Spec PyProof.Rows L2
open SL (D Slot PV Res Ag)
section
variable {X : Cx} {E : XK} {cl : Nat → Value} {e e1 e2 e3 : Expr} {es : List Expr} {pos : Pos} {r r1 r2 r3 : List Slot → Res PV} {x : Str} {p apos cpos : Pos} {i : Nat}
/-! ### isinstance -/
def tyName : SL.Ty → String
  | .int => "int" | .bool => "bool" | .tup => "tuple" | .lst => "list" | .str => "str"
def kindOf : D → String
  | .non => "NoneType" | .bl _ => "bool" | .int _ => "int" | .str _ => "str" | .tup _ => "tuple" | .wr _ => "tuple" | .lst _ => "list" | .dct _ _ _ => "dict"
theorem kit_all (t : SL.Ty) (d : D) (h : ∀ b ks vs, d ≠ .dct b ks vs) : kitB (kindOf d) (tyName t) = some (SL.isTy t d) := by
  cases d with
  | dct b ks vs => exact absurd rfl (h _ _ _)
  | non => cases t <;> (show kitB "NoneType" _ = some false) <;> decide +kernel
  | bl b => cases t <;> first | (show kitB "bool" _ = some false; decide +kernel) | (show kitB "bool" _ = some true; decide +kernel)
  | int b => cases t <;> first | (show kitB "int" _ = some false; decide +kernel) | (show kitB "int" _ = some true; decide +kernel)
  | str b => cases t <;> first | (show kitB "str" _ = some false; decide +kernel) | (show kitB "str" _ = some true; decide +kernel)
  | tup b => cases t <;> first | (show kitB "tuple" _ = some false; decide +kernel) | (show kitB "tuple" _ = some true; decide +kernel)
  | wr b => cases t <;> first | (show kitB "tuple" _ = some false; decide +kernel) | (show kitB "tuple" _ = some true; decide +kernel)
  | lst b => cases t <;> first | (show kitB "list" _ = some false; decide +kernel) | (show kitB "list" _ = some true; decide +kernel)
theorem Cn.ty {K : PySem.W.Frag} {F H : Hp} {v : V} {d : D} (c : Cn K F H v d) (h : ∀ b ks vs, d ≠ .dct b ks vs) : TyX K H v (.type (kindOf d)) := by
  cases d with
  | dct b ks vs => exact absurd rfl (h _ _ _)
  | non => cases c; exact .base .non
  | bl b => cases c; exact .base (.bl b)
  | int b => cases c; exact .base (.int b)
  | str b => cases c; exact .base (.str _)
  | tup b => obtain ⟨a, xs, rfl, h1, _⟩ := c; exact .base (.tup h1)
  | wr b => obtain ⟨a, xs, rfl, ⟨o, its, n, h1, h2, _⟩, _⟩ := c; exact .kTuple h1 h2
  | lst b =>
    obtain ⟨a, xs, rfl, h1, _⟩ := c
    rcases h1 with (h1 | ⟨o, h1⟩) | ⟨o, its, n, h1, h2, _⟩
    · exact .base (.lst h1)
    · exact .base (.frz h1)
    · exact .kList h1 h2
theorem e_isi {t : SL.Ty} {p1 p2 : Pos} (he : PE X e (RdE E cl X.K r)) (hp : plainE e = true) (hg : Gl X "isinstance") (hm : X.mg "isinstance" = none) (hT : PE X (.Name (Str.ofString (tyName t)) p2) (tC (.ty (tyName t)))) :
    PE X (.Call (.Name "isinstance" p1) [e, .Name (Str.ofString (tyName t)) p2] [] pos) (RdE E cl X.K fun ρ => (r ρ).bind fun p ρ1 => match SL.peek ρ1 p with
      | some (.dct _ _ _) => .stuck
      | some d => .ok (.sh (.bl (SL.isTy t d))) ρ1
      | none => .stuck) := by
  have st : starEach [e, .Name (Str.ofString (tyName t)) p2] X.env = (false, eval e X.env) :: starEach [.Name (Str.ofString (tyName t)) p2] X.env := star_plain hp
  refine PE.weak (pe_callB call_isi hg hm (by decide +kernel) (pa_cons he (pa_cons hT pa_nil) st) (by decide) (by decide) st rfl) fun σ H Q ⟨C, F, ts, ρ, τ, a, o⟩ => ⟨C, F, ts, ρ, τ, a, o.bind.imp fun pv ρ1 o1 v F1 H1 s1 p1 => ?_⟩
  obtain ⟨F2, s2, a2, w2⟩ := p1.opd
  cases q : SL.peek ρ1 pv with
  | none => simp only [q] at o1; exact False.elim o1
  | some d =>
    have c := w2.cn a2 q
    have key : (∀ b ks vs, d ≠ .dct b ks vs) → (∀ v F' H', Same F F' → Post X.K C σ ts ρ1 τ (.sh (.bl (SL.isTy t d))) v F' H' → Q v H') → rIsi X.K [v, .ty (tyName t)] H1 Q := fun hd k =>
      ⟨v, _, _, _, _, rfl, .ty _, c.ty hd, kit_ty (kit_all t d hd), k _ F2 H1 (s1.trans s2) ⟨.bl _, a2⟩⟩
    simp only [q] at o1
    cases d with
    | dct b ks vs => exact False.elim o1
    | non => exact key (fun _ _ _ z => nomatch z) o1
    | bl b => exact key (fun _ _ _ z => nomatch z) o1
    | int b => exact key (fun _ _ _ z => nomatch z) o1
    | str b => exact key (fun _ _ _ z => nomatch z) o1
    | tup b => exact key (fun _ _ _ z => nomatch z) o1
    | wr b => exact key (fun _ _ _ z => nomatch z) o1
    | lst b => exact key (fun _ _ _ z => nomatch z) o1
/-! ### further methods -/
theorem e_ext (hv : PE X (.Name x p) (tVar i)) (he : PE X e (RdE E cl X.K r)) (hp : plainE e = true) (hl : (apos.endLine == cpos.line) = true) : PE X (.Call (.Attribute (.Name x p) "extend" apos) [e] [] cpos)
    (RdE E cl X.K fun ρ => if SL.isL ρ i then ((r ρ).bind fun p ρ1 => match p, SL.own ρ1 i with
      | .mu (.lst ys), some (.lst xs) => if xs.length + ys.length ≤ SL.lim then (SL.liftE (SL.upd ρ1 i (.lst (xs ++ ys)))).bind fun _ ρ2 => .ok (.sh .non) ρ2 else .stuck
      | _, _ => .stuck) else .stuck) := by
  refine PE.weak (bm1 PySem.F.slot_list_extend PySem.F.type_list_extend mt_extend hv he hp hl) fun σ H Q ⟨C, F, ts, ρ, τ, a, o⟩ => ?_
  refine bm_rd (α := Unit) (f := fun _ _ => .stuck) (g := fun ρ => (r ρ).bind fun p ρ1 => match p, SL.own ρ1 i with
      | .mu (.lst ys), some (.lst xs) => if xs.length + ys.length ≤ SL.lim then (SL.liftE (SL.upd ρ1 i (.lst (xs ++ ys)))).bind fun _ ρ2 => .ok (.sh .non) ρ2 else .stuck
      | _, _ => .stuck) a o fun q hq o => ⟨C, F, ts, ρ, τ, a, o.bind.imp fun pv ρ1 o1 v F1 H1 s1 p1 => ?_⟩
  have lt := a.lenT
  cases pv with
  | slot j => simp only at o1; exact False.elim o1
  | sh d => simp only at o1; exact False.elim o1
  | mu d =>
    cases d with
    | lst ys =>
      have p2 : At X.K C F1 H1 σ (ts ++ [some v]) ρ1 (τ ++ [.mu (.lst ys)]) := p1
      obtain ⟨F2, s2, a2, w2⟩ := Post.opd (p := .mu (.lst ys)) p1
      -- the thing just made, before it is shared
      obtain ⟨b, zs, rfl, h2, rz⟩ : ∃ b zs, v = .ref b ∧ H1 b = some (.lst zs) ∧ Rps X.K F2 zs ys := by
        have f := p2.fs
        rw [← List.append_assoc, ← List.append_assoc] at f
        have hL : (σ ++ ts).length = (ρ1 ++ τ).length := by rw [List.length_append, List.length_append, p2.len, lt]
        obtain ⟨p, o, d', e1, f1, b1, h1, r1, k⟩ := (f.slot (ρ1 ++ τ).length (.mu (.lst ys)) (by simp)).own_of trivial
        have e3 : (((σ ++ ts) ++ [some v])[(ρ1 ++ τ).length]?).join = some v := by rw [← hL]; simp
        rw [e3] at e1
        cases e1
        have ed : d' = .lst ys := by rcases k with k | ⟨k, _⟩ | ⟨k, _⟩ <;> cases k <;> rfl
        subst ed
        obtain ⟨zs, rfl, r⟩ := r1
        exact ⟨p, zs, rfl, h1, r.mono s2⟩
      cases ho : SL.own ρ1 i with
      | none => simp only [ho] at o1; exact False.elim o1
      | some d1 =>
        cases d1 with
        | lst xs =>
          simp only [ho] at o1
          by_cases hn : xs.length + ys.length ≤ SL.lim
          case neg => rw [if_neg hn] at o1; exact False.elim o1
          rw [if_pos hn] at o1
          cases hu : SL.upd ρ1 i (.lst (xs ++ ys)) with
          | none => rw [hu] at o1; exact False.elim o1
          | some ρ2 =>
            rw [hu] at o1
            obtain ⟨q', ob, hq', f, h1, ws, rfl, rw'⟩ := a2.own ho
            rw [hq] at hq'
            cases hq'
            refine ⟨q, b, ws, zs, rfl, rfl, h1, h2, lim_line (by rw [rw'.length, rz.length]; exact hn), ?_⟩
            exact o1 _ F2 _ (s1.trans s2) ⟨.non, a2.change ho hu hq ⟨_, rfl, rw'.append rz⟩⟩
        | _ => simp only [ho] at o1; exact False.elim o1
    | _ => simp only at o1; exact False.elim o1
theorem e_pop (hv : PE X (.Name x p) (tVar i)) (hl : (apos.endLine == cpos.line) = true) : PE X (.Call (.Attribute (.Name x p) "pop" apos) [] [] cpos)
    (RdE E cl X.K fun ρ => match SL.own ρ i with
      | some (.lst xs) => (match xs.getLast? with
        | some d => (SL.liftE (SL.upd ρ i (.lst xs.dropLast))).bind fun _ ρ2 => .ok (.sh d) ρ2
        | none => .stuck)
      | _ => .stuck) := by
  refine PE.weak (pe_bm0 PySem.F.plainAttrs_list PySem.F.slot_list_pop PySem.F.type_list_pop mt_pop hv rfl hl) fun σ H Q ⟨C, F, ts, ρ, τ, a, o⟩ => ?_
  cases ho : SL.own ρ i with
  | none => simp only [ho] at o; exact False.elim o
  | some d1 =>
    cases d1 with
    | lst xs =>
      simp only [ho] at o
      cases hg : xs.getLast? with
      | none => simp only [hg] at o; exact False.elim o
      | some d =>
        simp only [hg] at o
        cases hu : SL.upd ρ i (.lst xs.dropLast) with
        | none => rw [hu] at o; exact False.elim o
        | some ρ2 =>
          rw [hu] at o
          obtain ⟨q, ob, hq, f, h1, ws, rfl, rw'⟩ := a.own ho
          rw [List.getLast?_eq_getElem?] at hg
          obtain ⟨y, hy, ry⟩ := rw'.get hg
          have hd : Rps X.K F ws.dropLast xs.dropLast := by
            rw [List.dropLast_eq_take, List.dropLast_eq_take, rw'.length]
            exact rw'.take _
          refine ⟨_, hq, .inl ⟨rfl, ws, .of h1⟩, q, ws, y, rfl, rfl, h1, by rw [rw'.length]; exact hy, ?_⟩
          exact o _ F _ (Same.refl F) ⟨ry, a.change ho hu hq ⟨_, rfl, hd⟩⟩
    | _ => simp only [ho] at o; exact False.elim o
theorem place_seq {n : Nat} {k : Int} {j : Nat} (h : SL.place n k = some j) : seqIndex? k n = some j := by
  unfold SL.place at h
  unfold seqIndex?
  by_cases h0 : 0 ≤ k
  · rw [if_pos h0] at h
    by_cases h1 : k < n
    · rw [if_pos h1] at h
      have e : ¬ k < 0 := by omega
      simp only [e, if_false]
      rw [if_pos (by simp [h0, h1])]
      exact h
    · rw [if_neg h1] at h; cases h
  · rw [if_neg h0] at h
    by_cases h1 : -(n : Int) ≤ k
    · rw [if_pos h1] at h
      have e : k < 0 := by omega
      simp only [e, if_true]
      rw [if_pos (by simp; omega)]
      exact h
    · rw [if_neg h1] at h; cases h
theorem place_small {n : Nat} {k : Int} {j : Nat} (h : SL.place n k = some j) (hn : n ≤ 2 ^ 30) : -(2 ^ 63) ≤ k ∧ k < 2 ^ 63 := by
  unfold SL.place at h
  by_cases h0 : 0 ≤ k
  · rw [if_pos h0] at h
    by_cases h1 : k < n
    · omega
    · rw [if_neg h1] at h; cases h
  · rw [if_neg h0] at h
    by_cases h1 : -(n : Int) ≤ k
    · omega
    · rw [if_neg h1] at h; cases h
theorem e_popAt (hv : PE X (.Name x p) (tVar i)) (he : PE X e (RdE E cl X.K r)) (hp : plainE e = true) (hl : (apos.endLine == cpos.line) = true) : PE X (.Call (.Attribute (.Name x p) "pop" apos) [e] [] cpos)
    (RdE E cl X.K fun ρ => if SL.isL ρ i then ((r ρ).bind fun p ρ1 => match SL.peek ρ1 p, SL.own ρ1 i with
      | some (.int k), some (.lst xs) => (match (SL.place xs.length k) with
        | some j => (match xs[j]? with
          | some d => if xs.length ≤ SL.lim then (SL.liftE (SL.upd ρ1 i (.lst (xs.eraseIdx j)))).bind fun _ ρ2 => .ok (.sh d) ρ2 else .stuck
          | none => .stuck)
        | none => .stuck)
      | _, _ => .stuck) else .stuck) := by
  refine PE.weak (bm1 PySem.F.slot_list_pop PySem.F.type_list_pop mt_popAt hv he hp hl) fun σ H Q ⟨C, F, ts, ρ, τ, a, o⟩ => ?_
  refine bm_rd (α := Unit) (f := fun _ _ => .stuck) (g := fun ρ => (r ρ).bind fun p ρ1 => match SL.peek ρ1 p, SL.own ρ1 i with
      | some (.int k), some (.lst xs) => (match (SL.place xs.length k) with
        | some j => (match xs[j]? with
          | some d => if xs.length ≤ SL.lim then (SL.liftE (SL.upd ρ1 i (.lst (xs.eraseIdx j)))).bind fun _ ρ2 => .ok (.sh d) ρ2 else .stuck
          | none => .stuck)
        | none => .stuck)
      | _, _ => .stuck) a o fun q hq o => ⟨C, F, ts, ρ, τ, a, o.bind.imp fun pv ρ1 o1 v F1 H1 s1 p1 => ?_⟩
  obtain ⟨F2, s2, a2, w2⟩ := p1.opd
  cases q1 : SL.peek ρ1 pv with
  | none => simp only [q1] at o1; exact False.elim o1
  | some d =>
    have c := w2.cn a2 q1
    cases d with
    | int k =>
      cases ho : SL.own ρ1 i with
      | none => simp only [q1, ho] at o1; exact False.elim o1
      | some d1 =>
        cases d1 with
        | lst xs =>
          simp only [q1, ho] at o1
          cases hj : SL.place xs.length k with
          | none => simp only [hj] at o1; exact False.elim o1
          | some j =>
            simp only [hj] at o1
            cases hd : xs[j]? with
            | none => simp only [hd] at o1; exact False.elim o1
            | some d =>
              simp only [hd] at o1
              by_cases hn : xs.length ≤ SL.lim
              case neg => rw [if_neg hn] at o1; exact False.elim o1
              rw [if_pos hn] at o1
              cases hu : SL.upd ρ1 i (.lst (xs.eraseIdx j)) with
              | none => rw [hu] at o1; exact False.elim o1
              | some ρ2 =>
                rw [hu] at o1
                obtain ⟨q', ob, hq', f, h1, ws, rfl, rw'⟩ := a2.own ho
                rw [hq] at hq'
                cases hq'
                obtain ⟨y, hy, ry⟩ := rw'.get hd
                have sm := place_small hj (Nat.le_trans hn (by decide))
                refine ⟨q, ws, k, j, y, rfl, congrArg (fun z => [z]) c, h1, sm.1, sm.2, by rw [rw'.length]; exact place_seq hj, hy, ?_⟩
                exact o1 _ F2 _ (s1.trans s2) ⟨ry, a2.change ho hu hq ⟨_, rfl, rw'.erase j⟩⟩
        | _ => simp only [q1, ho] at o1; exact False.elim o1
    | _ => simp only [q1] at o1; exact False.elim o1
theorem erase_at (k : Int) : ∀ ns : List Int, k ∈ ns → ∃ j : Nat, ns[j]? = some k ∧ (∀ m : Nat, m < j → ns[m]? ≠ some k) ∧ ns.erase k = ns.eraseIdx j
  | [], h => by simp at h
  | n :: ns, h => by
    by_cases e : n = k
    · subst e
      exact ⟨0, rfl, fun m hm => absurd hm (Nat.not_lt_zero m), by simp⟩
    · have hm : k ∈ ns := by
        rcases List.mem_cons.mp h with h | h
        · exact absurd h.symm e
        · exact h
      obtain ⟨j, h1, h2, h3⟩ := erase_at k ns hm
      refine ⟨j + 1, by simpa using h1, fun m hm => ?_, ?_⟩
      · cases m with
        | zero => simpa using e
        | succ m => simpa using h2 m (by omega)
      · rw [List.erase_cons_tail (by simpa using e), h3]; rfl
theorem e_rem (hv : PE X (.Name x p) (tVar i)) (he : PE X e (RdE E cl X.K r)) (hp : plainE e = true) (hl : (apos.endLine == cpos.line) = true) : PE X (.Call (.Attribute (.Name x p) "remove" apos) [e] [] cpos)
    (RdE E cl X.K fun ρ => if SL.isL ρ i then ((r ρ).bind fun p ρ1 => match SL.peek ρ1 p, SL.own ρ1 i with
      | some (.int k), some (.lst xs) => (match SL.intsD xs with
        | some ns => if k ∈ ns then (SL.liftE (SL.upd ρ1 i (.lst ((ns.erase k).map .int)))).bind fun _ ρ2 => .ok (.sh .non) ρ2 else .stuck
        | none => .stuck)
      | _, _ => .stuck) else .stuck) := by
  refine PE.weak (bm1 PySem.F.slot_list_remove PySem.F.type_list_remove mt_remove hv he hp hl) fun σ H Q ⟨C, F, ts, ρ, τ, a, o⟩ => ?_
  refine bm_rd (α := Unit) (f := fun _ _ => .stuck) (g := fun ρ => (r ρ).bind fun p ρ1 => match SL.peek ρ1 p, SL.own ρ1 i with
      | some (.int k), some (.lst xs) => (match SL.intsD xs with
        | some ns => if k ∈ ns then (SL.liftE (SL.upd ρ1 i (.lst ((ns.erase k).map .int)))).bind fun _ ρ2 => .ok (.sh .non) ρ2 else .stuck
        | none => .stuck)
      | _, _ => .stuck) a o fun q hq o => ⟨C, F, ts, ρ, τ, a, o.bind.imp fun pv ρ1 o1 v F1 H1 s1 p1 => ?_⟩
  obtain ⟨F2, s2, a2, w2⟩ := p1.opd
  cases q1 : SL.peek ρ1 pv with
  | none => simp only [q1] at o1; exact False.elim o1
  | some d =>
    have c := w2.cn a2 q1
    cases d with
    | int k =>
      cases ho : SL.own ρ1 i with
      | none => simp only [q1, ho] at o1; exact False.elim o1
      | some d1 =>
        cases d1 with
        | lst xs =>
          simp only [q1, ho] at o1
          cases hi : SL.intsD xs with
          | none => simp only [hi] at o1; exact False.elim o1
          | some ns =>
            simp only [hi] at o1
            by_cases hk : k ∈ ns
            case neg => rw [if_neg hk] at o1; exact False.elim o1
            rw [if_pos hk] at o1
            cases hu : SL.upd ρ1 i (.lst ((ns.erase k).map .int)) with
            | none => rw [hu] at o1; exact False.elim o1
            | some ρ2 =>
              rw [hu] at o1
              obtain ⟨q', ob, hq', f, h1, ws, rfl, rw'⟩ := a2.own ho
              rw [hq] at hq'
              cases hq'
              obtain ⟨e1, _⟩ := rw'.intsD hi
              subst e1
              obtain ⟨j, j1, j2, j3⟩ := erase_at k ns hk
              refine ⟨q, ns, k, j, rfl, congrArg (fun z => [z]) c, h1, j1, j2, ?_⟩
              rw [← j3]
              exact o1 _ F2 _ (s1.trans s2) ⟨.non, a2.change ho hu hq ⟨_, rfl, Rps.of_map (f := V.int) (g := D.int) (fun i => .int i) _⟩⟩
        | _ => simp only [q1, ho] at o1; exact False.elim o1
    | _ => simp only [q1] at o1; exact False.elim o1
/-! ### ranges as lists, as tuples -/
theorem range_rgV {K : PySem.W.Frag} {F : Hp} (a b : Int) : Rps K F (rgV a b) (SL.range a b) := Rps.of_map (f := fun k : Nat => V.int (a + (k : Nat))) (g := fun k : Nat => D.int (a + (k : Nat))) (fun _ => .int _) _
theorem rg_ok {n : Int} (h : -SL.lim ≤ n ∧ n ≤ SL.lim) : RgOk 0 n := by
  have e : (SL.lim : Int) = 1000000 := rfl
  rw [e] at h
  exact ⟨by omega, by omega, by omega, by omega, by omega⟩
theorem e_listRng {p1 p2 pos2 : Pos} (hc : X.calm = true) (hg : Gl X "list") (hm : X.mg "list" = none) (hg2 : Gl X "range") (hm2 : X.mg "range" = none) (he : PE X e (RdE E cl X.K r)) (hp : plainE e = true) :
    PE X (.Call (.Name "list" p1) [.Call (.Name "range" p2) [e] [] pos2] [] pos) (RdE E cl X.K fun ρ => (r ρ).bind fun p ρ1 => match SL.peek ρ1 p with
      | some (.int n) => if -SL.lim ≤ n ∧ n ≤ SL.lim then .ok (.mu (.lst (SL.range 0 n))) ρ1 else .stuck
      | _ => .stuck) := by
  refine PE.weak (pe_listRg hc hg hm (prg_1 hg2 hm2 he (star_plain hp))) fun σ H Q ⟨C, F, ts, ρ, τ, a, o⟩ => ⟨C, F, ts, ρ, τ, a, o.bind.imp fun pv ρ1 o1 v F1 H1 s1 p1 => ?_⟩
  obtain ⟨F2, s2, a2, w2⟩ := p1.opd
  cases q : SL.peek ρ1 pv with
  | none => simp only [q] at o1; exact False.elim o1
  | some d =>
    simp only [q] at o1
    have c := w2.cn a2 q
    cases d with
    | int n =>
      simp only at o1
      by_cases hn : -SL.lim ≤ n ∧ n ≤ SL.lim
      case neg => rw [if_neg hn] at o1; exact False.elim o1
      rw [if_pos hn] at o1
      refine ⟨n, c, ?_, fun q hq => ?_⟩
      · exact rg_ok hn
      · exact made_end a2 (p := .mu (.lst (SL.range 0 n))) ⟨q, _, hq, rfl, rfl, _, rfl, range_rgV 0 n⟩ fun v F' H' s' po => o1 v F' H' ((s1.trans s2).trans s') po
    | _ => exact False.elim o1
theorem e_tupRng {p1 p2 pos2 : Pos} (hc : X.calm = true) (hg : Gl X "tuple") (hm : X.mg "tuple" = none) (hg2 : Gl X "range") (hm2 : X.mg "range" = none) (he : PE X e (RdE E cl X.K r)) (hp : plainE e = true) :
    PE X (.Call (.Name "tuple" p1) [.Call (.Name "range" p2) [e] [] pos2] [] pos) (RdE E cl X.K fun ρ => (r ρ).bind fun p ρ1 => match SL.peek ρ1 p with
      | some (.int n) => if -SL.lim ≤ n ∧ n ≤ SL.lim then .ok (.sh (.tup (SL.range 0 n))) ρ1 else .stuck
      | _ => .stuck) := by
  refine PE.weak (pe_tupRg hc hg hm (prg_1 hg2 hm2 he (star_plain hp))) fun σ H Q ⟨C, F, ts, ρ, τ, a, o⟩ => ⟨C, F, ts, ρ, τ, a, o.bind.imp fun pv ρ1 o1 v F1 H1 s1 p1 => ?_⟩
  obtain ⟨F2, s2, a2, w2⟩ := p1.opd
  cases q : SL.peek ρ1 pv with
  | none => simp only [q] at o1; exact False.elim o1
  | some d =>
    simp only [q] at o1
    have c := w2.cn a2 q
    cases d with
    | int n =>
      simp only at o1
      by_cases hn : -SL.lim ≤ n ∧ n ≤ SL.lim
      case neg => rw [if_neg hn] at o1; exact False.elim o1
      rw [if_pos hn] at o1
      refine ⟨n, c, ?_, fun q hq => ?_⟩
      · exact rg_ok hn
      · exact made_end a2 (p := .sh (.tup (SL.range 0 n))) (.inr ⟨q, _, _, hq, rfl, rfl, rfl, range_rgV 0 n⟩) fun v F' H' s' po => o1 v F' H' ((s1.trans s2).trans s') po
    | _ => exact False.elim o1
/-- a list display times a number -/
theorem e_lrep {rs : List Slot → Res (List D)} {p1 : Pos} (hs : PA X es (RdL E cl X.K rs)) (hl : ∀ ρ ds ρ', rs ρ = .ok ds ρ' → ds.length ≤ SL.lim) (h2 : PE X e2 (RdE E cl X.K r2)) :
    PE X (.BinOp (.List es p1) .Mult e2 pos) (RdE E cl X.K fun ρ => (rs ρ).bind fun ds ρ1 => (r2 ρ1).bind fun p ρ2 => match SL.peek ρ2 p with
      | some (.int n) => if ds.length ≤ 1000 ∧ 0 ≤ n ∧ n ≤ 1000 then .ok (.mu (.lst (SL.rep n.toNat ds))) ρ2 else .stuck
      | _ => .stuck) := by
  refine PE.weak (pe_op op_rep (pe_lst hs) h2) fun σ H Q ⟨C, F, ts, ρ, τ, a, o⟩ => ⟨C, F, ts, ρ, τ, a, ?_⟩
  cases q : rs ρ with
  | stuck => simp only [q] at o; exact o.elim
  | exc k ρ' => simp only [q] at o; exact o
  | ok ds ρ' =>
    simp only [q] at o
    intro vs F1 H1 s1 a1 w1
    refine ⟨lim_line (by rw [w1.length]; exact hl ρ ds ρ' q), fun p hp => ?_⟩
    have a1' : At X.K C F1 (L2.upd H1 p (.lst vs)) σ (ts ++ [some (.ref p)]) ρ' (τ ++ [.mu (.lst ds)]) := a1.new hp ⟨_, rfl, w1⟩
    have o' : Out E cl X.K C σ ts τ F ((r2 ρ').bind fun p ρ2 => match SL.peek ρ2 p with
      | some (.int n) => if ds.length ≤ 1000 ∧ 0 ≤ n ∧ n ≤ 1000 then .ok (.mu (.lst (SL.rep n.toNat ds))) ρ2 else .stuck
      | _ => .stuck) fun p ρ'' => ∀ v F' H', Same F F' → Post X.K C σ ts ρ'' τ p v F' H' → Q v H' := o
    refine ⟨C, F1, _, ρ', _, a1', (((o'.mono s1).bind).held a1.lenT).imp fun pv ρ2 o2 v F2 H2 s2 p2 => ?_⟩
    obtain ⟨F3, s3, a3, w3⟩ := p2.opd
    cases q2 : SL.peek ρ2 pv with
    | none => simp only [q2] at o2; exact False.elim o2
    | some d =>
      simp only [q2] at o2
      have c := w3.cn a3 q2
      cases d with
      | int n =>
        simp only at o2
        by_cases hn : ds.length ≤ 1000 ∧ 0 ≤ n ∧ n ≤ 1000
        case neg => rw [if_neg hn] at o2; exact False.elim o2
        rw [if_pos hn] at o2
        -- the list just made, still held
        have hL : σ.length + ts.length = (ρ2 ++ τ).length := by rw [List.length_append, a3.len, a1.lenT]
        have f3 := a3.fs
        rw [← List.append_assoc, ← List.append_assoc] at f3
        have e1 : ((ρ2 ++ τ) ++ [Slot.mu (.lst ds)])[(ρ2 ++ τ).length]? = some (.mu (.lst ds)) := by simp
        obtain ⟨p', ob, d', e2, _, _, h1, rr, kk⟩ := (f3.slot _ _ e1).own_of trivial
        have e3 : (((σ ++ ts) ++ [some (V.ref p)])[(ρ2 ++ τ).length]?).join = some (V.ref p) := by
          rw [← hL, ← List.length_append]; simp
        rw [e3] at e2
        cases e2
        have ed : d' = .lst ds := by rcases kk with kk | ⟨kk, _⟩ | ⟨kk, _⟩ <;> cases kk <;> rfl
        subst ed
        obtain ⟨ws, rfl, rw'⟩ := rr
        have a4 := a3.drop a1.lenT
        refine ⟨p, n, ws, rfl, c, h1, by omega, by omega, ?_, fun q hq => ?_⟩
        · have := rw'.length
          have hz : ws.length ≤ 1000 := by omega
          have hk : n.toNat ≤ 1000 := by omega
          exact Nat.le_trans (Nat.mul_le_mul hz hk) (by decide)
        · exact made_end a4 (p := .mu (.lst (SL.rep n.toNat ds))) ⟨q, _, hq, rfl, rfl, _, rfl, rw'.flatten_rep _⟩ fun v F' H' s' po => o2 v F' H' ((s1.trans (s2.trans s3)).trans s') po
      | _ => exact False.elim o2
end
end SLS

/-! ## S10 -/
set_option Elab.async false
set_option linter.all false
set_option autoImplicit false
set_option maxRecDepth 100000
/-! Soundness 10: iterators, targets. -/
namespace SLS
open PySem PySem.Spec PyProof.Rows L2
open SL (D Slot PV Res Ag Tgt)
section
variable {X : Cx} {E : XK} {cl : Nat → Value} {e e1 e2 tg : Expr} {es : List Expr} {pos : Pos} {r r1 r2 : List Slot → Res PV}
/-- a list or a tuple -/
def iSeq (K : PySem.W.Frag) (tl : TE) : TI := fun σ H R => tl σ H fun x H1 => ∃ a, x = .ref a ∧ (((∃ xs, SqL K H1 a xs) ∧ R (Itl K a) H1) ∨ ((∃ xs, SqT K H1 a xs) ∧ R (Itt K a) H1))
theorem pi_seq {tl : TE} (hl : PE X e tl) : PI X tg e (iSeq X.K tl) := by
  refine ⟨fun pins s σ H R I h => ?_⟩
  refine thn (hl.run pins s σ H _ I h) fun v s1 ⟨x, H1, I1, r1, q1⟩ => ?_
  obtain ⟨a, e, q⟩ := q1
  subst e
  cases r1
  have fresh : ∀ b ∈ [s1.heap.objs.size], FpOk X pins H1 b := fun b hb => by
    have e : b = s1.heap.objs.size := by simpa using hb
    subst e
    exact I1.fpOk (Nat.le_refl _) (I1.hok.fresh (Nat.le_refl _))
  rcases q with ⟨⟨xs, hq⟩, q⟩ | ⟨⟨xs, hq⟩, q⟩
  · obtain ⟨its, rv, p, hz⟩ := I1.list hq
    exact wpAny_pyIter_list p.isList ⟨s1.heap.objs.size, [s1.heap.objs.size], _, _, H1, rfl, I1.kept (t' := s1.toks) fun b o e => Heap.get?_push_of_some _ e, turn_list a _, ⟨_, Heap.get?_push_size _ rfl, rfl, rfl⟩, fresh, q⟩
  · obtain ⟨its, rv, p, hz⟩ := I1.tuple hq
    exact wpAny_pyIter_tuple (show s1.heap.IsTuple a its.toArray from p) ⟨s1.heap.objs.size, [s1.heap.objs.size], _, _, H1, rfl, I1.kept (t' := s1.toks) fun b o e => Heap.get?_push_of_some _ e, turn_tuple a _, ⟨_, Heap.get?_push_size _ rfl, rfl, rfl⟩, fresh, q⟩
theorem PI.weak {wi wi' : TI} (h : PI X tg e wi) (w : ∀ σ H R, wi' σ H R → wi σ H R) : PI X tg e wi' := ⟨fun pins s σ H R I q => h.run pins s σ H R I (w σ H R q)⟩
theorem PG.weak {t t' : TG} (h : PG X e t) (w : ∀ v σ H Q, t' v σ H Q → t v σ H Q) : PG X e t' := ⟨fun pins s σ H v u Q I r q => h.run pins s σ H v u Q I r (w v σ H Q q)⟩
theorem PGs.weak {t t' : TGs} (h : PGs X es t) (w : ∀ v σ H Q, t' v σ H Q → t v σ H Q) : PGs X es t' := ⟨fun pins s σ H v u Q I r q => h.run pins s σ H v u Q I r (w v σ H Q q)⟩
theorem PTs.weak {t t' : TT} (h : PTs X es t) (w : ∀ σ H Q, t' σ H Q → t σ H Q) : PTs X es t' := ⟨fun pins s σ H Q I q => h.run pins s σ H Q I (w σ H Q q)⟩

/-- what an iterator over ds does -/
structure Wk (K : PySem.W.Frag) (J : It) (F H : Hp) (ds : List D) : Prop where
  go : ∀ (i : Nat) (y : D), ds[i]? = some y → J.go i H ∧ ∀ x H', J.yld i H x H' → Made K F H (.sh y) x H'
  stop : ∀ i : Nat, ds.length ≤ i → J.stop i H
/-- .. as long as the walked thing is what it was -/
def ItOk (K : PySem.W.Frag) (J : It) (F : Hp) (σ : List (Option V)) (p : PV) (ds : List D) (pk : Option D) : Prop :=
  ∀ F2 H2, Same F F2 → Same F2 H2 → (∀ i, p = .slot i → ∃ x0 d, (σ[i]?).join = some x0 ∧ Cn K F2 H2 x0 d ∧ pk = some d) → Wk K J F2 H2 ds
def RdI (E : XK) (cl : Nat → Value) (K : PySem.W.Frag) (r : List Slot → Res (PV × List D)) : TI := fun σ H R => ∃ C F ts ρ τ, At K C F H σ ts ρ τ ∧
  Out E cl K C σ ts τ F (r ρ) fun pi ρ' => ∀ J F' H', Same F F' → At K C F' H' σ ts ρ' τ → ItOk K J F' σ pi.1 pi.2 (SL.peek ρ' pi.1) → R J H'
theorem wk_list {K : PySem.W.Frag} {F H : Hp} {a : Addr} {xs : List V} {ds : List D} (h : SqL K H a xs) (u : ∀ ys, SqL K H a ys → ys = xs) (r : Rps K F xs ds) : Wk K (Itl K a) F H ds :=
  ⟨fun i y e => by
    obtain ⟨v, hv, rv⟩ := r.get e
    refine ⟨⟨xs, v, h, hv⟩, fun x H' ⟨e1, e2⟩ => .inl ⟨e1, ?_⟩⟩
    have := e2 xs h
    rw [hv] at this
    cases this
    exact rv, fun i hi => ⟨xs, h, by rw [r.length]; exact hi⟩⟩
theorem wk_tup {K : PySem.W.Frag} {F H : Hp} {a : Addr} {xs : List V} {ds : List D} (h : SqT K H a xs) (r : Rps K F xs ds) : Wk K (Itt K a) F H ds :=
  ⟨fun i y e => by
    obtain ⟨v, hv, rv⟩ := r.get e
    refine ⟨⟨xs, v, h, hv⟩, fun x H' ⟨e1, e2⟩ => .inl ⟨e1, ?_⟩⟩
    have := e2 xs h
    rw [hv] at this
    cases this
    exact rv, fun i hi => ⟨xs, h, by rw [r.length]; exact hi⟩⟩
theorem wk_range {K : PySem.W.Frag} {F H : Hp} (a b : Int) : Wk K (Itr a (b - a).toNat) F H (SL.range a b) := by
  have len : (SL.range a b).length = (b - a).toNat := by unfold SL.range; simp
  refine ⟨fun i y e => ?_, fun i hi => by rw [len] at hi; exact hi⟩
  have hi : i < (b - a).toNat := by rw [← len]; exact (List.getElem?_eq_some_iff.mp e).1
  refine ⟨hi, fun x H' ⟨e1, e2⟩ => .inl ⟨e1, ?_⟩⟩
  unfold SL.range at e
  rw [List.getElem?_map, List.getElem?_range hi] at e
  cases e
  rw [e2]
  exact .int _
/-- the datum of a walked thing -/
theorem SqL.inj {H : Hp} {K : PySem.W.Frag} {a : Addr} {xs ys : List V} (h : H a = some (.lst xs)) (g : SqL K H a ys) (k : K.lookup a = none) : ys = xs := by
  rcases g with g | ⟨o, _, _, e, _⟩
  · rcases g with g | ⟨o, g⟩
    · rw [h] at g; cases g; rfl
    · rw [h] at g; cases g
  · rw [k] at e; cases e
theorem i_seq (h : PE X e (RdE E cl X.K r)) : PI X tg e (RdI E cl X.K fun ρ => SL.asIt (r ρ)) := by
  refine PI.weak (pi_seq h) fun σ H R ⟨C, F, ts, ρ, τ, a, o⟩ => ⟨C, F, ts, ρ, τ, a, o.bind.imp fun p ρ1 o1 v F1 H1 s1 p1 => ?_⟩
  obtain ⟨F2, s2, a2, w2⟩ := p1.opd
  cases q : SL.peek ρ1 p with
  | none => simp only [q] at o1; exact False.elim o1
  | some d =>
    simp only [q] at o1
    cases q2 : SL.items d with
    | none => simp only [q2] at o1; exact False.elim o1
    | some ds =>
      simp only [q2] at o1
      have c := w2.cn a2 q
      -- what the thing is, ever after
      have later : ∀ F3 H3, Same F2 F3 → Same F3 H3 → (∀ i, p = .slot i → ∃ x0 d, (σ[i]?).join = some x0 ∧ Cn X.K F3 H3 x0 d ∧ SL.peek ρ1 p = some d) → Cn X.K F3 H3 v d := fun F3 H3 s3 sub hp => by
        cases p with
        | slot i =>
          obtain ⟨x0, d', e1, e2, e3⟩ := hp i rfl
          have w2' : (σ[i]?).join = some v := w2
          rw [w2'] at e1
          cases e1
          rw [q] at e3
          cases e3
          exact e2
        | sh d0 => cases q; exact Rp.cn sub (Rp.mono s3 w2)
        | mu d0 => cases q; exact Rp.cn sub (Rp.mono s3 w2)
      cases d with
      | lst ys =>
        cases q2
        obtain ⟨b, xs, rfl, h1, rx⟩ := c
        refine ⟨b, rfl, .inl ⟨⟨xs, h1⟩, o1 _ F2 H1 (s1.trans s2) a2 fun F3 H3 s3 sub hp => ?_⟩⟩
        obtain ⟨b', xs', e1, h1', rx'⟩ := later F3 H3 s3 sub hp
        cases e1
        refine ⟨fun i y e => ?_, fun i hi => ⟨xs', h1', by rw [rx'.length]; exact hi⟩⟩
        obtain ⟨w, hw, rw'⟩ := rx'.get e
        refine ⟨⟨xs', w, h1', hw⟩, fun x H' ⟨e1, e2⟩ => .inl ⟨e1, ?_⟩⟩
        have := e2 xs' h1'
        rw [hw] at this
        cases this
        exact rw'
      | tup ys =>
        cases q2
        obtain ⟨b, xs, rfl, h1, rx, h2⟩ := c
        exact ⟨b, rfl, .inr ⟨⟨xs, .inl (.inl h1)⟩, o1 _ F2 H1 (s1.trans s2) a2 fun F3 H3 s3 sub hp => wk_tup (.inl (.inl (sub _ _ (s3 _ _ h2)))) (rx.mono s3)⟩⟩
      | wr ys =>
        obtain ⟨b, xs, rfl, ⟨ob, its, n, k1, k2, k3, k4, k5⟩, rx⟩ := c
        cases q2
        exact ⟨b, rfl, .inr ⟨⟨xs, .inr ⟨ob, its, n, k1, k2, k3, k4, k5⟩⟩, o1 _ F2 H1 (s1.trans s2) a2 fun F3 H3 s3 sub hp => wk_tup (.inr ⟨ob, its, n, k1, k2, k3, k4, k5⟩) (rx.mono s3)⟩⟩
      | _ => cases q2
theorem i_rng1 {p : Pos} (h : PE X e (RdE E cl X.K r)) (hp : plainE e = true) (hg : Gl X "range") (hm : X.mg "range" = none) : PI X tg (.Call (.Name "range" p) [e] [] pos) (RdI E cl X.K fun ρ => SL.asIt ((r ρ).bind fun p ρ1 => match SL.peek ρ1 p with
      | some (.int n) => if -SL.lim ≤ n ∧ n ≤ SL.lim then .ok (.sh (.lst (SL.range 0 n))) ρ1 else .stuck
      | _ => .stuck)) := by
  refine PI.weak (pi_range1 hg hm (pa_cons h pa_nil (star_plain hp)) (star_plain hp)) fun σ H R ⟨C, F, ts, ρ, τ, a, o⟩ => ⟨C, F, ts, ρ, τ, a, o.bind.bind.imp fun p ρ1 o1 v F1 H1 s1 p1 => ?_⟩
  obtain ⟨F2, s2, a2, w2⟩ := p1.opd
  cases q : SL.peek ρ1 p with
  | none => simp only [q] at o1; exact False.elim o1
  | some d =>
    simp only [q] at o1
    have c := w2.cn a2 q
    cases d with
    | int n =>
      simp only at o1
      by_cases hn : -SL.lim ≤ n ∧ n ≤ SL.lim
      case neg => rw [if_neg hn] at o1; exact False.elim o1
      rw [if_pos hn] at o1
      have e : (SL.lim : Int) = 1000000 := rfl
      rw [e] at hn
      have wk := fun F3 H3 => wk_range (K := X.K) (F := F3) (H := H3) 0 n
      rw [Int.sub_zero] at wk
      exact ⟨n, congrArg (fun z => [z]) c, by omega, by omega, o1 _ F2 H1 (s1.trans s2) a2 fun F3 H3 _ _ _ => wk F3 H3⟩
    | _ => exact False.elim o1
theorem i_rng2 {p : Pos} (h : PE X e1 (RdE E cl X.K r1)) (h2 : PE X e2 (RdE E cl X.K r2)) (hp : plainE e1 = true) (hp2 : plainE e2 = true) (hg : Gl X "range") (hm : X.mg "range" = none) : PI X tg (.Call (.Name "range" p) [e1, e2] [] pos)
    (RdI E cl X.K fun ρ => SL.asIt ((r1 ρ).bind fun p ρ1 => (r2 ρ1).bind fun q ρ2 => match SL.peek ρ2 p, SL.peek ρ2 q with
      | some (.int m), some (.int n) => if (-SL.lim ≤ m ∧ m ≤ SL.lim) ∧ -SL.lim ≤ n ∧ n ≤ SL.lim then .ok (.sh (.lst (SL.range m n))) ρ2 else .stuck
      | _, _ => .stuck)) := by
  have st2 := star_plain (es := []) (env := X.env) hp2
  have st1 := star_plain (es := [e2]) (env := X.env) hp
  refine PI.weak (pi_range2 hg hm (pa_cons h (pa_cons h2 pa_nil st2) st1) (by rw [st1, st2]; rfl) (by rw [st2]; rfl)) fun σ H R ⟨C, F, ts, ρ, τ, a, o⟩ => ⟨C, F, ts, ρ, τ, a, o.bind.bind.imp fun p ρ1 o1 v F1 H1 s1 p1 => ?_⟩
  obtain ⟨F1', s1', a1, w1⟩ := p1.opd
  refine ⟨C, F1', ts, ρ1, τ, a1, (o1.mono (s1.trans s1')).bind.imp fun q ρ2 o2 y F2 H2 s2 p2 => ?_⟩
  obtain ⟨F2', s2', a2, w2⟩ := p2.opd
  cases q1 : SL.peek ρ2 p with
  | none => simp only [q1] at o2; exact False.elim o2
  | some dx =>
    cases q2 : SL.peek ρ2 q with
    | none => cases dx <;> (simp only [q1, q2] at o2; exact False.elim o2)
    | some dy =>
      have c1 := (w1.mono (s2.trans s2')).cn a2 q1
      have c2 := w2.cn a2 q2
      cases dx with
      | int m =>
        cases dy with
        | int n =>
          simp only [q1, q2] at o2
          by_cases hn : (-SL.lim ≤ m ∧ m ≤ SL.lim) ∧ -SL.lim ≤ n ∧ n ≤ SL.lim
          case neg => rw [if_neg hn] at o2; exact False.elim o2
          rw [if_pos hn] at o2
          have e : (SL.lim : Int) = 1000000 := rfl
          rw [e] at hn
          refine ⟨m, n, ?_, by omega, o2 _ F2' H2 ((s1.trans s1').trans (s2.trans s2')) a2 fun F3 H3 _ _ _ => wk_range m n⟩
          have c1' : v = .int m := c1
          have c2' : y = .int n := c2
          rw [c1', c2']
        | _ => simp only [q1, q2] at o2; exact False.elim o2
      | _ => simp only [q1, q2] at o2; exact False.elim o2
/-! ### pairs -/
theorem a2_rd {r2 : List Slot → Res PV} (h : PE X e1 (RdE E cl X.K r1)) (h2 : PE X e2 (RdE E cl X.K r2)) (hp : plainE e1 = true) (hp2 : plainE e2 = true) : PA X [e1, e2] (fun σ H Q => ∃ C F ts ρ τ, At X.K C F H σ ts ρ τ ∧
    Out E cl X.K C σ ts τ F ((SL.frzR (r1 ρ)).bind fun x ρ1 => (SL.frzR (r2 ρ1)).bind fun y ρ2 => .ok (x, y) ρ2) fun xy ρ' => ∀ v w F' H', Same F F' → At X.K C F' H' σ ts ρ' τ → Rp X.K F' v xy.1 → Rp X.K F' w xy.2 → Q [v, w] H') := by
  refine PA.weak (pa_cons (e_frz h) (pa_cons (e_frz h2) pa_nil (star_plain hp2)) (star_plain hp)) fun σ H Q ⟨C, F, ts, ρ, τ, a, o⟩ => ⟨C, F, ts, ρ, τ, a, o.bind.imp fun x ρ1 o1 v F1 H1 s1 a1 w1 => ?_⟩
  exact ⟨C, F1, ts, ρ1, τ, a1, (o1.mono s1).bind.imp fun y ρ2 o2 w F2 H2 s2 a2 w2 => o2 v w F2 H2 (s1.trans s2) a2 (w1.mono s2) w2⟩
theorem zip_get {xs ys : List D} {i : Nat} {y : D} (h : (SL.zipV xs ys)[i]? = some y) : ∃ a b, xs[i]? = some a ∧ ys[i]? = some b ∧ y = .tup [a, b] := by
  unfold SL.zipV at h
  rw [List.getElem?_map] at h
  obtain ⟨p, h1, rfl⟩ := Option.map_eq_some_iff.mp h
  rw [List.getElem?_zip_eq_some] at h1
  exact ⟨_, _, h1.1, h1.2, rfl⟩
theorem made_pair {K : PySem.W.Frag} {F H : Hp} {T : Addr} {x y : V} {a b : D} (h : H T = none) (h1 : Rp K F x a) (h2 : Rp K F y b) : Made K F H (.sh (.tup [a, b])) (.ref T) (L2.upd H T (.tup [x, y])) :=
  .inr ⟨T, _, _, h, rfl, rfl, rfl, .cons h1 (.cons h2 .nil)⟩
theorem wk_zip {K : PySem.W.Frag} {F H : Hp} {a b : Addr} {xs ys : List V} {dx dy : List D} (h1 : SqL K H a xs) (h2 : SqL K H b ys) (r1 : Rps K F xs dx) (r2 : Rps K F ys dy) : Wk K (Itz K a b) F H (SL.zipV dx dy) := by
  refine ⟨fun i y e => ?_, fun i hi => ?_⟩
  · obtain ⟨p, q, e1, e2, rfl⟩ := zip_get e
    obtain ⟨v, hv, rv⟩ := r1.get e1
    obtain ⟨w, hw, rw'⟩ := r2.get e2
    refine ⟨⟨xs, ys, v, w, h1, h2, hv, hw⟩, fun z H' ⟨T, x', y', ez, hT, eH, g1, g2⟩ => ?_⟩
    have k1 := g1 xs h1
    have k2 := g2 ys h2
    rw [hv] at k1
    rw [hw] at k2
    cases k1
    cases k2
    rw [ez, eH]
    exact made_pair hT rv rw'
  · refine ⟨xs, ys, h1, h2, ?_⟩
    have e : (SL.zipV dx dy).length = min dx.length dy.length := by unfold SL.zipV; simp
    rw [r1.length, r2.length]
    rw [e] at hi
    omega
theorem wk_zipT {K : PySem.W.Frag} {F H : Hp} {a b : Addr} {xs ys : List V} {dx dy : List D} (h1 : SqT K H a xs) (h2 : SqT K H b ys) (r1 : Rps K F xs dx) (r2 : Rps K F ys dy) : Wk K (RZ.ItzT K a b) F H (SL.zipV dx dy) := by
  refine ⟨fun i y e => ?_, fun i hi => ?_⟩
  · obtain ⟨p, q, e1, e2, rfl⟩ := zip_get e
    obtain ⟨v, hv, rv⟩ := r1.get e1
    obtain ⟨w, hw, rw'⟩ := r2.get e2
    refine ⟨⟨xs, ys, v, w, h1, h2, hv, hw⟩, fun z H' ⟨T, x', y', ez, hT, eH, g1, g2⟩ => ?_⟩
    have k1 := g1 xs h1
    have k2 := g2 ys h2
    rw [hv] at k1
    rw [hw] at k2
    cases k1
    cases k2
    rw [ez, eH]
    exact made_pair hT rv rw'
  · refine ⟨xs, ys, h1, h2, ?_⟩
    have e : (SL.zipV dx dy).length = min dx.length dy.length := by unfold SL.zipV; simp
    rw [r1.length, r2.length]
    rw [e] at hi
    omega
/-- a tuple's datum -/
theorem Rp.tupT {K : PySem.W.Frag} {F : Hp} {v : V} {d : D} {ds : List D} (r : Rp K F v d) (h : d = .tup ds ∨ d = .wr ds) : ∃ a xs, v = .ref a ∧ Rps K F xs ds ∧ ∀ F2 H2, Same F F2 → Same F2 H2 → SqT K H2 a xs := by
  rcases h with rfl | rfl
  · cases r with
    | tup h r => exact ⟨_, _, rfl, r, fun F2 H2 s s2 => .inl (.inl (s2 _ _ (s _ _ h)))⟩
  · cases r with
    | wr h r =>
      obtain ⟨ob, its, n, k1, k2, k3, k4, k5⟩ := h
      exact ⟨_, _, rfl, r, fun F2 H2 s s2 => .inr ⟨ob, its, n, k1, k2, k3, k4, k5⟩⟩
theorem i_zip {p tpos : Pos} {elts : List Expr} {kk : Nat} (h : PE X e1 (RdE E cl X.K r1)) (h2 : PE X e2 (RdE E cl X.K r2)) (hp : plainE e1 = true) (hp2 : plainE e2 = true) (hg : Gl X "zip") (hm : X.mg "zip" = none) : PI X (.Tuple elts kk tpos) (.Call (.Name "zip" p) [e1, e2] [] pos)
    (RdI E cl X.K fun ρ => SL.asIt ((SL.frzR (r1 ρ)).bind fun x ρ1 => (SL.frzR (r2 ρ1)).bind fun y ρ2 => match SL.zipD x y with
      | some ds => .ok (.sh (.lst ds)) ρ2
      | none => .stuck)) := by
  have st2 := star_plain (es := []) (env := X.env) hp2
  have st1 := star_plain (es := [e2]) (env := X.env) hp
  refine PI.weak (RZ.pi_zipA hg hm (a2_rd h h2 hp hp2) st1 (by rw [st2]; rfl)) fun σ H R ⟨C, F, ts, ρ, τ, a, o⟩ => ⟨C, F, ts, ρ, τ, a, ?_⟩
  refine Out.bindI (o.bind.bind.imp fun x ρ1 o1 => Out.bindI (o1.bind.imp fun y ρ2 o2 v w F2 H2 s2 a2 r1 r2 => ?_))
  have two : ∀ dx dy, (x = .tup dx ∨ x = .wr dx) → (y = .tup dy ∨ y = .wr dy) → SL.zipD x y = some (SL.zipV dx dy) → RZ.iZipA X.K (fun _ H Q => Q [v, w] H) σ H2 R := fun dx dy e1 e2 ez => by
    simp only [ez] at o2
    obtain ⟨b1, xs, rfl, rx, k1⟩ := r1.tupT e1
    obtain ⟨b2, ys, rfl, ry, k2⟩ := r2.tupT e2
    refine ⟨b1, b2, xs, ys, rfl, .inr ⟨k1 F2 H2 (Same.refl F2) a2.fs.sub, k2 F2 H2 (Same.refl F2) a2.fs.sub, o2 _ F2 H2 s2 a2 fun F3 H3 s3 sub hp => ?_⟩⟩
    exact wk_zipT (k1 F3 H3 s3 sub) (k2 F3 H3 s3 sub) (rx.mono s3) (ry.mono s3)
  cases x with
  | lst dx =>
    cases y with
    | lst dy =>
      have ez : SL.zipD (.lst dx) (.lst dy) = some (SL.zipV dx dy) := rfl
      simp only [ez] at o2
      cases r1 with
      | @lst b1 xs _ h1 rx =>
        cases r2 with
        | @lst b2 ys _ h2 ry =>
          refine ⟨b1, b2, xs, ys, rfl, .inl ⟨a2.fs.sub.seq h1, a2.fs.sub.seq h2, o2 _ F2 H2 s2 a2 fun F3 H3 s3 sub hp => ?_⟩⟩
          exact wk_zip (sub.seq (s3.seq h1)) (sub.seq (s3.seq h2)) (rx.mono s3) (ry.mono s3)
    | _ => simp only [SL.zipD] at o2; exact False.elim o2
  | tup dx =>
    cases y with
    | tup dy => exact two dx dy (.inl rfl) (.inl rfl) rfl
    | wr dy => exact two dx dy (.inl rfl) (.inr rfl) rfl
    | _ => simp only [SL.zipD] at o2; exact False.elim o2
  | wr dx =>
    cases y with
    | tup dy => exact two dx dy (.inr rfl) (.inl rfl) rfl
    | wr dy => exact two dx dy (.inr rfl) (.inr rfl) rfl
    | _ => simp only [SL.zipD] at o2; exact False.elim o2
  | _ => cases y <;> (simp only [SL.zipD] at o2; exact False.elim o2)
theorem enum_get : ∀ {ds : List D} {k i : Nat} {y : D}, (SL.enumFrom k ds)[i]? = some y → ∃ d, ds[i]? = some d ∧ y = .tup [.int ((k + i : Nat) : Int), d]
  | [], k, i, y, h => by simp [SL.enumFrom] at h
  | d :: ds, k, 0, y, h => by
    have h' : some (D.tup [.int k, d]) = some y := h
    cases h'
    exact ⟨d, rfl, rfl⟩
  | d :: ds, k, i + 1, y, h => by
    have h' : (SL.enumFrom (k + 1) ds)[i]? = some y := h
    obtain ⟨d', h1, h2⟩ := enum_get h'
    refine ⟨d', by simpa using h1, ?_⟩
    rw [h2]
    have : k + 1 + i = k + (i + 1) := by omega
    rw [this]
theorem enum_len : ∀ (ds : List D) (k : Nat), (SL.enumFrom k ds).length = ds.length
  | [], _ => rfl
  | _ :: ds, k => by show (SL.enumFrom (k + 1) ds).length + 1 = _; rw [enum_len ds (k + 1)]; rfl
theorem i_enum {p tpos : Pos} {elts : List Expr} {kk : Nat} (h : PE X e1 (RdE E cl X.K r1)) (hp : plainE e1 = true) (hg : Gl X "enumerate") (hm : X.mg "enumerate" = none) : PI X (.Tuple elts kk tpos) (.Call (.Name "enumerate" p) [e1] [] pos)
    (RdI E cl X.K fun ρ => SL.asIt ((SL.frzR (r1 ρ)).bind fun x ρ1 => match x with
      | .lst ds => .ok (.sh (.lst (SL.enumFrom 0 ds))) ρ1
      | _ => .stuck)) := by
  have st1 := star_plain (es := []) (env := X.env) hp
  refine PI.weak (pi_enum hg hm (pa_cons (e_frz h) pa_nil st1) st1) fun σ H R ⟨C, F, ts, ρ, τ, a, o⟩ => ⟨C, F, ts, ρ, τ, a, o.bind.bind.imp fun x ρ1 o1 v F1 H1 s1 a1 r1 => ?_⟩
  cases x with
  | lst dx =>
    cases r1 with
    | @lst b xs _ h1 rx =>
      refine ⟨b, xs, rfl, a1.fs.sub.seq h1, o1 _ F1 H1 s1 a1 fun F3 H3 s3 sub hp => ?_⟩
      have h3 : SqL X.K H3 b xs := sub.seq (s3.seq h1)
      refine ⟨fun i y e => ?_, fun i hi => ⟨xs, h3, by rw [rx.length, ← enum_len dx 0]; exact hi⟩⟩
      obtain ⟨d, e1, rfl⟩ := enum_get e
      obtain ⟨w, hw, rw'⟩ := (rx.mono s3).get e1
      refine ⟨⟨xs, w, h3, hw⟩, fun z H' ⟨T, x', ez, hT, eH, g⟩ => ?_⟩
      have k := g xs h3
      rw [hw] at k
      cases k
      rw [ez, eH, Nat.zero_add]
      exact made_pair hT (.int _) rw'
  | _ => exact False.elim o1
/-! ### targets -/
theorem free_lt {ρ : List Slot} {i : Nat} (h : SL.free ρ i = true) : i < ρ.length := by
  unfold SL.free at h
  split at h
  · cases h
  · cases h
  · exact of_decide_eq_true h
theorem At.putSh {K : PySem.W.Frag} {C : Cfg} {F H : Hp} {σ ts : List (Option V)} {ρ τ : List Slot} {i : Nat} {v : V} {d : D} (a : At K C F H σ ts ρ τ) (hi : i < ρ.length) (r : Rp K F v d) : At K C F H (σ.set i (some v)) ts (ρ.set i (.sh d)) τ := by
  refine ⟨?_, by rw [List.length_set, List.length_set]; exact a.len⟩
  have f := a.fs.putSh (i := i) r
  rw [List.set_append_left _ _ hi, List.set_append_left _ _ (by rw [a.len]; exact hi)] at f
  exact f
mutual
def tnames : Tgt → List Nat
  | .nm i => [i]
  | .tp ts => tnamess ts
def tnamess : List Tgt → List Nat
  | [] => []
  | t :: ts => tnames t ++ tnamess ts
end
/-- σ' is σ but for the names at is -/
def OnlyAt (is : List Nat) (σ σ' : List (Option V)) : Prop := σ'.length = σ.length ∧ ∀ j, j ∉ is → σ'[j]? = σ[j]?
theorem OnlyAt.refl {is : List Nat} {σ : List (Option V)} : OnlyAt is σ σ := ⟨rfl, fun _ _ => rfl⟩
theorem OnlyAt.trans {is js : List Nat} {σ σ' σ'' : List (Option V)} (h : OnlyAt is σ σ') (g : OnlyAt js σ' σ'') : OnlyAt (is ++ js) σ σ'' :=
  ⟨g.1.trans h.1, fun j hj => (g.2 j fun z => hj (List.mem_append_right _ z)).trans (h.2 j fun z => hj (List.mem_append_left _ z))⟩
def RdG (K : PySem.W.Frag) (t : Tgt) : TG := fun v σ H Q => ∃ C F ts ρ τ d ρ', At K C F H σ ts ρ τ ∧ Rp K F v d ∧ SL.setT ρ t d = some ρ' ∧ ∀ σ', At K C F H σ' ts ρ' τ → OnlyAt (tnames t) σ σ' → Q σ' H
def RdGs (K : PySem.W.Frag) (t : List Tgt) : TGs := fun vs σ H Q => ∃ C F ts ρ τ ds ρ', At K C F H σ ts ρ τ ∧ Rps K F vs ds ∧ SL.setTs ρ t ds = some ρ' ∧ ∀ σ', At K C F H σ' ts ρ' τ → OnlyAt (tnamess t) σ σ' → Q σ' H
theorem g_nm {i : Nat} (h : PG X e (gName i)) : PG X e (RdG X.K (.nm i)) := by
  refine PG.weak h fun v σ H Q ⟨C, F, ts, ρ, τ, d, ρ', a, r, e, k⟩ => ?_
  have e' : (if SL.free ρ i = true then some (ρ.set i (.sh d)) else none) = some ρ' := by
    unfold SL.setT at e
    exact e
  by_cases hf : SL.free ρ i = true
  case neg => rw [if_neg hf] at e'; cases e'
  rw [if_pos hf] at e'
  cases e'
  refine k _ (a.putSh (free_lt hf) r) ⟨by rw [List.length_set], fun j hj => ?_⟩
  exact List.getElem?_set_ne (fun z => hj (by rw [z]; exact List.mem_singleton.mpr rfl))
theorem gs_nil : PGs X [] (RdGs X.K []) := PGs.weak pgs_nil fun vs σ H Q ⟨C, F, ts, ρ, τ, ds, ρ', a, r, e, k⟩ => by
  cases r with
  | nil =>
    have e' : some ρ = some ρ' := by unfold SL.setTs at e; exact e
    cases e'
    exact ⟨rfl, k σ a .refl⟩
  | cons h r =>
    unfold SL.setTs at e
    cases e
theorem gs_cons {t : Tgt} {us : List Tgt} (h1 : PG X e (RdG X.K t)) (h2 : PGs X es (RdGs X.K us)) (hs : (assignEach (e :: es) X.env).map (·.2) = assign e X.env :: (assignEach es X.env).map (·.2)) : PGs X (e :: es) (RdGs X.K (t :: us)) := by
  refine PGs.weak (pgs_cons h1 h2 hs) fun vs σ H Q ⟨C, F, ts, ρ, τ, ds, ρ', a, r, e, k⟩ => ?_
  cases r with
  | nil => unfold SL.setTs at e; cases e
  | @cons v vr d dr h r =>
    have e' : (match SL.setT ρ t d with | some ρ1 => SL.setTs ρ1 us dr | none => none) = some ρ' := by unfold SL.setTs at e; exact e
    cases q : SL.setT ρ t d with
    | none => rw [q] at e'; cases e'
    | some ρ1 =>
      rw [q] at e'
      exact ⟨v, vr, rfl, C, F, ts, ρ, τ, d, ρ1, a, h, q, fun σ1 a1 o1 => ⟨C, F, ts, ρ1, τ, dr, ρ', a1, r, e', fun σ2 a2 o2 => k σ2 a2 (o1.trans o2)⟩⟩
theorem setTs_len : ∀ {us : List Tgt} {ds : List D} {ρ ρ' : List Slot}, SL.setTs ρ us ds = some ρ' → ds.length = us.length
  | [], [], _, _, _ => rfl
  | [], _ :: _, _, _, e => by unfold SL.setTs at e; cases e
  | _ :: _, [], _, _, e => by unfold SL.setTs at e; cases e
  | t :: us, d :: ds, ρ, ρ', e => by
    have e' : (match SL.setT ρ t d with | some ρ1 => SL.setTs ρ1 us ds | none => none) = some ρ' := by unfold SL.setTs at e; exact e
    cases q : SL.setT ρ t d with
    | none => rw [q] at e'; cases e'
    | some ρ1 =>
      rw [q] at e'
      rw [List.length_cons, List.length_cons, setTs_len e']
theorem g_tp {us : List Tgt} {k : Nat} (hc : X.calm = true) (h : PGs X es (RdGs X.K us)) (hn : (assignEach es X.env).length = us.length) (hst : (assignEach es X.env).findIdx? (·.1) = none) : PG X (.Tuple es k pos) (RdG X.K (.tp us)) := by
  refine PG.weak (pg_tup (n := us.length) hc h hn hst) fun v σ H Q ⟨C, F, ts, ρ, τ, d, ρ', a, r, e, kk⟩ => ?_
  cases r with
  | @tup ad xs ds h1 r =>
    have e' : SL.setTs ρ us ds = some ρ' := by unfold SL.setT at e; exact e
    exact ⟨ad, xs, rfl, .inl (.inl (a.fs.sub _ _ h1)), by rw [r.length, setTs_len e'], C, F, ts, ρ, τ, ds, ρ', a, r, e', fun σ' a' o' => kk σ' a' o'⟩
  | _ => unfold SL.setT at e; cases e
end
end SLS

/-! ## S11 -/
set_option Elab.async false
set_option linter.all false
set_option autoImplicit false
set_option maxRecDepth 100000
/-! Soundness 11: list comprehensions. -/
namespace SLS
open PySem PySem.Spec PyProof.Rows L2
open SL (D Slot PV Res Ag Tgt)
/-- nothing is let out -/
def EF : XK := fun _ _ _ => False
section
variable {α β γ : Type} {E : XK} {cl : Nat → Value} {K : PySem.W.Frag} {C : Cfg} {F F' H H' : Hp} {σ σ' ts : List (Option V)} {ρ ρ' τ : List Slot}
theorem calm_out {x : Res α} {f : α → List Slot → Res β} {k : β → List Slot → Res γ} {ok : γ → List Slot → Prop} {cl' : Nat → Value} (o : Out E cl K C σ ts τ F ((x.bind f).calm.bind k) ok) : ∃ a ρ, x = .ok a ρ ∧ Out E cl K C σ ts τ F ((f a ρ).calm.bind k) ok := by
  cases x with
  | ok a ρ => exact ⟨a, ρ, rfl, o⟩
  | exc _ _ => exact False.elim o
  | stuck => exact False.elim o
/-- other slots, one by one -/
theorem Fs.swap {vs vs' : List (Option V)} (s : Fs K C F H vs ρ) (hl : vs'.length = ρ'.length)
    (h : ∀ (j : Nat) (t : Slot), ρ'[j]? = some t → ((vs'[j]?).join = (vs[j]?).join ∧ ρ[j]? = some t) ∨ (¬ owned t ∧ SlotOk K F C.B H (C.br j) ((vs'[j]?).join) (C.lk j) t)) : Fs K C F H vs' ρ' := by
  refine ⟨s.sub, s.old, s.frm, s.grow, hl, fun i t e => ?_, fun i j t u p e1 e2 o1 o2 v1 v2 => ?_⟩
  · rcases h i t e with ⟨h1, h2⟩ | ⟨_, h2⟩
    · rw [h1]; exact s.slot i t h2
    · exact h2
  · rcases h i t e1 with ⟨h1, h2⟩ | ⟨h1, _⟩
    · rcases h j u e2 with ⟨g1, g2⟩ | ⟨g1, _⟩
      · rw [h1] at v1; rw [g1] at v2
        exact s.inj i j t u p h2 g2 o1 o2 v1 v2
      · exact absurd o2 g1
    · exact absurd o1 h1
theorem At.swap (a : At K C F H σ ts ρ τ) (hl : σ'.length = ρ'.length) (hr : ρ'.length = ρ.length)
    (h : ∀ (j : Nat) (t : Slot), ρ'[j]? = some t → ((σ'[j]?).join = (σ[j]?).join ∧ ρ[j]? = some t) ∨ (¬ owned t ∧ SlotOk K F C.B H (C.br j) ((σ'[j]?).join) (C.lk j) t)) : At K C F H σ' ts ρ' τ := by
  refine ⟨a.fs.swap (by rw [List.length_append, List.length_append, hl, a.lenT]) fun j t e => ?_, hl⟩
  by_cases hj : j < ρ'.length
  · rw [List.getElem?_append_left hj] at e
    rw [List.getElem?_append_left (by rw [hl]; exact hj), List.getElem?_append_left (by rw [a.len, ← hr]; exact hj), List.getElem?_append_left (by rw [← hr]; exact hj)]
    exact h j t e
  · rw [List.getElem?_append_right (by omega)] at e
    left
    have e1 : σ'.length = σ.length := by rw [hl, hr, a.len]
    constructor
    · rw [List.getElem?_append_right (by omega), List.getElem?_append_right (by omega), e1]
    · rw [List.getElem?_append_right (by omega), ← hr]; exact e
theorem swipe_len (ρ : List Slot) : ∀ is : List Nat, (SL.wipe ρ is).length = ρ.length
  | [] => rfl
  | i :: is => by unfold SL.wipe; rw [List.length_set, swipe_len ρ is]
theorem sunwipe_len (ρ0 ρ : List Slot) : ∀ is : List Nat, (SL.unwipe ρ0 ρ is).length = ρ.length
  | [] => rfl
  | i :: is => by unfold SL.unwipe; rw [List.length_set, sunwipe_len ρ0 ρ is]
theorem swipe_get {ρ : List Slot} {j : Nat} {t : Slot} : ∀ {is : List Nat}, (SL.wipe ρ is)[j]? = some t → (j ∈ is ∧ t = .no) ∨ (j ∉ is ∧ ρ[j]? = some t)
  | [], e => .inr ⟨by simp, e⟩
  | i :: is, e => by
    unfold SL.wipe at e
    rcases getElem?_set_cases e with ⟨h, h', _⟩ | ⟨h, h'⟩
    · subst h; exact .inl ⟨List.mem_cons_self, h'⟩
    · rcases swipe_get h' with ⟨g, g'⟩ | ⟨g, g'⟩
      · exact .inl ⟨List.mem_cons_of_mem _ g, g'⟩
      · exact .inr ⟨by simp only [List.mem_cons, not_or]; exact ⟨h, g⟩, g'⟩
theorem sunwipe_get {ρ0 ρ : List Slot} {j : Nat} {t : Slot} : ∀ {is : List Nat}, (SL.unwipe ρ0 ρ is)[j]? = some t → (j ∈ is ∧ t = SL.look ρ0 j) ∨ (j ∉ is ∧ ρ[j]? = some t)
  | [], e => .inr ⟨by simp, e⟩
  | i :: is, e => by
    unfold SL.unwipe at e
    rcases getElem?_set_cases e with ⟨h, h', _⟩ | ⟨h, h'⟩
    · subst h; exact .inl ⟨List.mem_cons_self, h'⟩
    · rcases sunwipe_get h' with ⟨g, g'⟩ | ⟨g, g'⟩
      · exact .inl ⟨List.mem_cons_of_mem _ g, g'⟩
      · exact .inr ⟨by simp only [List.mem_cons, not_or]; exact ⟨h, g⟩, g'⟩
/-- the block's own names forgotten -/
theorem At.wipe (a : At K C F H σ ts ρ τ) (is : List Nat) : At K C F H (L2.wipe σ is) ts (SL.wipe ρ is) τ := by
  refine a.swap (by rw [L2.wipe_length, swipe_len, a.len]) (swipe_len ρ is) fun j t e => ?_
  rcases swipe_get e with ⟨h, rfl⟩ | ⟨h, h'⟩
  · exact .inr ⟨fun z => z, trivial⟩
  · exact .inl ⟨by rw [L2.wipe_out h], h'⟩
/-- .. and again what they were -/
theorem At.unwipe {F0 H0 : Hp} {C0 : Cfg} {ts0 : List (Option V)} {ρ0 τ0 : List Slot} {is : List Nat} (a0 : At K C0 F0 H0 σ ts0 ρ0 τ0) (sf : Same F0 F) (st : SL.still ρ0 is = true) (a : At K C F H (L2.wipe σ is) ts (SL.wipe ρ is) τ) : At K C F H σ ts (SL.unwipe ρ0 ρ is) τ := by
  have hl : σ.length = ρ.length := by have := a.len; rwa [L2.wipe_length, swipe_len] at this
  refine a.swap (by rw [sunwipe_len]; exact hl) (by rw [sunwipe_len, swipe_len]) fun j t e => ?_
  rcases sunwipe_get e with ⟨h, rfl⟩ | ⟨h, h'⟩
  · right
    have hs := List.all_eq_true.mp st j h
    have hj : j < ρ0.length := by
      have := (List.getElem?_eq_some_iff.mp e).1
      rw [sunwipe_len] at this
      rw [← a0.len, hl]; exact this
    have hg := look_get hj
    cases q : SL.look ρ0 j with
    | no => exact ⟨fun z => z, trivial⟩
    | sh d =>
      refine ⟨fun z => z, ?_⟩
      rw [q] at hg
      obtain ⟨x, ex, r⟩ := a0.fs.slot j (.sh d) (by rw [List.getElem?_append_left hj]; exact hg)
      rw [List.getElem?_append_left (by rw [a0.len]; exact hj)] at ex
      exact ⟨x, ex, r.mono sf⟩
    | mu d => rw [q] at hs; cases hs
    | br d => rw [q] at hs; cases hs
    | lk d => rw [q] at hs; cases hs
  · left
    refine ⟨by rw [L2.wipe_out h], ?_⟩
    have hj : j < (SL.wipe ρ is).length := by rw [swipe_len]; exact (List.getElem?_eq_some_iff.mp h').1
    rw [List.getElem?_eq_getElem hj]
    rcases swipe_get (List.getElem?_eq_getElem hj) with ⟨g, _⟩ | ⟨_, g⟩
    · exact absurd g h
    · rw [h'] at g; exact g.symm
theorem wipe_only {is : List Nat} {js : List Nat} (o : OnlyAt js σ σ') (h : ∀ j ∈ js, j ∈ is) : L2.wipe σ' is = L2.wipe σ is := by
  apply List.ext_getElem?
  intro j
  by_cases hj : j ∈ is
  · have key : ∀ (s : List (Option V)), (L2.wipe s is)[j]? = if j < s.length then some none else none := fun s => by
      have z : ∀ (l : List Nat), j ∈ l → (L2.wipe s l)[j]? = if j < s.length then some none else none := fun l => by
        induction l with
        | nil => intro h; simp at h
        | cons i l ih =>
          intro hm
          unfold L2.wipe
          by_cases e : i = j
          · subst e
            by_cases hl : i < s.length
            · rw [List.getElem?_set_self (by rw [L2.wipe_length]; exact hl), if_pos hl]
            · rw [List.getElem?_eq_none (by rw [List.length_set, L2.wipe_length]; omega), if_neg hl]
          · rw [List.getElem?_set_ne e]
            exact ih ((List.mem_cons.mp hm).resolve_left fun z => e z.symm)
      exact z is hj
    rw [key, key, o.1]
  · rw [L2.wipe_out hj, L2.wipe_out hj, o.2 j fun z => hj (h j z)]
/-- the last thing held -/
theorem At.last {v : V} {d : D} (a : At K C F H σ (ts ++ [some v]) ρ (τ ++ [.mu d])) (ht : ts.length = τ.length) : ∃ p o, v = .ref p ∧ F p = none ∧ C.B p = none ∧ H p = some o ∧ Ow K F o d := by
  have f := a.fs
  rw [← List.append_assoc, ← List.append_assoc] at f
  have hL : (σ ++ ts).length = (ρ ++ τ).length := by rw [List.length_append, List.length_append, a.len, ht]
  obtain ⟨p, o, d', e1, f1, b1, h1, r1, k⟩ := (f.slot (ρ ++ τ).length (.mu d) (by simp)).own_of trivial
  have e3 : (((σ ++ ts) ++ [some v])[(ρ ++ τ).length]?).join = some v := by rw [← hL]; simp
  rw [e3] at e1
  cases e1
  have ed : d' = d := by rcases k with k | ⟨k, _⟩ | ⟨k, _⟩ <;> cases k <;> rfl
  subst ed
  exact ⟨p, o, rfl, f1, b1, h1, r1⟩
theorem At.setLast {p : Addr} {d d' : D} {o' : HO} (a : At K C F H σ (ts ++ [some (.ref p)]) ρ (τ ++ [.mu d])) (ht : ts.length = τ.length) (ho : Ow K F o' d') : At K C F (L2.upd H p o') σ (ts ++ [some (.ref p)]) ρ (τ ++ [.mu d']) := by
  have f := a.fs
  rw [← List.append_assoc, ← List.append_assoc] at f
  have hL : (σ ++ ts).length = (ρ ++ τ).length := by rw [List.length_append, List.length_append, a.len, ht]
  have e3 : (((σ ++ ts) ++ [some (V.ref p)])[(ρ ++ τ).length]?).join = some (.ref p) := by rw [← hL]; simp
  have g := f.change (i := (ρ ++ τ).length) (t := .mu d) (t' := .mu d') (by simp) trivial e3 ho ⟨fun _ _ => rfl, fun _ e => (nomatch e), fun _ e => (nomatch e)⟩
  refine ⟨?_, a.len⟩
  rw [← List.append_assoc, ← List.append_assoc]
  have e2 : ((ρ ++ τ) ++ [Slot.mu d]).set (ρ ++ τ).length (.mu d') = (ρ ++ τ) ++ [.mu d'] := by
    rw [List.set_append_right _ _ (Nat.le_refl _)]; simp
  rw [e2] at g
  exact g
/-- the slot i is locked: what it holds stays -/
abbrev Cfg.lock (C : Cfg) (i : Nat) (d : D) : Cfg := { C with lk := fun j => if j = i then some d else C.lk j }
theorem At.lock {i : Nat} {d : D} (a : At K C F H σ ts ρ τ) (e : ρ[i]? = some (.mu d)) : At K (C.lock i d) F H σ ts (ρ.set i (.lk d)) τ := by
  have hi := lt_of_some e
  have e' : (ρ ++ τ)[i]? = some (.mu d) := by rw [List.getElem?_append_left hi]; exact e
  have s := a.fs
  refine ⟨?_, by rw [List.length_set]; exact a.len⟩
  rw [← List.set_append_left _ _ hi]
  refine ⟨s.sub, s.old, s.frm, s.grow, by rw [List.length_set]; exact s.len, fun j t z => ?_, fun j k t u p z1 z2 o1 o2 v1 v2 => ?_⟩
  · rcases getElem?_set_cases z with ⟨h, h', _⟩ | ⟨h, h'⟩
    · subst h; subst h'
      obtain ⟨x, ex, r⟩ := s.slot j _ e'
      exact ⟨x, ex, r, by show (if j = j then some d else C.lk j) = some d; rw [if_pos rfl]⟩
    · have q := s.slot j t h'
      have el : (C.lock i d).lk j = C.lk j := by show (if j = i then some d else C.lk j) = _; rw [if_neg h]
      rw [el]
      exact q
  · rcases getElem?_set_cases z1 with ⟨h, h', _⟩ | ⟨h, h'⟩
    · rcases getElem?_set_cases z2 with ⟨g, g', _⟩ | ⟨g, g'⟩
      · rw [h, g]
      · subst h
        exact s.inj j k _ u p e' g' trivial o2 v1 v2
    · rcases getElem?_set_cases z2 with ⟨g, g', _⟩ | ⟨g, g'⟩
      · subst g
        exact s.inj j k t _ p h' e' o1 trivial v1 v2
      · exact s.inj j k t u p h' g' o1 o2 v1 v2
theorem At.unlock {i : Nat} {d e0 : D} (a : At K (C.lock i d) F H σ ts ρ τ) (e : ρ[i]? = some (.lk e0)) : e0 = d ∧ At K C F H σ ts (ρ.set i (.mu e0)) τ := by
  have hi := lt_of_some e
  have e' : (ρ ++ τ)[i]? = some (.lk e0) := by rw [List.getElem?_append_left hi]; exact e
  have s := a.fs
  obtain ⟨x, ex, r, el⟩ := s.slot i _ e'
  have el' : (if i = i then some d else C.lk i) = some e0 := el
  rw [if_pos rfl] at el'
  refine ⟨(Option.some.inj el').symm, ?_, by rw [List.length_set]; exact a.len⟩
  rw [← List.set_append_left _ _ hi]
  refine ⟨s.sub, s.old, s.frm, s.grow, by rw [List.length_set]; exact s.len, fun j t z => ?_, fun j k t u p z1 z2 o1 o2 v1 v2 => ?_⟩
  · rcases getElem?_set_cases z with ⟨h, h', _⟩ | ⟨h, h'⟩
    · subst h; subst h'
      exact ⟨x, ex, r⟩
    · have q := s.slot j t h'
      have el2 : (C.lock i d).lk j = C.lk j := by show (if j = i then some d else C.lk j) = _; rw [if_neg h]
      rw [el2] at q
      exact q
  · rcases getElem?_set_cases z1 with ⟨h, h', _⟩ | ⟨h, h'⟩
    · rcases getElem?_set_cases z2 with ⟨g, g', _⟩ | ⟨g, g'⟩
      · rw [h, g]
      · subst h
        exact s.inj j k _ u p e' g' trivial o2 v1 v2
    · rcases getElem?_set_cases z2 with ⟨g, g', _⟩ | ⟨g, g'⟩
      · subst g
        exact s.inj j k t _ p h' e' o1 trivial v1 v2
      · exact s.inj j k t u p h' g' o1 o2 v1 v2
theorem still_not {is : List Nat} {i : Nat} {d : D} (st : SL.still ρ is = true) (h : SL.look ρ i = .mu d ∨ SL.look ρ i = .lk d) : i ∉ is := fun hm => by
  have := List.all_eq_true.mp st i hm
  rcases h with h | h <;> (rw [h] at this; cases this)
/-- the turns, when they come to an end -/
theorem turns_nil {o : Option Nat} {own : List Nat} {t : Tgt} {body : List Slot → List D → Res (List D)} {acc A : List D} {R : List Slot} (h : SL.turns o own t body [] acc ρ = .ok A R) : SL.guard o ρ = true ∧ acc = A ∧ ρ = R := by
  unfold SL.turns at h
  by_cases g : SL.guard o ρ = true
  · rw [if_pos g] at h; cases h; exact ⟨g, rfl, rfl⟩
  · rw [if_neg g] at h; cases h
theorem turns_cons {o : Option Nat} {own : List Nat} {t : Tgt} {body : List Slot → List D → Res (List D)} {x : D} {xs acc A : List D} {R : List Slot} (h : SL.turns o own t body (x :: xs) acc ρ = .ok A R) :
    SL.guard o ρ = true ∧ ∃ ρ1 acc' ρ2, SL.setT (SL.wipe ρ own) t x = some ρ1 ∧ body ρ1 acc = .ok acc' ρ2 ∧ SL.turns o own t body xs acc' ρ2 = .ok A R := by
  unfold SL.turns at h
  by_cases g : SL.guard o ρ = true
  case neg => rw [if_neg g] at h; cases h
  rw [if_pos g] at h
  cases q : SL.setT (SL.wipe ρ own) t x with
  | none => rw [q] at h; cases h
  | some ρ1 =>
    rw [q] at h
    cases q2 : body ρ1 acc with
    | ok a r =>
      have h' : SL.turns o own t body xs a r = .ok A R := by simpa [q2, SL.Res.calm, SL.Res.bind] using h
      exact ⟨g, ρ1, a, r, rfl, q2, h'⟩
    | exc k r => simp [q2, SL.Res.calm, SL.Res.bind] at h
    | stuck => simp [q2, SL.Res.calm, SL.Res.bind] at h
theorem turns_calm {o : Option Nat} {own : List Nat} {t : Tgt} {body : List Slot → List D → Res (List D)} : ∀ {xs acc : List D} {ρ : List Slot}, (∃ A R, SL.turns o own t body xs acc ρ = .ok A R) ∨ SL.turns o own t body xs acc ρ = .stuck
  | [], acc, ρ => by
    unfold SL.turns
    by_cases g : SL.guard o ρ = true
    · rw [if_pos g]; exact .inl ⟨_, _, rfl⟩
    · rw [if_neg g]; exact .inr rfl
  | x :: xs, acc, ρ => by
    unfold SL.turns
    by_cases g : SL.guard o ρ = true
    case neg => rw [if_neg g]; exact .inr rfl
    rw [if_pos g]
    cases q : SL.setT (SL.wipe ρ own) t x with
    | none => exact .inr rfl
    | some ρ1 =>
      cases q2 : body ρ1 acc with
      | ok a r => simpa [q2, SL.Res.calm, SL.Res.bind] using turns_calm
      | exc k r => right; simp [q2, SL.Res.calm, SL.Res.bind]
      | stuck => right; simp [q2, SL.Res.calm, SL.Res.bind]
/-- a block: what it starts with, what it ends with -/
theorem block_rd {β : Type} {F0 : Hp} {own : List Nat} {t : Tgt} {p : PV} {ds acc0 : List D} {body : List Slot → List D → Res (List D)} {kont : List D → List Slot → Res β} {ok : β → List Slot → Prop} {J : It} (a : At K C F H σ ts ρ τ) (it : ItOk K J F σ p ds (SL.peek ρ p))
    (hit : ∀ d, SL.peek ρ p = some d → SL.items d = some ds)
    (o : Out E cl K C σ ts τ F0 ((SL.block own p ρ fun o ρ2 => SL.turns o own t body ds acc0 ρ2).bind kont) ok) :
    ∃ (C' : Cfg) (lo : Option Nat) (ρ2 : List Slot) (A : List D) (R : List Slot), At K C' F H σ ts ρ2 τ ∧ SL.turns lo own t body ds acc0 ρ2 = .ok A R ∧
      (∀ F2 H2 ts2 τ2 ρx, Same F F2 → At K C' F2 H2 (L2.wipe σ own) ts2 (SL.wipe ρx own) τ2 → SL.guard lo ρx = true → Wk K J F2 H2 ds) ∧
      (∀ F2 H2 ts2 τ2, Same F F2 → At K C' F2 H2 (L2.wipe σ own) ts2 (SL.wipe R own) τ2 → ∃ ρ9, At K C F2 H2 σ ts2 ρ9 τ2 ∧ Out E cl K C σ ts τ F0 (kont A ρ9) ok) := by
  unfold SL.block at o
  by_cases st : SL.still ρ own = true
  case neg => rw [if_neg st] at o; exact False.elim o
  rw [if_pos st] at o
  -- nothing is locked
  have free : (∀ i, p = .slot i → ∃ d, SL.look ρ i = .sh d) → Out E cl K C σ ts τ F0 (((SL.turns none own t body ds acc0 ρ).bind fun acc ρ2 => .ok acc (SL.unwipe ρ ρ2 own)).bind kont) ok →
      ∃ (C' : Cfg) (lo : Option Nat) (ρ2 : List Slot) (A : List D) (R : List Slot), At K C' F H σ ts ρ2 τ ∧ SL.turns lo own t body ds acc0 ρ2 = .ok A R ∧
      (∀ F2 H2 ts2 τ2 ρx, Same F F2 → At K C' F2 H2 (L2.wipe σ own) ts2 (SL.wipe ρx own) τ2 → SL.guard lo ρx = true → Wk K J F2 H2 ds) ∧
      (∀ F2 H2 ts2 τ2, Same F F2 → At K C' F2 H2 (L2.wipe σ own) ts2 (SL.wipe R own) τ2 → ∃ ρ9, At K C F2 H2 σ ts2 ρ9 τ2 ∧ Out E cl K C σ ts τ F0 (kont A ρ9) ok) := fun hp o => by
    rcases turns_calm (o := none) (own := own) (t := t) (body := body) (xs := ds) (acc := acc0) (ρ := ρ) with ⟨A, R, e⟩ | e
    · rw [e] at o
      refine ⟨C, none, ρ, A, R, a, e, fun F2 H2 ts2 τ2 ρx s2 a2 _ => it F2 H2 s2 a2.fs.sub fun i ep => ?_, fun F2 H2 ts2 τ2 s2 a2 => ⟨_, At.unwipe a s2 st a2, o⟩⟩
      obtain ⟨d, hd⟩ := hp i ep
      have hi : i < ρ.length := look_lt (d := d) (by rw [hd]; rfl)
      obtain ⟨x, ex, r⟩ := a.fs.slot i (.sh d) (by rw [List.getElem?_append_left hi]; exact look_own hd (fun z => nomatch z))
      rw [List.getElem?_append_left (by rw [a.len]; exact hi)] at ex
      subst ep
      exact ⟨x, d, ex, Rp.cn a2.fs.sub (r.mono s2), by show SL.cont (SL.look ρ i) = some d; rw [hd]; rfl⟩
    · rw [e] at o; exact False.elim o
  cases p with
  | sh d => exact free (fun i e => nomatch e) o
  | mu d => exact free (fun i e => nomatch e) o
  | slot i =>
    cases q : SL.look ρ i with
    | no => simp only [q] at o; exact False.elim o
    | br d => simp only [q] at o; exact False.elim o
    | sh d => simp only [q] at o; exact free (fun j e => by cases e; exact ⟨d, q⟩) o
    | lk d =>
      simp only [q] at o
      have hi : i < ρ.length := look_lt (d := d) (by rw [q]; rfl)
      have hn := still_not st (.inr q)
      have hg := look_own q (fun z => nomatch z)
      obtain ⟨x, ex, _, el⟩ := a.fs.slot i (.lk d) (by rw [List.getElem?_append_left hi]; exact hg)
      rw [List.getElem?_append_left (by rw [a.len]; exact hi)] at ex
      rcases turns_calm (o := some i) (own := own) (t := t) (body := body) (xs := ds) (acc := acc0) (ρ := ρ) with ⟨A, R, e⟩ | e
      · rw [e] at o
        refine ⟨C, some i, ρ, A, R, a, e, fun F2 H2 ts2 τ2 ρx s2 a2 g => it F2 H2 s2 a2.fs.sub fun j ep => ?_, fun F2 H2 ts2 τ2 s2 a2 => ⟨_, At.unwipe a s2 st a2, o⟩⟩
        cases ep
        have g' : ∃ e, SL.look ρx i = .lk e := by
          unfold SL.guard at g
          cases z : SL.look ρx i with
          | lk e => exact ⟨e, rfl⟩
          | _ => simp only [z] at g; cases g
        obtain ⟨e0, ge⟩ := g'
        have gx := look_own ge (fun z => nomatch z)
        have gw : (SL.wipe ρx own)[i]? = some (.lk e0) := by
          have hl : i < (SL.wipe ρx own).length := by rw [swipe_len]; exact lt_of_some gx
          rcases swipe_get (List.getElem?_eq_getElem hl) with ⟨z, _⟩ | ⟨_, z⟩
          · exact absurd z hn
          · rw [gx] at z; rw [List.getElem?_eq_getElem hl]; exact z.symm
        obtain ⟨y, ey, ⟨p', o', e2, _, _, h1, r1⟩, el2⟩ := a2.fs.slot i (.lk e0) (by rw [List.getElem?_append_left (lt_of_some gw)]; exact gw)
        rw [List.getElem?_append_left (by rw [a2.len]; exact lt_of_some gw), L2.wipe_out hn, ex] at ey
        cases ey
        subst e2
        rw [el] at el2
        cases el2
        exact ⟨_, d, ex, r1.cn h1, by show SL.cont (SL.look ρ i) = some d; rw [q]; rfl⟩
      · rw [e] at o; exact False.elim o
    | mu d =>
      simp only [q] at o
      have hi : i < ρ.length := look_lt (d := d) (by rw [q]; rfl)
      have hn := still_not st (.inl q)
      have hg := look_own q (fun z => nomatch z)
      obtain ⟨x, ex, _⟩ := a.fs.slot i (.mu d) (by rw [List.getElem?_append_left hi]; exact hg)
      rw [List.getElem?_append_left (by rw [a.len]; exact hi)] at ex
      rcases turns_calm (o := some i) (own := own) (t := t) (body := body) (xs := ds) (acc := acc0) (ρ := ρ.set i (.lk d)) with ⟨A, R, e⟩ | e
      · rw [e] at o
        refine ⟨C.lock i d, some i, ρ.set i (.lk d), A, R, a.lock hg, e, fun F2 H2 ts2 τ2 ρx s2 a2 g => it F2 H2 s2 a2.fs.sub fun j ep => ?_, fun F2 H2 ts2 τ2 s2 a2 => ?_⟩
        · cases ep
          have g' : ∃ e, SL.look ρx i = .lk e := by
            unfold SL.guard at g
            cases z : SL.look ρx i with
            | lk e => exact ⟨e, rfl⟩
            | _ => simp only [z] at g; cases g
          obtain ⟨e0, ge⟩ := g'
          have gx := look_own ge (fun z => nomatch z)
          have gw : (SL.wipe ρx own)[i]? = some (.lk e0) := by
            have hl : i < (SL.wipe ρx own).length := by rw [swipe_len]; exact lt_of_some gx
            rcases swipe_get (List.getElem?_eq_getElem hl) with ⟨z, _⟩ | ⟨_, z⟩
            · exact absurd z hn
            · rw [gx] at z; rw [List.getElem?_eq_getElem hl]; exact z.symm
          obtain ⟨y, ey, ⟨p', o', e2, _, _, h1, r1⟩, el2⟩ := a2.fs.slot i (.lk e0) (by rw [List.getElem?_append_left (lt_of_some gw)]; exact gw)
          rw [List.getElem?_append_left (by rw [a2.len]; exact lt_of_some gw), L2.wipe_out hn, ex] at ey
          cases ey
          subst e2
          have el3 : (if i = i then some d else C.lk i) = some e0 := el2
          rw [if_pos rfl] at el3
          cases el3
          exact ⟨_, d, ex, r1.cn h1, by show SL.cont (SL.look ρ i) = some d; rw [q]; rfl⟩
        · have o2 : Out E cl K C σ ts τ F0 ((match SL.look (SL.unwipe ρ R own) i with | .lk e => Res.ok A ((SL.unwipe ρ R own).set i (.mu e)) | _ => .stuck).bind kont) ok := o
          have a3 : At K (C.lock i d) F2 H2 σ ts2 (SL.unwipe ρ R own) τ2 := At.unwipe a s2 st a2
          cases z : SL.look (SL.unwipe ρ R own) i with
          | lk e0 =>
            rw [z] at o2
            exact ⟨_, (a3.unlock (look_own z (fun z => nomatch z))).2, o2⟩
          | no => rw [z] at o2; exact False.elim o2
          | sh _ => rw [z] at o2; exact False.elim o2
          | mu _ => rw [z] at o2; exact False.elim o2
          | br _ => rw [z] at o2; exact False.elim o2
      · rw [e] at o; exact False.elim o
theorem wipe_at {is : List Nat} {j : Nat} (hj : j ∈ is) (s : List (Option V)) : (L2.wipe s is)[j]? = if j < s.length then some none else none := by
  induction is with
  | nil => simp at hj
  | cons i l ih =>
    unfold L2.wipe
    by_cases e : i = j
    · subst e
      by_cases hl : i < s.length
      · rw [List.getElem?_set_self (by rw [L2.wipe_length]; exact hl), if_pos hl]
      · rw [List.getElem?_eq_none (by rw [List.length_set, L2.wipe_length]; omega), if_neg hl]
    · rw [List.getElem?_set_ne e]
      exact ih ((List.mem_cons.mp hj).resolve_left fun z => e z.symm)
theorem wipe_wipe {is : List Nat} {s : List (Option V)} : L2.wipe (L2.wipe s is) is = L2.wipe s is := by
  apply List.ext_getElem?
  intro j
  by_cases hj : j ∈ is
  · rw [wipe_at hj, wipe_at hj, L2.wipe_length]
  · rw [L2.wipe_out hj]
end
end SLS

/-! ## S12 -/
set_option Elab.async false
set_option linter.all false
set_option autoImplicit false
set_option maxRecDepth 100000
/-! Soundness 12: comprehensions as expressions. -/
namespace SLS
open PySem PySem.Spec PyProof.Rows L2
open SL (D Slot PV Res Ag Tgt)
section
variable {E : XK} {cl : Nat → Value} {K : PySem.W.Frag}
/-- a clause's body: the tests, the element -/
def bodyR (rcs : List Slot → Res Bool) (re : List Slot → Res PV) : List Slot → List D → Res (List D) := fun ρ3 acc => (rcs ρ3).bind fun b ρ4 => if b then (SL.frzR (re ρ4)).bind fun d ρ5 => .ok (acc ++ [d]) ρ5 else .ok acc ρ4
def compR (own : List Nat) (t : Tgt) (rit : List Slot → Res (PV × List D)) (rcs : List Slot → Res Bool) (re : List Slot → Res PV) : List Slot → Res PV := fun ρ => (rit ρ).bind fun pi ρ1 => if pi.2.length ≤ SL.lim then (SL.block own pi.1 ρ1 fun o ρ2 =>
      SL.turns o own t (bodyR rcs re) pi.2 [] ρ2).bind fun acc ρ9 => .ok (.mu (.lst acc)) ρ9 else .stuck
theorem bodyR_ok {rcs : List Slot → Res Bool} {re : List Slot → Res PV} {ρ R : List Slot} {acc A : List D} (h : bodyR rcs re ρ acc = .ok A R) :
    ∃ b ρ4, rcs ρ = .ok b ρ4 ∧ ((b = true ∧ ∃ d, SL.frzR (re ρ4) = .ok d R ∧ A = acc ++ [d]) ∨ (b = false ∧ A = acc ∧ R = ρ4)) := by
  unfold bodyR at h
  cases q : rcs ρ with
  | stuck => rw [q] at h; cases h
  | exc k r => rw [q] at h; cases h
  | ok b ρ4 =>
    rw [q] at h
    refine ⟨b, ρ4, rfl, ?_⟩
    cases b with
    | false => cases h; exact .inr ⟨rfl, rfl, rfl⟩
    | true =>
      have h' : ((SL.frzR (re ρ4)).bind fun d ρ5 => Res.ok (acc ++ [d]) ρ5) = .ok A R := h
      cases q2 : SL.frzR (re ρ4) with
      | stuck => rw [q2] at h'; cases h'
      | exc k r => rw [q2] at h'; cases h'
      | ok d r => rw [q2] at h'; cases h'; exact .inl ⟨rfl, d, rfl, rfl⟩
theorem asIt_items {r : Res PV} {pi : PV × List D} {ρ : List Slot} (h : SL.asIt r = .ok pi ρ) : ∀ d, SL.peek ρ pi.1 = some d → SL.items d = some pi.2 := by
  intro d hd
  unfold SL.asIt at h
  cases r with
  | stuck => cases h
  | exc k r => cases h
  | ok p ρ1 =>
    have h' : (match SL.peek ρ1 p with | some d => (match SL.items d with | some ds => Res.ok (p, ds) ρ1 | none => .stuck) | none => .stuck) = .ok pi ρ := h
    cases q : SL.peek ρ1 p with
    | none => rw [q] at h'; cases h'
    | some d0 =>
      rw [q] at h'
      cases q2 : SL.items d0 with
      | none => simp only [q2] at h'; cases h'
      | some ds =>
        simp only [q2] at h'
        cases h'
        rw [q] at hd
        cases hd
        exact q2
/-- the turns of a list comprehension from the reading of its parts -/
theorem comp_rd {own : List Nat} {t : Tgt} {rit : List Slot → Res (PV × List D)} {rcs : List Slot → Res Bool} {re : List Slot → Res PV} {σ : L2.St} {H : Hp} {Q : VK} (hn : ∀ j ∈ tnames t, j ∈ own) (hri : ∀ ρ pi ρ', rit ρ = .ok pi ρ' → ∀ d, SL.peek ρ' pi.1 = some d → SL.items d = some pi.2)
    (h : RdE E cl K (compR own t rit rcs re) σ H Q) : tLc (RdI E cl K rit) (RdG K t) (RdB EF cl K rcs) (RdZ EF cl K fun ρ => SL.frzR (re ρ)) own σ H Q := by
  obtain ⟨C, F, ts, ρ, τ, a, o⟩ := h
  refine ⟨C, F, ts, ρ, τ, a, ?_⟩
  have o := o.bind
  cases q : rit ρ with
  | stuck => rw [q] at o; exact False.elim o
  | exc k r => rw [q] at o; exact o
  | ok pi ρ1 =>
    rw [q] at o
    intro J F1 H1 s1 a1 it D hD
    have o1 : Out E cl K C σ ts τ F (if pi.2.length ≤ SL.lim then (SL.block own pi.1 ρ1 fun o ρ2 => SL.turns o own t (bodyR rcs re) pi.2 [] ρ2).bind fun acc ρ9 => .ok (.mu (.lst acc)) ρ9 else .stuck) (fun p ρ' => ∀ v F' H', Same F F' → Post K C σ ts ρ' τ p v F' H' → Q v H') := o
    by_cases hl : pi.2.length ≤ SL.lim
    case neg => rw [if_neg hl] at o1; exact False.elim o1
    rw [if_pos hl] at o1
    obtain ⟨C', lo, ρ2, A, R, a2, et, stab, fin⟩ := block_rd a1 it (hri ρ pi ρ1 q) o1
    have lt := a1.lenT
    refine ⟨fun i m Hi => m = pi.2.length - i ∧ i ≤ pi.2.length ∧ ∃ Fi ρi acc, Same F1 Fi ∧ acc.length ≤ i ∧ At K C' Fi Hi (L2.wipe σ own) (ts ++ [some (.ref D)]) (SL.wipe ρi own) (τ ++ [.mu (.lst acc)]) ∧ SL.turns lo own t (bodyR rcs re) (pi.2.drop i) acc ρi = .ok A R,
      ⟨_, rfl, Nat.zero_le _, F1, ρ2, [], Same.refl F1, Nat.le_refl _, ?_, et⟩, ?_⟩
    · have w := (a2.wipe own).new (o := .lst []) (d := .lst []) hD ⟨_, rfl, .nil⟩
      exact w
    · rintro i m Hi ⟨rfl, hi, Fi, ρi, acc, si, hacc, ai, ei⟩
      by_cases hlt : i < pi.2.length
      · -- a turn
        right
        have hx : pi.2[i]? = some pi.2[i] := List.getElem?_eq_getElem hlt
        have ed : pi.2.drop i = pi.2[i] :: pi.2.drop (i + 1) := List.drop_eq_getElem_cons hlt
        rw [ed] at ei
        obtain ⟨g, ρ3, acc', ρ5, e1, e2, e3⟩ := turns_cons ei
        have wk := stab Fi Hi _ _ ρi si ai g
        obtain ⟨go, yl⟩ := wk.go i _ hx
        refine ⟨go, fun H' => i + 1 ≤ pi.2.length ∧ ∃ Fi ρi acc, Same F1 Fi ∧ acc.length ≤ i + 1 ∧ At K C' Fi H' (L2.wipe σ own) (ts ++ [some (.ref D)]) (SL.wipe ρi own) (τ ++ [.mu (.lst acc)]) ∧ SL.turns lo own t (bodyR rcs re) (pi.2.drop (i + 1)) acc ρi = .ok A R,
          fun H' hN => ⟨pi.2.length - (i + 1), by omega, rfl, hN.1, hN.2⟩, fun x H' y => ?_⟩
        obtain ⟨Fj, sj, po⟩ := (yl x H' y).post ai
        have rx : Rp K Fj x pi.2[i] := po.1
        have aj : At K C' Fj H' (L2.wipe σ own) (ts ++ [some (V.ref D)]) (SL.wipe ρi own) (τ ++ [Slot.mu (SL.D.lst acc)]) := po.2
        refine ⟨C', Fj, _, _, _, _, ρ3, aj, rx, e1, fun σ2 a3 on => ⟨?_, ?_⟩⟩
        · rw [wipe_only on hn]
          exact wipe_wipe
        obtain ⟨b, ρ4, eb, hb⟩ := bodyR_ok e2
        refine ⟨C', Fj, _, ρ3, _, a3, ?_⟩
        rw [eb]
        intro F4 H4 s4 a4
        have wip : L2.wipe σ2 own = L2.wipe σ own := by rw [wipe_only on hn]; exact wipe_wipe
        rcases hb with ⟨rfl, d, ef, rfl⟩ | ⟨rfl, rfl, rfl⟩
        · rw [if_pos rfl]
          refine ⟨C', F4, _, ρ4, _, a4, ?_⟩
          show Out EF cl K C' σ2 _ _ F4 (SL.frzR (re ρ4)) _
          rw [ef]
          intro v F5 H5 s5 a5 r5
          obtain ⟨p, ob, ep, _, _, h1, ws, rfl, rw'⟩ := a5.last lt
          cases ep
          refine ⟨ws, h1, ?_, ?_⟩
          · rw [rw'.length]
            have : SL.lim < sizeLine := by decide
            omega
          · refine ⟨hlt, F5, ρ5, acc ++ [d], si.trans (sj.trans (s4.trans s5)), by rw [List.length_append, List.length_singleton]; omega, ?_, e3⟩
            have z := (a5.setLast lt (o' := .lst (ws ++ [v])) (d' := .lst (acc ++ [d])) ⟨_, rfl, rw'.append (.cons r5 .nil)⟩).wipe own
            rw [wip] at z
            exact z
        · rw [if_neg Bool.false_ne_true]
          have z := a4.wipe own
          rw [wip] at z
          exact ⟨hlt, F4, _, _, si.trans (sj.trans s4), by omega, z, e3⟩
      · -- the end
        left
        have e : i = pi.2.length := by omega
        subst e
        rw [List.drop_length] at ei
        obtain ⟨g, rfl, rfl⟩ := turns_nil ei
        have wk := stab Fi Hi _ _ ρi si ai g
        refine ⟨wk.stop _ (Nat.le_refl _), ?_⟩
        obtain ⟨ρ9, a9, o9⟩ := fin Fi Hi _ _ si ai
        exact o9 (.ref D) Fi Hi (s1.trans si) a9
/-! ### two clauses -/
def bodyL (rcs : List Slot → Res Bool) (re : List Slot → Res PV) : List Slot → List D → Res (List D) := fun ρ7 acc => (rcs ρ7).bind fun b ρ8 => if b then (SL.frzR (re ρ8)).bind fun d ρ9 => if acc.length < SL.lim then .ok (acc ++ [d]) ρ9 else .stuck else .ok acc ρ8
def body2 (own2 : List Nat) (t2 : Tgt) (rcs : List Slot → Res Bool) (rit2 : List Slot → Res (PV × List D)) (rcs2 : List Slot → Res Bool) (re : List Slot → Res PV) : List Slot → List D → Res (List D) := fun ρ3 acc => (rcs ρ3).bind fun b ρ4 => if b then (rit2 ρ4).bind fun pj ρ5 =>
          SL.block own2 pj.1 ρ5 fun o2 ρ6 => SL.turns o2 own2 t2 (bodyL rcs2 re) pj.2 acc ρ6
        else .ok acc ρ4
def comp2R (own : List Nat) (t : Tgt) (rit : List Slot → Res (PV × List D)) (rcs : List Slot → Res Bool) (own2 : List Nat) (t2 : Tgt) (rit2 : List Slot → Res (PV × List D)) (rcs2 : List Slot → Res Bool) (re : List Slot → Res PV) : List Slot → Res PV := fun ρ => (rit ρ).bind fun pi ρ1 => if pi.2.length ≤ SL.lim then (SL.block own pi.1 ρ1 fun o ρ2 =>
      SL.turns o own t (body2 own2 t2 rcs rit2 rcs2 re) pi.2 [] ρ2).bind fun acc ρ9 => .ok (.mu (.lst acc)) ρ9 else .stuck
theorem bodyL_ok {rcs : List Slot → Res Bool} {re : List Slot → Res PV} {ρ R : List Slot} {acc A : List D} (h : bodyL rcs re ρ acc = .ok A R) :
    ∃ b ρ4, rcs ρ = .ok b ρ4 ∧ ((b = true ∧ ∃ d, SL.frzR (re ρ4) = .ok d R ∧ A = acc ++ [d] ∧ acc.length < SL.lim) ∨ (b = false ∧ A = acc ∧ R = ρ4)) := by
  unfold bodyL at h
  cases q : rcs ρ with
  | stuck => rw [q] at h; cases h
  | exc k r => rw [q] at h; cases h
  | ok b ρ4 =>
    rw [q] at h
    refine ⟨b, ρ4, rfl, ?_⟩
    cases b with
    | false => cases h; exact .inr ⟨rfl, rfl, rfl⟩
    | true =>
      have h' : ((SL.frzR (re ρ4)).bind fun d ρ5 => if acc.length < SL.lim then Res.ok (acc ++ [d]) ρ5 else .stuck) = .ok A R := h
      cases q2 : SL.frzR (re ρ4) with
      | stuck => rw [q2] at h'; cases h'
      | exc k r => rw [q2] at h'; cases h'
      | ok d r =>
        rw [q2] at h'
        have h' : (if acc.length < SL.lim then Res.ok (acc ++ [d]) r else .stuck) = .ok A R := h'
        by_cases hl : acc.length < SL.lim
        · rw [if_pos hl] at h'; cases h'; exact .inl ⟨rfl, d, rfl, rfl, hl⟩
        · rw [if_neg hl] at h'; cases h'
theorem body2_ok {own2 : List Nat} {t2 : Tgt} {rcs : List Slot → Res Bool} {rit2 : List Slot → Res (PV × List D)} {rcs2 : List Slot → Res Bool} {re : List Slot → Res PV} {ρ R : List Slot} {acc A : List D} (h : body2 own2 t2 rcs rit2 rcs2 re ρ acc = .ok A R) :
    ∃ b ρ4, rcs ρ = .ok b ρ4 ∧ ((b = true ∧ ∃ pj ρ5, rit2 ρ4 = .ok pj ρ5 ∧ (SL.block own2 pj.1 ρ5 fun o2 ρ6 => SL.turns o2 own2 t2 (bodyL rcs2 re) pj.2 acc ρ6) = .ok A R) ∨ (b = false ∧ A = acc ∧ R = ρ4)) := by
  unfold body2 at h
  cases q : rcs ρ with
  | stuck => rw [q] at h; cases h
  | exc k r => rw [q] at h; cases h
  | ok b ρ4 =>
    rw [q] at h
    refine ⟨b, ρ4, rfl, ?_⟩
    cases b with
    | false => cases h; exact .inr ⟨rfl, rfl, rfl⟩
    | true =>
      have h' : ((rit2 ρ4).bind fun pj ρ5 => SL.block own2 pj.1 ρ5 fun o2 ρ6 => SL.turns o2 own2 t2 (bodyL rcs2 re) pj.2 acc ρ6) = .ok A R := h
      cases q2 : rit2 ρ4 with
      | stuck => rw [q2] at h'; cases h'
      | exc k r => rw [q2] at h'; cases h'
      | ok pj r => rw [q2] at h'; exact .inl ⟨rfl, pj, r, rfl, h'⟩
theorem comp2_rd {own own2 : List Nat} {t t2 : Tgt} {rit rit2 : List Slot → Res (PV × List D)} {rcs rcs2 : List Slot → Res Bool} {re : List Slot → Res PV} {σ : L2.St} {H : Hp} {Q : VK} (hn : ∀ j ∈ tnames t, j ∈ own) (hn2 : ∀ j ∈ tnames t2, j ∈ own2) (h21 : ∀ j ∈ own2, j ∈ own)
    (hri : ∀ ρ pi ρ', rit ρ = .ok pi ρ' → ∀ d, SL.peek ρ' pi.1 = some d → SL.items d = some pi.2) (hri2 : ∀ ρ pi ρ', rit2 ρ = .ok pi ρ' → ∀ d, SL.peek ρ' pi.1 = some d → SL.items d = some pi.2)
    (h : RdE E cl K (comp2R own t rit rcs own2 t2 rit2 rcs2 re) σ H Q) : tLc2 (RdI E cl K rit) (RdG K t) (RdB EF cl K rcs) (RdI EF cl K rit2) (RdG K t2) (RdB EF cl K rcs2) (RdZ EF cl K fun ρ => SL.frzR (re ρ)) own own2 σ H Q := by
  obtain ⟨C, F, ts, ρ, τ, a, o⟩ := h
  refine ⟨C, F, ts, ρ, τ, a, ?_⟩
  have o := o.bind
  cases q : rit ρ with
  | stuck => rw [q] at o; exact False.elim o
  | exc k r => rw [q] at o; exact o
  | ok pi ρ1 =>
    rw [q] at o
    intro J F1 H1 s1 a1 it D hD
    have o1 : Out E cl K C σ ts τ F (if pi.2.length ≤ SL.lim then (SL.block own pi.1 ρ1 fun o ρ2 => SL.turns o own t (body2 own2 t2 rcs rit2 rcs2 re) pi.2 [] ρ2).bind fun acc ρ9 => .ok (.mu (.lst acc)) ρ9 else .stuck) (fun p ρ' => ∀ v F' H', Same F F' → Post K C σ ts ρ' τ p v F' H' → Q v H') := o
    by_cases hl : pi.2.length ≤ SL.lim
    case neg => rw [if_neg hl] at o1; exact False.elim o1
    rw [if_pos hl] at o1
    obtain ⟨C', lo, ρ2, A, R, a2, et, stab, fin⟩ := block_rd a1 it (hri ρ pi ρ1 q) o1
    have lt := a1.lenT
    refine ⟨fun i m Hi => m = pi.2.length - i ∧ i ≤ pi.2.length ∧ ∃ Fi ρi acc, Same F1 Fi ∧ At K C' Fi Hi (L2.wipe σ own) (ts ++ [some (.ref D)]) (SL.wipe ρi own) (τ ++ [.mu (.lst acc)]) ∧ SL.turns lo own t (body2 own2 t2 rcs rit2 rcs2 re) (pi.2.drop i) acc ρi = .ok A R,
      ⟨_, rfl, Nat.zero_le _, F1, ρ2, [], Same.refl F1, ?_, et⟩, ?_⟩
    · exact (a2.wipe own).new (o := .lst []) (d := .lst []) hD ⟨_, rfl, .nil⟩
    · rintro i m Hi ⟨rfl, hi, Fi, ρi, acc, si, ai, ei⟩
      by_cases hlt : i < pi.2.length
      · right
        have hx : pi.2[i]? = some pi.2[i] := List.getElem?_eq_getElem hlt
        have ed : pi.2.drop i = pi.2[i] :: pi.2.drop (i + 1) := List.drop_eq_getElem_cons hlt
        rw [ed] at ei
        obtain ⟨g, ρ3, acc', ρ5, e1, e2, e3⟩ := turns_cons ei
        have wk := stab Fi Hi _ _ ρi si ai g
        obtain ⟨go, yl⟩ := wk.go i _ hx
        refine ⟨go, fun H' => i + 1 ≤ pi.2.length ∧ ∃ Fi ρi acc, Same F1 Fi ∧ At K C' Fi H' (L2.wipe σ own) (ts ++ [some (.ref D)]) (SL.wipe ρi own) (τ ++ [.mu (.lst acc)]) ∧ SL.turns lo own t (body2 own2 t2 rcs rit2 rcs2 re) (pi.2.drop (i + 1)) acc ρi = .ok A R,
          fun H' hN => ⟨pi.2.length - (i + 1), by omega, rfl, hN.1, hN.2⟩, fun x H' y => ?_⟩
        obtain ⟨Fj, sj, po⟩ := (yl x H' y).post ai
        have rx : Rp K Fj x pi.2[i] := po.1
        have aj : At K C' Fj H' (L2.wipe σ own) (ts ++ [some (V.ref D)]) (SL.wipe ρi own) (τ ++ [Slot.mu (SL.D.lst acc)]) := po.2
        refine ⟨C', Fj, _, _, _, _, ρ3, aj, rx, e1, fun σ2 a3 on => ⟨by rw [wipe_only on hn]; exact wipe_wipe, ?_⟩⟩
        obtain ⟨b, ρ4, eb, hb⟩ := body2_ok e2
        refine ⟨C', Fj, _, ρ3, _, a3, ?_⟩
        rw [eb]
        intro F4 H4 s4 a4
        have wip : L2.wipe σ2 own = L2.wipe σ own := by rw [wipe_only on hn]; exact wipe_wipe
        rcases hb with ⟨rfl, pj, ρ6, ej, eblk⟩ | ⟨rfl, rfl, rfl⟩
        · rw [if_pos rfl]
          -- the inner clause
          refine ⟨C', F4, _, ρ4, _, a4, ?_⟩
          show Out EF cl K C' σ2 _ _ F4 (rit2 ρ4) _
          rw [ej]
          intro J1 F5 H5 s5 a5 it5
          have o5 : Out EF cl K C' σ2 (ts ++ [some (V.ref D)]) (τ ++ [Slot.mu (SL.D.lst acc)]) F5 ((SL.block own2 pj.1 ρ6 fun o2 ρ7 => SL.turns o2 own2 t2 (bodyL rcs2 re) pj.2 acc ρ7).bind fun A' ρ' => Res.ok A' ρ') (fun A' ρ' => A' = acc' ∧ ρ' = ρ5) := by
            rw [eblk]
            exact ⟨rfl, rfl⟩
          obtain ⟨C6, lo6, ρ7, A6, R6, a6, et6, stab6, fin6⟩ := block_rd a5 it5 (hri2 ρ4 pj ρ6 ej) o5
          refine ⟨fun j k Hj => k = pj.2.length - j ∧ j ≤ pj.2.length ∧ ∃ Fk ρk acc2, Same F5 Fk ∧ At K C6 Fk Hj (L2.wipe σ2 own2) (ts ++ [some (.ref D)]) (SL.wipe ρk own2) (τ ++ [.mu (.lst acc2)]) ∧ SL.turns lo6 own2 t2 (bodyL rcs2 re) (pj.2.drop j) acc2 ρk = .ok A6 R6,
            ⟨_, rfl, Nat.zero_le _, F5, ρ7, acc, Same.refl F5, a6.wipe own2, et6⟩, ?_⟩
          rintro j k Hj ⟨rfl, hj, Fk, ρk, acc2, sk, ak, ek⟩
          by_cases hjl : j < pj.2.length
          · right
            have hx2 : pj.2[j]? = some pj.2[j] := List.getElem?_eq_getElem hjl
            have ed2 : pj.2.drop j = pj.2[j] :: pj.2.drop (j + 1) := List.drop_eq_getElem_cons hjl
            rw [ed2] at ek
            obtain ⟨g2, ρ8, acc3, ρ9, f1, f2, f3⟩ := turns_cons ek
            have wk2 := stab6 Fk Hj _ _ ρk sk ak g2
            obtain ⟨go2, yl2⟩ := wk2.go j _ hx2
            refine ⟨go2, fun H' => j + 1 ≤ pj.2.length ∧ ∃ Fk ρk acc2, Same F5 Fk ∧ At K C6 Fk H' (L2.wipe σ2 own2) (ts ++ [some (.ref D)]) (SL.wipe ρk own2) (τ ++ [.mu (.lst acc2)]) ∧ SL.turns lo6 own2 t2 (bodyL rcs2 re) (pj.2.drop (j + 1)) acc2 ρk = .ok A6 R6,
              fun H' hN => ⟨pj.2.length - (j + 1), by omega, rfl, hN.1, hN.2⟩, fun x2 H2' y2 => ?_⟩
            obtain ⟨Fm, sm, po2⟩ := (yl2 x2 H2' y2).post ak
            have rx2 : Rp K Fm x2 pj.2[j] := po2.1
            have am : At K C6 Fm H2' (L2.wipe σ2 own2) (ts ++ [some (V.ref D)]) (SL.wipe ρk own2) (τ ++ [Slot.mu (SL.D.lst acc2)]) := po2.2
            refine ⟨C6, Fm, _, _, _, _, ρ8, am, rx2, f1, fun σ3 a8 on2 => ⟨by rw [wipe_only on2 hn2]; exact wipe_wipe, ?_⟩⟩
            obtain ⟨b2, ρ10, eb2, hb2⟩ := bodyL_ok f2
            refine ⟨C6, Fm, _, ρ8, _, a8, ?_⟩
            rw [eb2]
            intro F9 H9 s9 a9
            have wip2 : L2.wipe σ3 own2 = L2.wipe σ2 own2 := by rw [wipe_only on2 hn2]; exact wipe_wipe
            rcases hb2 with ⟨rfl, d, ef, rfl, hlen⟩ | ⟨rfl, rfl, rfl⟩
            · rw [if_pos rfl]
              refine ⟨C6, F9, _, ρ10, _, a9, ?_⟩
              show Out EF cl K C6 σ3 _ _ F9 (SL.frzR (re ρ10)) _
              rw [ef]
              intro v F10 H10 s10 a10 r10
              obtain ⟨p, ob, ep, _, _, h1, ws, rfl, rw'⟩ := a10.last lt
              cases ep
              refine ⟨ws, h1, ?_, ?_⟩
              · rw [rw'.length]
                have : SL.lim < sizeLine := by decide
                omega
              · refine ⟨hjl, F10, ρ9, acc2 ++ [d], sk.trans (sm.trans (s9.trans s10)), ?_, f3⟩
                have z := (a10.setLast lt (o' := .lst (ws ++ [v])) (d' := .lst (acc2 ++ [d])) ⟨_, rfl, rw'.append (.cons r10 .nil)⟩).wipe own2
                rw [wip2] at z
                exact z
            · rw [if_neg Bool.false_ne_true]
              have z := a9.wipe own2
              rw [wip2] at z
              exact ⟨hjl, F9, _, _, sk.trans (sm.trans s9), z, f3⟩
          · left
            have e : j = pj.2.length := by omega
            subst e
            rw [List.drop_length] at ek
            obtain ⟨g2, rfl, rfl⟩ := turns_nil ek
            have wk2 := stab6 Fk Hj _ _ ρk sk ak g2
            refine ⟨wk2.stop _ (Nat.le_refl _), ?_⟩
            obtain ⟨ρ9, a9, e9, rfl⟩ := fin6 Fk Hj _ _ sk ak
            refine ⟨hlt, Fk, ρ9, acc2, si.trans (sj.trans (s4.trans (s5.trans sk))), ?_, by rw [e9]; exact e3⟩
            have z := a9.wipe own
            rw [wip] at z
            exact z
        · rw [if_neg Bool.false_ne_true]
          have z := a4.wipe own
          rw [wip] at z
          exact ⟨hlt, F4, _, _, si.trans (sj.trans s4), z, e3⟩
      · left
        have e : i = pi.2.length := by omega
        subst e
        rw [List.drop_length] at ei
        obtain ⟨g, rfl, rfl⟩ := turns_nil ei
        have wk := stab Fi Hi _ _ ρi si ai g
        refine ⟨wk.stop _ (Nat.le_refl _), ?_⟩
        obtain ⟨ρ9, a9, o9⟩ := fin Fi Hi _ _ si ai
        exact o9 (.ref D) Fi Hi (s1.trans si) a9
end
end SLS

/-! ## S13 -/
set_option Elab.async false
set_option linter.all false
set_option autoImplicit false
set_option maxRecDepth 100000
/-! Soundness 13: statements. -/
namespace SLS
open PySem PySem.Spec PyProof.Rows L2
open SL (D Slot PV Res Ag Tgt)
/-- the outcome of a step that may store -/
def OutS {α : Type} (E : XK) (cl : Nat → Value) (K : PySem.W.Frag) (C : Cfg) (F : Hp) (r : Res α) (ok : α → List Slot → Prop) : Prop :=
  match r with
  | .ok a ρ => ok a ρ
  | .exc k ρ => ∀ σ' F' H', Same F F' → Fs K C F' H' σ' ρ → E (cl k) none H'
  | .stuck => False
/-- lent things stay where they are -/
def Keep (ρ ρ' : List Slot) : Prop := ρ'.length = ρ.length ∧ ∀ (i : Nat) (d : D), ρ[i]? = some (.br d) → ρ'[i]? = some (.br d)
/-- what is returned -/
def RetP (K : PySem.W.Frag) (C : Cfg) (F H : Hp) (ρ : List Slot) (p : PV) (v : V) : Prop := ∃ σ' ρ', Keep ρ ρ' ∧ match p with
  | .sh d => Fs K C F H σ' ρ' ∧ Rp K F v d
  | .mu d => σ'.length = ρ'.length ∧ Fs K C F H (σ' ++ [some v]) (ρ' ++ [.mu d])
  | .slot _ => False
def Fin (K : PySem.W.Frag) (C : Cfg) (D : Ends) (F : Hp) : SL.Flow → List Slot → Prop
  | .nx, ρ => ∀ σ' F' H', Same F F' → Fs K C F' H' σ' ρ → D.nx σ' H'
  | .ret p, ρ => ∀ v F' H', Same F F' → RetP K C F' H' ρ p v → D.rt v H'
def RdS (E : XK) (cl : Nat → Value) (K : PySem.W.Frag) (r : List Slot → Res SL.Flow) : TS := fun D σ H => ∃ C F ρ, Fs K C F H σ ρ ∧ OutS E cl K C F (r ρ) (Fin K C D F)
section
variable {α β : Type} {E : XK} {cl : Nat → Value} {K : PySem.W.Frag} {C : Cfg} {F F' H H' : Hp} {σ σ' ts : List (Option V)} {ρ ρ' τ : List Slot} {D : Ends}
theorem Fin.mono {f : SL.Flow} (s : Same F F') (h : Fin K C D F f ρ) : Fin K C D F' f ρ := by
  cases f with
  | nx => exact fun σ' F2 H2 s2 a => h σ' F2 H2 (s.trans s2) a
  | ret p => exact fun v F2 H2 s2 a => h v F2 H2 (s.trans s2) a
theorem OutS.imp {r : Res α} {ok ok' : α → List Slot → Prop} (h : OutS E cl K C F r ok) (f : ∀ a ρ, ok a ρ → ok' a ρ) : OutS E cl K C F r ok' := by
  cases r with
  | ok a ρ => exact f a ρ h
  | exc k ρ => exact h
  | stuck => exact h
theorem OutS.mono {r : Res α} {ok : α → List Slot → Prop} (h : OutS E cl K C F r ok) (s : Same F F') : OutS E cl K C F' r ok := by
  cases r with
  | ok a ρ => exact h
  | exc k ρ => exact fun σ' F1 H1 s1 a => h σ' F1 H1 (s.trans s1) a
  | stuck => exact h
theorem OutS.bind {r : Res α} {f : α → List Slot → Res β} {ok : β → List Slot → Prop} (h : OutS E cl K C F (r.bind f) ok) : OutS E cl K C F r (fun a ρ => OutS E cl K C F (f a ρ) ok) := by
  cases r with
  | ok a ρ => exact h
  | exc k ρ => exact h
  | stuck => exact h
theorem OutS.bindI {r : Res α} {f : α → List Slot → Res β} {ok : β → List Slot → Prop} (h : OutS E cl K C F r (fun a ρ => OutS E cl K C F (f a ρ) ok)) : OutS E cl K C F (r.bind f) ok := by
  cases r with
  | ok a ρ => exact h
  | exc k ρ => exact h
  | stuck => exact h
/-- a step's expression -/
theorem OutS.out {r : Res α} {ok : α → List Slot → Prop} (h : OutS E cl K C F r ok) : Out E cl K C σ [] [] F r ok := by
  cases r with
  | ok a ρ => exact h
  | exc k ρ => exact fun F1 H1 s1 a => h σ F1 H1 s1 a.fs0
  | stuck => exact h
/-- the inner step's wish as the outer's -/
theorem OutS.fin {r : Res SL.Flow} {D' : Ends} (h : OutS E cl K C F r (Fin K C D F)) (k : ∀ f ρ, Fin K C D F f ρ → Fin K C D' F f ρ) : OutS E cl K C F r (Fin K C D' F) := h.imp k

variable {X : Cx} {e e1 e2 tg : Expr} {es : List Expr} {pos : Pos} {r r1 r2 : List Slot → Res PV}
/-! ### names stored -/
theorem At.store_mu {i : Nat} {v : V} {d : SL.D} (a : At K C F H σ [some v] ρ [.mu d]) (hi : i < ρ.length) : Fs K C F H (σ.set i (some v)) (ρ.set i (.mu d)) := by
  have f := a.fs
  have hl := a.len
  have g := f.move (i := i) (k := ρ.length) (v := v) (d := d) (by omega) (by rw [List.length_append]; omega) (by simp) (by rw [← hl]; simp)
  rw [List.set_append_left _ _ (by rw [hl]; exact hi), List.set_append_left _ _ hi] at g
  have e : (ρ.set i (Slot.mu d) ++ [Slot.mu d]).set ρ.length .no = ρ.set i (.mu d) ++ [.no] := by
    rw [List.set_append_right _ _ (by rw [List.length_set]; exact Nat.le_refl _), List.length_set]; simp
  rw [e] at g
  exact g.drop (by rw [List.length_set, List.length_set]; exact hl)
theorem Fs.putSh' {i : Nat} {v : V} {d : SL.D} (s : Fs K C F H σ ρ) (r : Rp K F v d) : Fs K C F H (σ.set i (some v)) (ρ.set i (.sh d)) := s.putSh r
theorem put_ok {i : Nat} {s : Slot} (h : SL.put ρ i s = some ρ') : i < ρ.length ∧ ρ' = ρ.set i s := by
  unfold SL.put at h
  by_cases hf : SL.free ρ i = true
  · rw [if_pos hf] at h; cases h; exact ⟨free_lt hf, rfl⟩
  · rw [if_neg hf] at h; cases h
theorem frz_len {p : PV} {d : SL.D} (h : SL.frz ρ p = some (d, ρ')) : ρ'.length = ρ.length := by
  cases p with
  | slot i =>
    have e : (match SL.look ρ i with | .sh d => some (d, ρ) | .mu d => some (d, ρ.set i (.sh d)) | _ => none) = some (d, ρ') := h
    cases q : SL.look ρ i <;> rw [q] at e <;> cases e
    · rfl
    · rw [List.length_set]
  | sh d' => cases h; rfl
  | mu d' => cases h; rfl
/-- a value stored under a name -/
theorem store_rd {i : Nat} {p : PV} {v : V} (po : Post K C σ [] ρ [] p v F H) {ok : Unit → List Slot → Prop} (o : OutS E cl K C F (SL.store ρ i p) ok) : ∃ F2 ρ2, Same F F2 ∧ Fs K C F2 H (σ.set i (some v)) ρ2 ∧ ok () ρ2 := by
  have fr : (∀ d, p ≠ .mu d) → OutS E cl K C F (match SL.frz ρ p with | some (d, ρ') => SL.liftE (SL.put ρ' i (.sh d)) | none => .stuck) ok → ∃ F2 ρ2, Same F F2 ∧ Fs K C F2 H (σ.set i (some v)) ρ2 ∧ ok () ρ2 := fun hp o => by
    obtain ⟨F2, s2, a2, w2⟩ := po.opd
    cases q : SL.frz ρ p with
    | none => rw [q] at o; exact False.elim o
    | some z =>
      obtain ⟨d, ρ1⟩ := z
      rw [q] at o
      obtain ⟨F3, s3, a3, r3⟩ := w2.frz a2 q
      have o' : OutS E cl K C F (SL.liftE (SL.put ρ1 i (.sh d))) ok := o
      cases q2 : SL.put ρ1 i (.sh d) with
      | none => rw [q2] at o'; exact False.elim o'
      | some ρ2 =>
        rw [q2] at o'
        obtain ⟨hi, rfl⟩ := put_ok q2
        exact ⟨F3, _, s2.trans s3, a3.fs0.putSh r3, o'⟩
  cases p with
  | slot j => exact fr (fun d e => nomatch e) o
  | sh d => exact fr (fun d e => nomatch e) o
  | mu d =>
    have o' : OutS E cl K C F (SL.liftE (SL.put ρ i (.mu d))) ok := o
    cases q2 : SL.put ρ i (.mu d) with
    | none => rw [q2] at o'; exact False.elim o'
    | some ρ2 =>
      rw [q2] at o'
      obtain ⟨hi, rfl⟩ := put_ok q2
      have po' : At K C F H σ [some v] ρ [.mu d] := po
      exact ⟨F, _, Same.refl F, po'.store_mu hi, o'⟩
theorem asg_rd {i : Nat} {D : Ends} (h : RdS E cl K (fun ρ => (r ρ).bind fun p ρ1 => (SL.store ρ1 i p).bind fun _ ρ2 => .ok .nx ρ2) D σ H) : tAsg (RdE E cl K r) (gName i) D σ H := by
  obtain ⟨C, F, ρ, a, o⟩ := h
  refine ⟨C, F, [], ρ, [], At.bare a, o.bind.out.imp fun p ρ1 o1 v F1 H1 s1 p1 => ?_⟩
  obtain ⟨F2, ρ2, s2, f2, k⟩ := store_rd p1 (o1.mono s1).bind
  exact k _ F2 H1 (s1.trans s2) f2
theorem s_asg {i : Nat} {x : Str} {pos' : Pos} (hN : X.N.Nodup) (hi : X.N[i]? = some x) (hx : Loc X.env.scope x) (he : PE X e (RdE E cl X.K r)) (hs : swapsWith e (some (.Name x pos')) pos.line X.env = pure false) (hf : X.fn x = true ∨ X.env.scope.names.lookup x = some .local) :
    PS X (.Assign [.Name x pos'] e pos) (RdS E cl X.K fun ρ => (r ρ).bind fun p ρ1 => (SL.store ρ1 i p).bind fun _ ρ2 => .ok .nx ρ2) :=
  PS.weak (ps_set hN hi hx he hs hf) fun D σ H h => asg_rd h
/-- a target -/
theorem s_unp {t : Tgt} (he : PE X e (RdE E cl X.K r)) (hg : PG X tg (RdG X.K t)) (hs : swapsWithSole [tg] e pos.line X.env = pure false) (hw : swappedStores [tg] e X.env = pure none)
    (h1 : (assignEach [tg] X.env).map (·.2) = [assign tg X.env]) : PS X (.Assign [tg] e pos) (RdS E cl X.K fun ρ => (r ρ).bind fun p ρ1 => match SL.frz ρ1 p with
      | some (d, ρ2) => (match SL.setT ρ2 t d with
        | some ρ3 => .ok .nx ρ3
        | none => .stuck)
      | none => .stuck) := by
  refine PS.weak (ps_asg he hg hs hw h1) fun D σ H ⟨C, F, ρ, a, o⟩ => ⟨C, F, [], ρ, [], At.bare a, o.bind.out.imp fun p ρ1 o1 v F1 H1 s1 p1 => ?_⟩
  obtain ⟨F2, s2, a2, w2⟩ := p1.opd
  cases q : SL.frz ρ1 p with
  | none => simp only [q] at o1; exact False.elim o1
  | some z =>
    obtain ⟨d, ρ2⟩ := z
    simp only [q] at o1
    obtain ⟨F3, s3, a3, r3⟩ := w2.frz a2 q
    cases q2 : SL.setT ρ2 t d with
    | none => simp only [q2] at o1; exact False.elim o1
    | some ρ3 =>
      simp only [q2] at o1
      exact ⟨C, F3, [], ρ2, [], d, ρ3, a3, r3, q2, fun σ' a' _ => o1 σ' F3 H1 (s1.trans (s2.trans s3)) a'.fs0⟩
/-! ### sequences, choices -/
theorem ss_nil : PSs X [] (RdS E cl X.K fun ρ => .ok .nx ρ) := PSs.weak pss_nil fun D σ H ⟨C, F, ρ, a, o⟩ => o σ F H (Same.refl F) a
theorem ss_cons {st : Stmt} {rest : List Stmt} {rs rt : List Slot → Res SL.Flow} (h1 : PS X st (RdS E cl X.K rs)) (h2 : PSs X rest (RdS E cl X.K rt)) : PSs X (st :: rest) (RdS E cl X.K fun ρ => (rs ρ).bind fun f ρ1 => match f with
    | .nx => rt ρ1
    | .ret r => .ok (.ret r) ρ1) := by
  refine PSs.weak (pss_cons h1 h2) fun D σ H ⟨C, F, ρ, a, o⟩ => ⟨C, F, ρ, a, o.bind.imp fun f ρ1 o1 => ?_⟩
  cases f with
  | nx => exact fun σ' F1 H1 s1 a1 => ⟨C, F1, ρ1, a1, (o1.mono s1).imp fun f ρ2 o2 => o2.mono s1⟩
  | ret p => exact o1
theorem s_ex (he : PE X e (RdE E cl X.K r)) (hs : swapsWith e none pos.line X.env = pure false) : PS X (.Expr e pos) (RdS E cl X.K fun ρ => (r ρ).bind fun _ ρ1 => .ok .nx ρ1) := by
  refine PS.weak (ps_expr he hs) fun D σ H ⟨C, F, ρ, a, o⟩ => ⟨C, F, [], ρ, [], At.bare a, o.bind.out.imp fun p ρ1 o1 v F1 H1 s1 p1 => ?_⟩
  obtain ⟨F2, s2, a2, w2⟩ := p1.opd
  exact o1 σ F2 H1 (s1.trans s2) a2.fs0
theorem s_ite {c : Expr} {ta tb : List Stmt} {ra rb : List Slot → Res SL.Flow} (hc : PT X c (RdT E cl X.K r)) (ha : PSs X ta (RdS E cl X.K ra)) (hb : PSs X tb (RdS E cl X.K rb)) : PS X (.If c ta tb pos) (RdS E cl X.K fun ρ => (SL.asB (r ρ)).bind fun b ρ1 => if b then ra ρ1 else rb ρ1) := by
  refine PS.weak (ps_if hc ha hb) fun D σ H ⟨C, F, ρ, a, o⟩ => ⟨C, F, [], ρ, [], At.bare a, o.bind.out.imp fun b ρ1 o1 F1 H1 s1 a1 => ?_⟩
  cases b with
  | true => rw [if_pos rfl]; exact ⟨C, F1, ρ1, a1.fs0, (o1.mono s1).imp fun f ρ2 o2 => o2.mono s1⟩
  | false => rw [if_neg Bool.false_ne_true]; exact ⟨C, F1, ρ1, a1.fs0, (o1.mono s1).imp fun f ρ2 o2 => o2.mono s1⟩
theorem s_pass : PS X (.Pass pos) (RdS E cl X.K fun ρ => .ok .nx ρ) := PS.weak ps_pass fun D σ H ⟨C, F, ρ, a, o⟩ => o σ F H (Same.refl F) a
theorem Keep.refl : Keep ρ ρ := ⟨rfl, fun _ _ h => h⟩
theorem s_ret (he : PE X e (RdE E cl X.K r)) : PS X (.Return (some e) pos) (RdS E cl X.K fun ρ => (r ρ).bind fun p ρ1 => match p with
    | .slot i => (match SL.look ρ1 i with
      | .sh d => .ok (.ret (.sh d)) ρ1
      | .mu d => .ok (.ret (.mu d)) ρ1
      | _ => .stuck)
    | p => .ok (.ret p) ρ1) := by
  refine PS.weak (ps_ret he) fun D σ H ⟨C, F, ρ, a, o⟩ => ⟨C, F, [], ρ, [], At.bare a, o.bind.out.imp fun p ρ1 o1 v F1 H1 s1 p1 => ?_⟩
  cases p with
  | sh d => exact o1 v F1 H1 s1 ⟨σ, ρ1, .refl, p1.2.fs0, p1.1⟩
  | mu d =>
    have p2 : At X.K C F1 H1 σ [some v] ρ1 [.mu d] := p1
    exact o1 v F1 H1 s1 ⟨σ, ρ1, .refl, p2.len, p2.fs⟩
  | slot i =>
    obtain ⟨ev, a1⟩ := p1
    have f1 := a1.fs0
    cases q : SL.look ρ1 i with
    | no => simp only [q] at o1; exact False.elim o1
    | br d => simp only [q] at o1; exact False.elim o1
    | lk d => simp only [q] at o1; exact False.elim o1
    | sh d =>
      simp only [q] at o1
      obtain ⟨x, ex, rx⟩ := f1.slot i _ (look_own q (fun z => nomatch z))
      rw [ev] at ex
      cases ex
      exact o1 v F1 H1 s1 ⟨σ, ρ1, .refl, f1, rx⟩
    | mu d =>
      simp only [q] at o1
      have g := look_own q (fun z => nomatch z)
      obtain ⟨p, ob, d', e1, f, b, h1, r1, k⟩ := (f1.slot i _ g).own_of trivial
      rw [ev] at e1
      cases e1
      have ed : d' = d := by rcases k with k | ⟨k, _⟩ | ⟨k, _⟩ <;> cases k <;> rfl
      subst ed
      have hg : Fs X.K C F1 H1 (σ.set i (σ.getD i none)) (ρ1.set i .no) := f1.forget
      refine o1 _ F1 H1 s1 ⟨σ.set i (σ.getD i none), ρ1.set i .no, ⟨by rw [List.length_set], fun j e hj => ?_⟩, by rw [List.length_set, List.length_set]; exact f1.len, hg.addOwn (fun j t e ow => ?_) f b h1 r1⟩
      · by_cases hij : j = i
        · subst hij; rw [g] at hj; cases hj
        · rw [List.getElem?_set_ne (fun z => hij z.symm)]; exact hj
      · intro hv
        rcases getElem?_set_cases e with ⟨h, h', _⟩ | ⟨h, h'⟩
        · subst h'; exact ow
        · rw [List.getElem?_set_ne (fun z => h z.symm)] at hv
          exact h (f1.inj j i t _ p h' g ow trivial hv ev)
end
end SLS

/-! ## S14 -/
set_option Elab.async false
set_option linter.all false
set_option autoImplicit false
set_option maxRecDepth 100000
/-! Soundness 14: loops, exceptions, stores. -/
namespace SLS
open PySem PySem.Spec PyProof.Rows L2
open SL (D Slot PV Res Ag Tgt)
section
variable {X : Cx} {E : XK} {cl : Nat → Value} {e e1 e2 tg : Expr} {es : List Expr} {pos : Pos} {r r1 r2 : List Slot → Res PV} {body : List Stmt} {rb : List Slot → Res SL.Flow}
theorem s_while {c : Expr} (hp : PassesOwn (model X.prog X.w) X.A X.env X.xe) (hc : PT X c (RdT E cl X.K r)) (hb : PSs X body (RdS E cl X.K rb)) (N : Nat) :
    PS X (.While c body [] pos) (RdS E cl X.K fun ρ => SL.whileD (fun ρ' => SL.asB (r ρ')) rb N ρ) := by
  refine PS.weak (ps_while hp hc hb) fun D σ H ⟨C, F, ρ, a, o⟩ => ?_
  refine ⟨fun m σ' H' => ∃ F' ρ', Same F F' ∧ Fs X.K C F' H' σ' ρ' ∧ OutS E cl X.K C F' (SL.whileD (fun ρ' => SL.asB (r ρ')) rb m ρ') (Fin X.K C D F'), ⟨N, F, ρ, Same.refl F, a, o⟩, ?_⟩
  rintro m σ' H' ⟨F1, ρ1, s1, a1, o1⟩
  cases m with
  | zero => exact False.elim o1
  | succ m =>
    have o2 : OutS E cl X.K C F1 ((SL.asB (r ρ1)).bind fun t ρ1 => if t = true then (rb ρ1).bind fun f ρ2 => (match f with
      | .nx => SL.whileD (fun ρ' => SL.asB (r ρ')) rb m ρ2
      | .ret r => .ok (.ret r) ρ2) else .ok .nx ρ1) (Fin X.K C D F1) := o1
    refine ⟨C, F1, [], ρ1, [], At.bare a1, o2.bind.out.imp fun b ρ2 o3 F2 H2 s2 a2 => ?_⟩
    cases b with
    | false => rw [if_neg Bool.false_ne_true]; exact o3 σ' F2 H2 s2 a2.fs0
    | true =>
      rw [if_pos rfl]
      rw [if_pos rfl] at o3
      refine ⟨fun σ'' H'' => ∃ F' ρ', Same F F' ∧ Fs X.K C F' H'' σ'' ρ' ∧ OutS E cl X.K C F' (SL.whileD (fun ρ' => SL.asB (r ρ')) rb m ρ') (Fin X.K C D F'), fun σ'' H'' n => ⟨m, Nat.lt_succ_self m, n⟩, C, F2, ρ2, a2.fs0, ?_⟩
      refine (o3.mono s2).bind.imp fun f ρ3 o4 => ?_
      cases f with
      | nx => exact fun σ3 F3 H3 s3 a3 => ⟨F3, ρ3, s1.trans (s2.trans s3), a3, (o4.mono s3).imp fun f ρ4 z => z.mono (s2.trans s3)⟩
      | ret p => exact Fin.mono s2 o4
/-- for, over things that are changed no more -/
theorem s_for {t : Tgt} {iter : Expr} {rit : List Slot → Res (PV × List SL.D)} (hp : PassesOwn (model X.prog X.w) X.A X.env X.xe) (hc : X.calm = true) (hi : PI X tg iter (RdI E cl X.K rit)) (hg : PG X tg (RdG X.K t)) (hb : PSs X body (RdS E cl X.K rb))
    (hs : ∀ x, foldedSetIterable iter X.env x = pure x) : PS X (.For tg iter body [] pos) (RdS E cl X.K fun ρ => (rit ρ).bind fun pi ρ1 => match SL.frz ρ1 pi.1 with
      | some (_, ρ2) => SL.forD t rb pi.2 ρ2
      | none => .stuck) := by
  refine PS.weak (ps_for hp hc hi hg hb hs) fun D σ H ⟨C, F, ρ, a, o⟩ => ⟨C, F, [], ρ, [], At.bare a, o.bind.out.imp fun pi ρ1 o1 J F1 H1 s1 a1 it => ?_⟩
  cases q : SL.frz ρ1 pi.1 with
  | none => simp only [q] at o1; exact False.elim o1
  | some z =>
    obtain ⟨d, ρ2⟩ := z
    simp only [q] at o1
    -- the walked thing is shared from now on
    obtain ⟨F2, s2, a2, stab⟩ : ∃ F2, Same F1 F2 ∧ At X.K C F2 H1 σ [] ρ2 [] ∧ ∀ F3 H3, Same F2 F3 → Same F3 H3 → Wk X.K J F3 H3 pi.2 := by
      obtain ⟨p, ds⟩ := pi
      cases p with
      | sh d0 => cases q; exact ⟨F1, Same.refl F1, a1, fun F3 H3 s3 sub => it F3 H3 s3 sub fun i e => nomatch e⟩
      | mu d0 => cases q; exact ⟨F1, Same.refl F1, a1, fun F3 H3 s3 sub => it F3 H3 s3 sub fun i e => nomatch e⟩
      | slot i =>
        have pk : SL.peek ρ1 (.slot i) = some d := by
          have e : (match SL.look ρ1 i with | .sh d => some (d, ρ1) | .mu d => some (d, ρ1.set i (.sh d)) | _ => none) = some (d, ρ2) := q
          show SL.cont (SL.look ρ1 i) = some d
          cases q2 : SL.look ρ1 i <;> rw [q2] at e <;> cases e <;> rfl
        have hi := look_lt (ρ := ρ1) (i := i) (d := d) pk
        obtain ⟨x0, _, ex, _⟩ := a1.fs0.val (i := i) pk
        obtain ⟨F2, s2, a2, r2⟩ := Opd.frz (p := .slot i) (v := x0) ex a1 q
        exact ⟨F2, s2, a2, fun F3 H3 s3 sub => it F3 H3 (s2.trans s3) sub fun j e => by cases e; exact ⟨x0, d, ex, Rp.cn sub (r2.mono s3), pk⟩⟩
    refine ⟨fun i m σ' H' => m = pi.2.length - i ∧ i ≤ pi.2.length ∧ ∃ F' ρ', Same F2 F' ∧ Fs X.K C F' H' σ' ρ' ∧ OutS E cl X.K C F' (SL.forD t rb (pi.2.drop i) ρ') (Fin X.K C D F'), ⟨_, rfl, Nat.zero_le _, F2, ρ2, Same.refl F2, a2.fs0, ?_⟩, ?_⟩
    · exact ((o1.mono (s1.trans s2))).imp fun f ρ3 z => z.mono (s1.trans s2)
    · rintro i m σ' H' ⟨rfl, hi, F3, ρ3, s3, a3, o3⟩
      have wk := stab F3 H' s3 a3.sub
      by_cases hlt : i < pi.2.length
      · right
        have hx : pi.2[i]? = some pi.2[i] := List.getElem?_eq_getElem hlt
        have ed : pi.2.drop i = pi.2[i] :: pi.2.drop (i + 1) := List.drop_eq_getElem_cons hlt
        rw [ed] at o3
        have o4 : OutS E cl X.K C F3 (match SL.setT ρ3 t pi.2[i] with
          | none => .stuck
          | some ρ1 => (rb ρ1).bind fun f ρ2 => (match f with
            | .nx => SL.forD t rb (pi.2.drop (i + 1)) ρ2
            | .ret r => .ok (.ret r) ρ2)) (Fin X.K C D F3) := o3
        obtain ⟨go, yl⟩ := wk.go i _ hx
        refine ⟨go, fun σ'' H'' => i + 1 ≤ pi.2.length ∧ ∃ F' ρ', Same F2 F' ∧ Fs X.K C F' H'' σ'' ρ' ∧ OutS E cl X.K C F' (SL.forD t rb (pi.2.drop (i + 1)) ρ') (Fin X.K C D F'), fun σ'' H'' n => ⟨_, by omega, rfl, n.1, n.2⟩, fun x H'' y => ?_⟩
        obtain ⟨F4, s4, po⟩ := (yl x H'' y).post (At.bare a3)
        have rx : Rp X.K F4 x pi.2[i] := po.1
        have a4 : At X.K C F4 H'' σ' [] ρ3 [] := po.2
        cases q2 : SL.setT ρ3 t pi.2[i] with
        | none => rw [q2] at o4; exact False.elim o4
        | some ρ4 =>
          rw [q2] at o4
          refine ⟨C, F4, [], ρ3, [], _, ρ4, a4, rx, q2, fun σ5 a5 _ => ⟨C, F4, ρ4, a5.fs0, ?_⟩⟩
          refine (OutS.mono o4 s4).bind.imp fun f ρ5 o5 => ?_
          cases f with
          | nx => exact fun σ6 F6 H6 s6 a6 => ⟨hlt, F6, ρ5, s3.trans (s4.trans s6), a6, (o5.mono s6).imp fun f ρ6 z => z.mono (s4.trans s6)⟩
          | ret p => exact Fin.mono s4 o5
      · left
        have ei : i = pi.2.length := by omega
        subst ei
        rw [List.drop_length] at o3
        exact ⟨wk.stop _ (Nat.le_refl _), o3 σ' F3 H' (Same.refl F3) a3⟩
/-- an exception's class -/
structure ExcX (X : Cx) (cl : Nat → Value) (k : Nat) (x : Str) : Prop where
  ex : ∃ C, cl k = .ref C ∧ PySem.W.excIn X.K C [.type "ValueError", .type "Exception", .type "BaseException", .type "object"] "ValueError.__new__" = true ∧ X.mg x = some (.ref C) ∧ PySem.W.keepIn X.K (.ref C) = true ∧ Raises X (.ref C)
theorem s_raise {k j : Nat} {x m : Str} {p p2 pos' : Pos} (hc : X.calm = true) (tk : Takes X (fun cls d _ H => E cls d H)) (hx : ExcX X cl k x) (hg : Gl X x) (hdb : (x == ("__debug__" : Str)) = false) :
    PS X (.Raise (some (.Call (.Name x p) [.Constant (.str m) j p2] [] pos)) none pos') (RdS E cl X.K fun ρ => .exc k ρ) := by
  obtain ⟨C, ec, q, gC, kC, rr⟩ := hx.ex
  refine PS.weak (ps_raise hc tk (pmk_own PySem.F.excBase_ValueError q gC kC rr hg hdb)) fun D σ H ⟨Cf, F, ρ, a, o⟩ => ?_
  have := o σ F H (Same.refl F) a
  rw [ec] at this
  exact this
/-! ### x op= e -/
theorem aug_get {ρ : List Slot} {σ : List (Option V)} {K : PySem.W.Frag} {C : Cfg} {F H : Hp} {i : Nat} {m : Int} (a : Fs K C F H σ ρ) (h : SL.look ρ i = .sh (.int m)) : σ[i]? = some (some (V.int m)) := by
  obtain ⟨x, ex, r⟩ := a.slot i _ (look_own h (fun z => nomatch z))
  cases r
  cases q : σ[i]? with
  | none => rw [q] at ex; cases ex
  | some y => rw [q] at ex; exact congrArg some ex
theorem s_aug {i : Nat} {x : Str} {o : SL.Op} {pos' : Pos} (ho : o = .add ∨ o = .sub) (hN : X.N.Nodup) (hi : X.N[i]? = some x) (hx : Loc X.env.scope x) (he : PE X e (RdE E cl X.K r)) (hf : X.fn x = true ∨ X.env.scope.names.lookup x = some .local) :
    PS X (.AugAssign (.Name x pos') (opOf o) e pos) (RdS E cl X.K fun ρ => match SL.look ρ i with
    | .sh (.int m) => (r ρ).bind fun p ρ1 => (match SL.peek ρ1 p with
      | some (.int n) => (match (generalizing := false) o with
        | .add => (SL.liftE (SL.put ρ1 i (.sh (.int (m + n))))).bind fun _ ρ2 => .ok .nx ρ2
        | .sub => (SL.liftE (SL.put ρ1 i (.sh (.int (m - n))))).bind fun _ ρ2 => .ok .nx ρ2
        | _ => .stuck)
      | _ => .stuck)
    | _ => .stuck) := by
  have key : ∀ (op : Operator) (g : Int → Int → Int), PIp X op (rI0 fun i j => .int (g i j)) → PS X (.AugAssign (.Name x pos') op e pos) (RdS E cl X.K fun ρ => match SL.look ρ i with
    | .sh (.int m) => (r ρ).bind fun p ρ1 => (match SL.peek ρ1 p with
      | some (.int n) => (SL.liftE (SL.put ρ1 i (.sh (.int (g m n))))).bind fun _ ρ2 => .ok .nx ρ2
      | _ => .stuck)
    | _ => .stuck) := fun op g hop => by
    refine PS.weak (ps_aug hN hi hx he hop hf) fun D σ H ⟨C, F, ρ, a, o⟩ => ?_
    cases q : SL.look ρ i with
    | sh d =>
      cases d with
      | int m =>
        simp only [q] at o
        refine ⟨_, aug_get a q, C, F, [], ρ, [], At.bare a, o.bind.out.imp fun p ρ1 o1 v F1 H1 s1 p1 => ?_⟩
        obtain ⟨F2, s2, a2, w2⟩ := p1.opd
        cases q2 : SL.peek ρ1 p with
        | none => simp only [q2] at o1; exact False.elim o1
        | some d =>
          have c := w2.cn a2 q2
          cases d with
          | int n =>
            simp only [q2] at o1
            cases q3 : SL.put ρ1 i (.sh (.int (g m n))) with
            | none => rw [q3] at o1; exact False.elim o1
            | some ρ2 =>
              rw [q3] at o1
              obtain ⟨hi', rfl⟩ := put_ok q3
              exact ⟨m, n, rfl, c, o1 _ F2 H1 (s1.trans s2) (a2.fs0.putSh (.int _))⟩
          | _ => simp only [q2] at o1; exact False.elim o1
      | _ => simp only [q] at o; exact False.elim o
    | _ => simp only [q] at o; exact False.elim o
  rcases ho with rfl | rfl
  · exact key .Add (· + ·) iop_add
  · exact key .Sub (· - ·) iop_sub
/-! ### x[k] = e -/
theorem dset_of {κ : Type} [DecidableEq κ] (f : κ → SL.D) (hf : ∀ a b, (f a).eqv (f b) = decide (a = b)) {K : PySem.W.Frag} {F : Hp} {k : κ} {v : V} {d : SL.D} (rv : Rp K F v d) : ∀ {kvs : List (κ × V)} {vs : List SL.D}, Rps K F (kvs.map (·.2)) vs →
    Rps K F ((kvs.map fun kv => if kv.1 = k then (kv.1, v) else kv).map (·.2)) (SL.dset (kvs.map fun p => f p.1) vs (f k) d)
  | [], _, .nil => .nil
  | (k0, v0) :: kvs, _, .cons h r => by
    have ih := dset_of f hf (k := k) rv r
    have e2 : (f k0).eqv (f k) = decide (k0 = k) := hf _ _
    simp only [List.map_cons, SL.dset, e2]
    by_cases e : k0 = k
    · simp only [e, decide_true, if_true]
      exact .cons rv ih
    · simp only [e, decide_false, if_false, Bool.false_eq_true]
      exact .cons h ih
theorem keys_rep {κ : Type} [DecidableEq κ] {k : κ} {v : V} : ∀ (kvs : List (κ × V)), (kvs.map fun kv => if kv.1 = k then (kv.1, v) else kv).map (·.1) = kvs.map (·.1)
  | [] => rfl
  | (k0, v0) :: kvs => by
    have ih := keys_rep (k := k) (v := v) kvs
    simp only [List.map_cons, List.map_map] at ih ⊢
    by_cases e : k0 = k
    · simp only [e, if_true, Function.comp_def, ih]
      exact congrArg _ ih
    · simp only [e, if_false]
      exact congrArg _ ih
theorem put_keys {κ : Type} [DecidableEq κ] (f : κ → SL.D) (hf : ∀ a b, (f a).eqv (f b) = decide (a = b)) {K : PySem.W.Frag} {F : Hp} {k : κ} {v : V} {d : SL.D} (rv : Rp K F v d) {kvs : List (κ × V)} {vs : List SL.D} (r : Rps K F (kvs.map (·.2)) vs) :
    ((putK kvs k v).map (·.1)).map f = (SL.dput ((kvs.map (·.1)).map f) vs (f k) d).1 ∧ Rps K F ((putK kvs k v).map (·.2)) (SL.dput ((kvs.map (·.1)).map f) vs (f k) d).2 := by
  have an : (((kvs.map (·.1)).map f).any fun j => j.eqv (f k)) = kvs.any fun kv => decide (kv.1 = k) := by
    induction kvs generalizing vs with
    | nil => rfl
    | cons a l ih =>
      cases r with
      | cons h r =>
        have := ih r
        simp only [List.map_cons, List.any_cons, hf]
        rw [this]
  unfold SL.dput putK
  rw [an]
  by_cases c : (kvs.any fun kv => decide (kv.1 = k)) = true
  · rw [if_pos c, if_pos c]
    refine ⟨by rw [keys_rep], ?_⟩
    have e : (kvs.map (·.1)).map f = kvs.map fun p => f p.1 := by rw [List.map_map]; rfl
    show Rps K F _ (SL.dset ((kvs.map (·.1)).map f) vs (f k) d)
    rw [e]
    exact dset_of f hf rv r
  · rw [if_neg c, if_neg c]
    refine ⟨by simp, ?_⟩
    rw [List.map_append]
    exact r.append (.cons rv .nil)
theorem keyI_inj {is : List Int} {k : Int} : True := trivial
def rSet (K : PySem.W.Frag) : TSet := fun o i v H Q => rSetL o i v H Q ∨ rSetD o i v H Q
theorem set_any (hu : X.A.units + 100 < cLine) : PSet X (rSet X.K) := by
  intro pins s σ H o i v ov iv u Q I ro ri rv h
  rcases h with h | h
  · exact set_list pins s σ H o i v ov iv u Q I ro ri rv h
  · exact set_dict (by omega) pins s σ H o i v ov iv u Q I ro ri rv h
end
end SLS

/-! ## S15 -/
set_option Elab.async false
set_option linter.all false
set_option autoImplicit false
set_option maxRecDepth 100000
/-! Soundness 15: items stored, several names at once. -/
namespace SLS
open PySem PySem.Spec PyProof.Rows L2
open SL (D Slot PV Res Ag Tgt)
section
variable {X : Cx} {E : XK} {cl : Nat → Value} {e e1 e2 e3 tg : Expr} {es : List Expr} {pos : Pos} {r r1 r2 rk : List Slot → Res PV} {K : PySem.W.Frag} {C : Cfg} {F H : Hp} {σ ts : List (Option V)} {ρ ρ' τ : List Slot}
/-! ### x[k] = e -/
def fK : Key → D
  | .inl i => .int i
  | .inr s => .str s.cps.toList
theorem fK_eqv (a b : Key) : (fK a).eqv (fK b) = decide (a = b) := by
  cases a with
  | inl i =>
    cases b with
    | inl j => simp [fK, D.eqv, Bool.beq_eq_decide_eq]
    | inr s => simp [fK, D.eqv]
  | inr s =>
    cases b with
    | inl j => simp [fK, D.eqv]
    | inr t =>
      simp only [fK, D.eqv, Sum.inr.injEq]
      rw [Bool.eq_iff_iff]
      simp only [beq_iff_eq, decide_eq_true_eq]
      constructor
      · intro h
        cases s; cases t
        congr 1
        exact Array.toList_inj.mp h
      · intro h; rw [h]
theorem fT_eqvs : ∀ a b : List Key, D.eqvs (a.map fK) (b.map fK) = decide (a = b)
  | [], [] => by simp [D.eqvs]
  | [], _ :: _ => by simp [D.eqvs]
  | _ :: _, [] => by simp [D.eqvs]
  | x :: a, y :: b => by
    simp only [List.map_cons, D.eqvs, fK_eqv, fT_eqvs a b]
    rw [Bool.eq_iff_iff]
    simp
theorem fT_eqv (a b : List Key) : (D.tup (a.map fK)).eqv (D.tup (b.map fK)) = decide (a = b) := by
  simp only [D.eqv]; exact fT_eqvs a b
theorem kI_fK (is : List Int) : (hI is).map fK = kI is := by unfold hI kI; rw [List.map_map]; rfl
theorem kT_fK (is : List (List Int)) : (hT is).map (fun l => D.tup (l.map fK)) = kT is := by
  unfold hT kT
  rw [List.map_map]
  apply List.map_congr_left
  intro l _
  simp only [Function.comp_def, List.map_map]
  rfl
theorem dput_kI {is : List Int} {vs : List D} {i : Int} {d : D} : ∃ js, (SL.dput (kI is) vs (.int i) d).1 = kI js := by
  unfold SL.dput
  split
  · exact ⟨is, rfl⟩
  · exact ⟨is ++ [i], by unfold kI; simp⟩
theorem put_inl {kvs : List (Key × V)} {is : List Int} {i : Int} {v : V} (h : kvs.map (·.1) = hI is) : ∃ js, (putK kvs (.inl i) v).map (·.1) = hI js := by
  unfold putK
  split
  · rw [keys_rep]; exact ⟨is, h⟩
  · refine ⟨is ++ [i], ?_⟩
    rw [List.map_append, h]
    unfold hI
    simp
theorem put_tup {kvs : List (List Key × V)} {is : List (List Int)} {l : List Int} {v : V} (h : kvs.map (·.1) = hT is) : ∃ js, (putK kvs (l.map Sum.inl) v).map (·.1) = hT js := by
  unfold putK
  split
  · rw [keys_rep]; exact ⟨is, h⟩
  · refine ⟨is ++ [l], ?_⟩
    rw [List.map_append, h]
    unfold hT
    simp
theorem kT_inj {a b : List (List Int)} (h : hT a = hT b) : a = b := by
  unfold hT at h
  exact List.map_inj_right (fun x y e => (List.map_inj_right (fun u w z => Sum.inl.inj z)).mp e) |>.mp h
theorem setItem_rd {i : Nat} {q : Addr} {k d : D} {y v : V} {α : Type} {f : Unit → List Slot → Res α} {ok : α → List Slot → Prop} {Q : Hp → Prop} {F0 : Hp} (a : At K C F H σ [] ρ []) (hq : σ[i]? = some (some (V.ref q))) (rk : Rp K F y k) (rv : Rp K F v d)
    (o : OutS E cl K C F0 ((SL.setItem ρ i k d).bind f) ok) (kk : ∀ H' ρ', At K C F H' σ [] ρ' [] → OutS E cl K C F0 (f () ρ') ok → Q H') : rSet K (.ref q) y v H Q := by
  unfold SL.setItem at o
  cases ho : SL.own ρ i with
  | none => rw [ho] at o; exact False.elim o
  | some d1 =>
    obtain ⟨q', ob, hq', _, h1, r1⟩ := a.own ho
    rw [hq] at hq'
    cases hq'
    rw [ho] at o
    cases d1 with
    | lst xs =>
      obtain ⟨ws, rfl, rw'⟩ := r1
      cases k with
      | int n =>
        cases rk
        have o : OutS E cl K C F0 ((match SL.place xs.length n with | some j => SL.liftE (SL.upd ρ i (.lst (xs.set j d))) | none => .stuck).bind f) ok := o
        cases hj : SL.place xs.length n with
        | none => rw [hj] at o; exact False.elim o
        | some j =>
          rw [hj] at o
          have o : OutS E cl K C F0 ((SL.liftE (SL.upd ρ i (.lst (xs.set j d)))).bind f) ok := o
          cases hu : SL.upd ρ i (.lst (xs.set j d)) with
          | none => rw [hu] at o; exact False.elim o
          | some ρ2 =>
            rw [hu] at o
            exact .inl ⟨q, ws, n, j, rfl, rfl, h1, by rw [rw'.length]; exact hj, kk _ ρ2 (a.change ho hu hq ⟨_, rfl, rw'.set rv j⟩) o⟩
      | _ => exact False.elim o
    | dct t ks vs =>
      have o2 : OutS E cl K C F0 ((if (SL.keyOk t k && decide (ks.length < SL.lim)) = true then SL.liftE (SL.upd ρ i (.dct t (SL.dput ks vs k d).1 (SL.dput ks vs k d).2)) else .stuck).bind f) ok := o
      by_cases hc : (SL.keyOk t k && decide (ks.length < SL.lim)) = true
      case neg => rw [if_neg hc] at o2; exact False.elim o2
      rw [if_pos hc] at o2
      obtain ⟨hk, hl⟩ := Bool.and_eq_true_iff.mp hc
      have hl := of_decide_eq_true hl
      have hlim : SL.lim < sizeLine := by decide
      cases hu : SL.upd ρ i (.dct t (SL.dput ks vs k d).1 (SL.dput ks vs k d).2) with
      | none => rw [hu] at o2; exact False.elim o2
      | some ρ2 =>
        rw [hu] at o2
        have o3 : OutS E cl K C F0 (f () ρ2) ok := o2
        clear o o2
        cases t with
        | false =>
          obtain ⟨kvs, is, rfl, e1, e2, r2⟩ := r1
          cases k with
          | int n =>
            cases rk
            have len : kvs.length = ks.length := by rw [e2]; have := congrArg List.length e1; unfold hI at this; unfold kI; simpa using this
            have pk := put_keys fK fK_eqv (k := .inl n) rv r2
            rw [e1, kI_fK, ← e2] at pk
            obtain ⟨js, ej⟩ := put_inl (i := n) (v := v) e1
            refine .inr ⟨q, _, rfl, .inl ⟨kvs, .inl n, h1, rfl, by omega, rfl⟩, kk _ ρ2 (a.change ho hu hq ⟨_, js, rfl, ej, ?_, pk.2⟩) o3⟩
            rw [← kI_fK, ← ej]
            exact pk.1.symm
          | _ => exact absurd hk (by simp [SL.keyOk])
        | true =>
          obtain ⟨kvs, is, rfl, e1, e2, r2⟩ := r1
          cases k with
          | tup ds =>
            have hk' : (true && ds.all SL.isInt) = true := hk
            obtain ⟨l, rfl⟩ := all_isInt ds (by simpa using hk')
            cases rk with
            | @tup b xs _ hb rx =>
              have ex := rx.ofInts
              subst ex
              have len : kvs.length = ks.length := by rw [e2]; have := congrArg List.length e1; unfold hT at this; unfold kT; simpa using this
              have pk := put_keys (fun l => D.tup (l.map fK)) fT_eqv (k := l.map Sum.inl) rv r2
              have ek : D.tup ((l.map Sum.inl).map fK) = D.tup (l.map D.int) := by rw [List.map_map]; rfl
              simp only [ek] at pk
              rw [e1, kT_fK, ← e2] at pk
              obtain ⟨js, ej⟩ := put_tup (l := l) (v := v) e1
              refine .inr ⟨q, _, rfl, .inr ⟨kvs, l.map Sum.inl, b, h1, rfl, ?_, by omega, rfl⟩, kk _ ρ2 (a.change ho hu hq ⟨_, js, rfl, ej, ?_, pk.2⟩) o3⟩
              · rw [a.fs.sub _ _ hb, List.map_map]; rfl
              · rw [← kT_fK, ← ej]
                exact pk.1.symm
          | _ => exact absurd hk (by simp [SL.keyOk])
    | _ => exact False.elim o
theorem own_isSome {i : Nat} (a : At K C F H σ ts ρ τ) (h : (SL.own ρ i).isSome = true) : ∃ q, σ[i]? = some (some (V.ref q)) := by
  obtain ⟨d, hd⟩ := Option.isSome_iff_exists.mp h
  obtain ⟨q, _, hq, _⟩ := a.own hd
  exact ⟨q, hq⟩
theorem s_setI {i : Nat} {x : Str} {p p2 : Pos} (hu : X.A.units + 100 < cLine) (he : PE X e (RdE E cl X.K r)) (hv : PE X (.Name x p) (tVar i)) (hk : PE X e2 (RdE E cl X.K rk)) (hs : swapsWithSole [.Subscript (.Name x p) e2 p2] e pos.line X.env = pure false)
    (hw : swappedStores [.Subscript (.Name x p) e2 p2] e X.env = pure none)
    (ha : ∀ v, assign (.Subscript (.Name x p) e2 p2) X.env v = (do
      let ov ← holding [v] (eval (.Name x p) X.env)
      let iv ← holding [v, ov] (eval e2 X.env)
      standAt p2
      holding [v, ov, iv] (setItem ov iv v)
      release [v, ov, iv] [])) :
    PS X (.Assign [.Subscript (.Name x p) e2 p2] e pos) (RdS E cl X.K fun ρ => (SL.frzR (r ρ)).bind fun d ρ1 => if (SL.own ρ1 i).isSome then (SL.frzR (rk ρ1)).bind fun x ρ2 => (SL.setItem ρ2 i x d).bind fun _ ρ3 => .ok .nx ρ3 else .stuck) := by
  refine PS.weak (ps_asg (e_frz he) (pg_sub hv (e_frz hk) (set_any hu) ha) hs hw rfl) fun D σ H ⟨C, F, ρ, a, o⟩ => ⟨C, F, [], ρ, [], At.bare a, o.bind.out.imp fun d ρ1 o1 v F1 H1 s1 a1 w1 => ?_⟩
  by_cases ho : (SL.own ρ1 i).isSome = true
  case neg => rw [if_neg ho] at o1; exact False.elim o1
  rw [if_pos ho] at o1
  obtain ⟨q, hq⟩ := own_isSome a1 ho
  refine ⟨_, hq, C, F1, [], ρ1, [], a1, (o1.mono s1).bind.out.imp fun k ρ2 o2 y F2 H2 s2 a2 w2 => ?_⟩
  exact setItem_rd a2 hq w2 (w1.mono s2) o2 fun H' ρ3 a3 o3 => o3 σ F2 H' (s1.trans s2) a3.fs0
/-! ### several names at once -/
inductive ParsV (K : PySem.W.Frag) (F : Hp) : List V → List PV → List (Option V) → List Slot → Prop
  | nil : ParsV K F [] [] [] []
  | sh {v : V} {d : D} {vs : List V} {ps : List PV} {us : List (Option V)} {υ : List Slot} : Rp K F v d → ParsV K F vs ps us υ → ParsV K F (v :: vs) (.sh d :: ps) us υ
  | mu {v : V} {d : D} {vs : List V} {ps : List PV} {us : List (Option V)} {υ : List Slot} : ParsV K F vs ps us υ → ParsV K F (v :: vs) (.mu d :: ps) (some v :: us) (.mu d :: υ)
theorem ParsV.mono {F' : Hp} {vs : List V} {ps : List PV} {us : List (Option V)} {υ : List Slot} (s : Same F F') (h : ParsV K F vs ps us υ) : ParsV K F' vs ps us υ := by
  induction h with
  | nil => exact .nil
  | sh r _ ih => exact .sh (Rp.mono s r) ih
  | mu _ ih => exact .mu ih
def RdV (E : XK) (cl : Nat → Value) (K : PySem.W.Frag) (r : List Slot → Res (List PV)) : TA := fun σ H Q => ∃ C F ts ρ τ, At K C F H σ ts ρ τ ∧
  Out E cl K C σ ts τ F (r ρ) fun ps ρ' => ∀ vs us υ F' H', Same F F' → At K C F' H' σ (ts ++ us) ρ' (τ ++ υ) → ParsV K F' vs ps us υ → Q vs H'
theorem v_nil : PA X [] (RdV E cl X.K fun ρ => .ok [] ρ) := PA.weak pa_nil fun σ H Q ⟨C, F, ts, ρ, τ, a, o⟩ =>
  o [] [] [] F H (Same.refl F) (by rw [List.append_nil, List.append_nil]; exact a) .nil
theorem v_cons {rs : List Slot → Res (List PV)} (he : PE X e (RdE E cl X.K r)) (hs : PA X es (RdV E cl X.K rs)) (hst : starEach (e :: es) X.env = (false, eval e X.env) :: starEach es X.env) :
    PA X (e :: es) (RdV E cl X.K fun ρ => ((r ρ).bind fun p ρ0 => SL.settle ρ0 p).bind fun p ρ1 => (rs ρ1).bind fun ps ρ2 => .ok (p :: ps) ρ2) := by
  refine PA.weak (pa_cons he hs hst) fun σ H Q ⟨C, F, ts, ρ, τ, a, o⟩ => ⟨C, F, ts, ρ, τ, a, o.bind.bind.imp fun p ρ1 o1 v F1 H1 s1 p1 => ?_⟩
  have lt := a.lenT
  cases p with
  | slot i =>
    obtain ⟨F2, s2, a2, w2⟩ := p1.opd
    have o1' : Out E cl X.K C σ ts τ F (match SL.frz ρ1 (.slot i) with | some (d, ρ') => .ok (.sh d) ρ' | none => .stuck) (fun p ρ1 => Out E cl X.K C σ ts τ F ((rs ρ1).bind fun ps ρ2 => .ok (p :: ps) ρ2) fun ps ρ' => ∀ vs us υ F' H', Same F F' → At X.K C F' H' σ (ts ++ us) ρ' (τ ++ υ) → ParsV X.K F' vs ps us υ → Q vs H') := o1
    cases q : SL.frz ρ1 (.slot i) with
    | none => rw [q] at o1'; exact False.elim o1'
    | some z =>
      obtain ⟨d, ρ2⟩ := z
      rw [q] at o1'
      obtain ⟨F3, s3, a3, r3⟩ := w2.frz a2 q
      have o2 : Out E cl X.K C σ ts τ F ((rs ρ2).bind fun ps ρ2 => .ok (PV.sh d :: ps) ρ2) _ := o1'
      exact ⟨C, F3, ts, ρ2, τ, a3, (o2.mono (s1.trans (s2.trans s3))).bind.imp fun ps ρ3 o3 vs us υ F4 H4 s4 a4 w4 => o3 (v :: vs) us υ F4 H4 ((s1.trans (s2.trans s3)).trans s4) a4 (.sh (r3.mono s4) w4)⟩
  | sh d =>
    have o2 : Out E cl X.K C σ ts τ F ((rs ρ1).bind fun ps ρ2 => .ok (PV.sh d :: ps) ρ2) _ := o1
    have r1 : Rp X.K F1 v d := p1.1
    exact ⟨C, F1, ts, ρ1, τ, p1.2, (o2.mono s1).bind.imp fun ps ρ3 o3 vs us υ F4 H4 s4 a4 w4 => o3 (v :: vs) us υ F4 H4 (s1.trans s4) a4 (.sh (r1.mono s4) w4)⟩
  | mu d =>
    have o2 : Out E cl X.K C σ ts τ F ((rs ρ1).bind fun ps ρ2 => .ok (PV.mu d :: ps) ρ2) _ := o1
    have p1' : At X.K C F1 H1 σ (ts ++ [some v]) ρ1 (τ ++ [.mu d]) := p1
    refine ⟨C, F1, _, ρ1, _, p1', ((o2.mono s1).bind.held lt).imp fun ps ρ3 o3 vs us υ F4 H4 s4 a4 w4 => ?_⟩
    rw [List.append_assoc, List.append_assoc] at a4
    exact o3 (v :: vs) (some v :: us) (.mu d :: υ) F4 H4 (s1.trans s4) a4 (.mu w4)
/-- the names is get the values vs -/
def setAll : List (Option V) → List Nat → List V → List (Option V)
  | σ, i :: is, v :: vs => setAll (σ.set i (some v)) is vs
  | σ, _, _ => σ
theorem Fs.moveT {js us : List (Option V)} {ιs υ : List Slot} {i : Nat} {v : V} {d : D} (s : Fs K C F H (σ ++ (js ++ some v :: us)) (ρ ++ (ιs ++ .mu d :: υ))) (h1 : σ.length = ρ.length) (h2 : js.length = ιs.length) (hi : i < ρ.length) :
    Fs K C F H (σ.set i (some v) ++ (js ++ some v :: us)) (ρ.set i (.mu d) ++ (ιs ++ .no :: υ)) := by
  have hk : (ρ ++ (ιs ++ Slot.mu d :: υ))[ρ.length + ιs.length]? = some (.mu d) := by
    rw [List.getElem?_append_right (by omega), Nat.add_sub_cancel_left, List.getElem?_append_right (Nat.le_refl _), Nat.sub_self]; rfl
  have hv : ((σ ++ (js ++ some v :: us))[ρ.length + ιs.length]?).join = some v := by
    rw [List.getElem?_append_right (by omega), h1, Nat.add_sub_cancel_left, ← h2, List.getElem?_append_right (Nat.le_refl _), Nat.sub_self]; rfl
  have g := s.move (i := i) (k := ρ.length + ιs.length) (by omega) (by rw [List.length_append]; omega) hk hv
  rw [List.set_append_left _ _ (by omega), List.set_append_left _ _ hi, List.set_append_right _ _ (by rw [List.length_set]; omega), List.length_set, Nat.add_sub_cancel_left, List.set_append_right _ _ (Nat.le_refl _), Nat.sub_self] at g
  exact g
theorem stores_rd (is : List Nat) : ∀ {ps : List PV} {vs : List V} {us js : List (Option V)} {υ ιs : List Slot} {σ : List (Option V)} {ρ : List Slot} {ok : Unit → List Slot → Prop}, Fs K C F H (σ ++ (js ++ us)) (ρ ++ (ιs ++ υ)) → σ.length = ρ.length → js.length = ιs.length → ParsV K F vs ps us υ →
    OutS E cl K C F (SL.stores is ps ρ) ok → ∃ ρ2, Fs K C F H (setAll σ is vs) ρ2 ∧ ok () ρ2 := by
  induction is with
  | nil =>
    intro ps vs us js υ ιs σ ρ ok s h1 h2 w o
    cases w with
    | nil =>
      have o' : ok () ρ := o
      rw [List.append_nil, List.append_nil] at s
      exact ⟨ρ, s.drop h1, o'⟩
    | sh _ _ => exact False.elim o
    | mu _ => exact False.elim o
  | cons i is ih =>
    intro ps vs us js υ ιs σ ρ ok s h1 h2 w o
    cases w with
    | nil => exact False.elim o
    | @sh v d vs ps _ _ r w =>
      have o' : OutS E cl K C F ((SL.liftE (SL.put ρ i (.sh d))).bind fun _ ρ' => SL.stores is ps ρ') ok := o
      cases q : SL.put ρ i (.sh d) with
      | none => rw [q] at o'; exact False.elim o'
      | some ρ1 =>
        rw [q] at o'
        obtain ⟨hi, rfl⟩ := put_ok q
        have s' := s.putSh (i := i) r
        rw [List.set_append_left _ _ (by omega), List.set_append_left _ _ hi] at s'
        exact ih s' (by rw [List.length_set, List.length_set]; exact h1) h2 w o'
    | @mu v d vs ps us υ w =>
      have o' : OutS E cl K C F ((SL.liftE (SL.put ρ i (.mu d))).bind fun _ ρ' => SL.stores is ps ρ') ok := o
      cases q : SL.put ρ i (.mu d) with
      | none => rw [q] at o'; exact False.elim o'
      | some ρ1 =>
        rw [q] at o'
        obtain ⟨hi, rfl⟩ := put_ok q
        have s' := s.moveT (i := i) h1 h2 hi
        have e1 : js ++ some v :: us = (js ++ [some v]) ++ us := by simp
        have e2 : ιs ++ Slot.no :: υ = (ιs ++ [.no]) ++ υ := by simp
        rw [e1, e2] at s'
        exact ih s' (by rw [List.length_set, List.length_set]; exact h1) (by simp [h2]) w o'
def parR (is : List Nat) (rs : List Slot → Res (List PV)) : List Slot → Res SL.Flow := fun ρ => (rs ρ).bind fun ps ρ1 => (SL.stores is ps ρ1).bind fun _ ρ2 => .ok .nx ρ2
theorem par_rd {is : List Nat} {rs : List Slot → Res (List PV)} {D : Ends} (h : RdS E cl K (parR is rs) D σ H) (n : Nat) (hn : ∀ ρ ps ρ', rs ρ = .ok ps ρ' → ps.length = n) : RdV E cl K rs σ H fun vs H1 => vs.length = n ∧ D.nx (setAll σ is vs) H1 := by
  obtain ⟨C, F, ρ, a, o⟩ := h
  refine ⟨C, F, [], ρ, [], At.bare a, ?_⟩
  have o := o.bind.out (σ := σ)
  cases q : rs ρ with
  | stuck => rw [q] at o; exact False.elim o
  | exc k r => rw [q] at o; exact o
  | ok ps ρ1 =>
    rw [q] at o
    intro vs us υ F1 H1 s1 a1 w1
    have f1 := a1.fs
    have o1 : OutS E cl K C F ((SL.stores is ps ρ1).bind fun _ ρ2 => .ok .nx ρ2) (Fin K C D F) := o
    obtain ⟨ρ2, f2, k⟩ := stores_rd is (js := []) (ιs := []) (σ := σ) f1 a1.len rfl w1 (o1.mono s1).bind
    have len : vs.length = ps.length := by
      clear o o1 f1 k f2 a1 q
      induction w1 with
      | nil => rfl
      | sh _ _ ih => simp [ih]
      | mu _ ih => simp [ih]
    exact ⟨by rw [len, hn ρ ps ρ1 q], k _ F1 H1 s1 f2⟩
theorem len2 {vs : List V} (h : vs.length = 2) : ∃ v w, vs = [v, w] := by
  match vs, h with
  | [v, w], _ => exact ⟨v, w, rfl⟩
theorem len3 {vs : List V} (h : vs.length = 3) : ∃ v w u, vs = [v, w, u] := by
  match vs, h with
  | [v, w, u], _ => exact ⟨v, w, u, rfl⟩
theorem s_par2 {i j : Nat} {x y : Str} {px py pt : Pos} {kt k2 : Nat} {pt2 : Pos} {rs : List Slot → Res (List PV)} (hc : X.calm = true) (hN : X.N.Nodup) (hi : X.N[i]? = some x) (hj : X.N[j]? = some y) (hij : i ≠ j)
    (hx : X.env.scope.names.lookup x = some .local) (hy : X.env.scope.names.lookup y = some .local) (ha : PA X [e1, e2] (RdV E cl X.K rs)) (hl : ∀ ρ ps ρ', rs ρ = .ok ps ρ' → ps.length = 2)
    (hw : swappedStores [.Tuple [.Name x px, .Name y py] kt pt] (.Tuple [e1, e2] k2 pt2) X.env = pure (some [x, y])) :
    PS X (.Assign [.Tuple [.Name x px, .Name y py] kt pt] (.Tuple [e1, e2] k2 pt2) pos) (RdS E cl X.K (parR [i, j] rs)) := by
  refine PS.weak (ps_par hc hN hi hj hij hx hy ha hw) fun D σ H h => ?_
  obtain ⟨C, F, ts, ρ, τ, a, o⟩ := par_rd h 2 hl
  refine ⟨C, F, ts, ρ, τ, a, o.imp fun ps ρ' k vs us υ F' H' s' a' w' => ?_⟩
  obtain ⟨h1, h2⟩ := k vs us υ F' H' s' a' w'
  obtain ⟨v, w, rfl⟩ := len2 h1
  exact ⟨v, w, rfl, h2⟩
theorem s_par3 {i j l : Nat} {x y z : Str} {px py pz pt : Pos} {kt k2 : Nat} {pt2 : Pos} {rs : List Slot → Res (List PV)} (hc : X.calm = true) (hN : X.N.Nodup) (hi : X.N[i]? = some x) (hj : X.N[j]? = some y) (hl : X.N[l]? = some z) (hij : i ≠ j) (hil : i ≠ l) (hjl : j ≠ l)
    (hx : X.env.scope.names.lookup x = some .local) (hy : X.env.scope.names.lookup y = some .local) (hz : X.env.scope.names.lookup z = some .local) (ha : PA X [e1, e2, e3] (RdV E cl X.K rs)) (hn : ∀ ρ ps ρ', rs ρ = .ok ps ρ' → ps.length = 3)
    (hw : swappedStores [.Tuple [.Name x px, .Name y py, .Name z pz] kt pt] (.Tuple [e1, e2, e3] k2 pt2) X.env = pure (some [x, y, z])) :
    PS X (.Assign [.Tuple [.Name x px, .Name y py, .Name z pz] kt pt] (.Tuple [e1, e2, e3] k2 pt2) pos) (RdS E cl X.K (parR [i, j, l] rs)) := by
  refine PS.weak (ps_par3 hc hN hi hj hl hij hil hjl hx hy hz ha hw) fun D σ H h => ?_
  obtain ⟨C, F, ts, ρ, τ, a, o⟩ := par_rd h 3 hn
  refine ⟨C, F, ts, ρ, τ, a, o.imp fun ps ρ' k vs us υ F' H' s' a' w' => ?_⟩
  obtain ⟨h1, h2⟩ := k vs us υ F' H' s' a' w'
  obtain ⟨v, w, u, rfl⟩ := len3 h1
  exact ⟨v, w, u, rfl, h2⟩
/-- through a tuple: names of any kind -/
def gNames : List Nat → TGs
  | [] => gNil
  | i :: is => gCons (gName i) (gNames is)
theorem gNames_ok : ∀ {is : List Nat} {vs : List V} {σ : List (Option V)} {Q : L2.St → Hp → Prop}, vs.length = is.length → Q (setAll σ is vs) H → gNames is vs σ H Q
  | [], [], _, _, _, q => ⟨rfl, q⟩
  | i :: is, v :: vs, σ, Q, h, q => ⟨v, vs, rfl, gNames_ok (is := is) (vs := vs) (by simpa using h) q⟩
theorem s_parT {is : List Nat} {tgs : List Expr} {pt : Pos} {kt k2 : Nat} {pt2 : Pos} {rs : List Slot → Res (List PV)} (hc : X.calm = true) (hg : PGs X tgs (gNames is)) (ha : PA X es (RdV E cl X.K rs)) (hn : ∀ ρ ps ρ', rs ρ = .ok ps ρ' → ps.length = is.length) (hl : is.length ≤ 30)
    (h1 : (assignEach tgs X.env).length = is.length) (h2 : (assignEach tgs X.env).findIdx? (·.1) = none) (hs : swapsWithSole [.Tuple tgs kt pt] (.Tuple es k2 pt2) pos.line X.env = pure false) (hw : swappedStores [.Tuple tgs kt pt] (.Tuple es k2 pt2) X.env = pure none) :
    PS X (.Assign [.Tuple tgs kt pt] (.Tuple es k2 pt2) pos) (RdS E cl X.K (parR is rs)) := by
  refine PS.weak (ps_asg (pe_tup ha) (pg_tup hc hg h1 h2) hs hw rfl) fun D σ H ⟨C, F, ρ, a, o⟩ => ⟨C, F, [], ρ, [], At.bare a, ?_⟩
  have o := o.bind.out (σ := σ)
  cases q : rs ρ with
  | stuck => rw [q] at o; exact False.elim o
  | exc k r => rw [q] at o; exact o
  | ok ps ρ1 =>
    rw [q] at o
    intro vs us υ F1 H1 s1 a1 w1
    have len : vs.length = is.length := by
      have e := hn ρ ps ρ1 q
      rw [← e]
      clear o a1 q e
      induction w1 with
      | nil => rfl
      | sh _ _ ih => simp [ih]
      | mu _ ih => simp [ih]
    refine ⟨Nat.le_trans (by omega : vs.length ≤ 30) (by decide), fun p hp => ?_⟩
    have a2 := a1.junk (o := .tup vs) hp
    have o1 : OutS E cl X.K C F ((SL.stores is ps ρ1).bind fun _ ρ2 => .ok .nx ρ2) (Fin X.K C D F) := o
    obtain ⟨ρ2, f2, k⟩ := stores_rd is (js := []) (ιs := []) (σ := σ) a2.fs a2.len rfl w1 (o1.mono s1).bind
    exact ⟨p, vs, rfl, .inl (.inl upd_same), len, gNames_ok len (k _ F1 _ s1 f2)⟩
end
end SLS

/-! ## S16 -/
set_option Elab.async false
set_option linter.all false
set_option autoImplicit false
set_option maxRecDepth 100000
/-! Soundness 16: expressions checked against the core's. -/
namespace SLS
open PySem PySem.Spec PyProof.Rows L2
open SL (D Slot PV Res Ag Tgt CE)
mutual
def same : D → D → Bool
  | .non, .non => true
  | .bl a, .bl b => a == b
  | .int a, .int b => a == b
  | .str a, .str b => decide (a = b)
  | .tup a, .tup b => sames a b
  | .lst a, .lst b => sames a b
  | .wr a, .wr b => sames a b
  | _, _ => false
def sames : List D → List D → Bool
  | [], [] => true
  | a :: as, b :: bs => same a b && sames as bs
  | _, _ => false
end
mutual
theorem same_eq : ∀ {a b : D}, same a b = true → a = b
  | .non, .non, _ => rfl
  | .bl a, .bl b, h => by simp only [same, beq_iff_eq] at h; rw [h]
  | .int a, .int b, h => by simp only [same, beq_iff_eq] at h; rw [h]
  | .str a, .str b, h => by simp only [same, decide_eq_true_eq] at h; rw [h]
  | .tup a, .tup b, h => by simp only [same] at h; rw [sames_eq h]
  | .lst a, .lst b, h => by simp only [same] at h; rw [sames_eq h]
  | .wr a, .wr b, h => by simp only [same] at h; rw [sames_eq h]
  | .dct _ _ _, b, h => by cases b <;> (simp only [same] at h; cases h)
  | .non, .bl _, h | .non, .int _, h | .non, .str _, h | .non, .tup _, h | .non, .lst _, h | .non, .wr _, h | .non, .dct _ _ _, h => by simp only [same] at h; cases h
  | .bl _, .non, h | .bl _, .int _, h | .bl _, .str _, h | .bl _, .tup _, h | .bl _, .lst _, h | .bl _, .wr _, h | .bl _, .dct _ _ _, h => by simp only [same] at h; cases h
  | .int _, .non, h | .int _, .bl _, h | .int _, .str _, h | .int _, .tup _, h | .int _, .lst _, h | .int _, .wr _, h | .int _, .dct _ _ _, h => by simp only [same] at h; cases h
  | .str _, .non, h | .str _, .bl _, h | .str _, .int _, h | .str _, .tup _, h | .str _, .lst _, h | .str _, .wr _, h | .str _, .dct _ _ _, h => by simp only [same] at h; cases h
  | .tup _, .non, h | .tup _, .bl _, h | .tup _, .int _, h | .tup _, .str _, h | .tup _, .lst _, h | .tup _, .wr _, h | .tup _, .dct _ _ _, h => by simp only [same] at h; cases h
  | .lst _, .non, h | .lst _, .bl _, h | .lst _, .int _, h | .lst _, .str _, h | .lst _, .tup _, h | .lst _, .wr _, h | .lst _, .dct _ _ _, h => by simp only [same] at h; cases h
  | .wr _, .non, h | .wr _, .bl _, h | .wr _, .int _, h | .wr _, .str _, h | .wr _, .tup _, h | .wr _, .lst _, h | .wr _, .dct _ _ _, h => by simp only [same] at h; cases h
theorem sames_eq : ∀ {a b : List D}, sames a b = true → a = b
  | [], [], _ => rfl
  | a :: as, b :: bs, h => by
    simp only [sames, Bool.and_eq_true] at h
    rw [same_eq h.1, sames_eq h.2]
  | [], _ :: _, h => by simp only [sames] at h; cases h
  | _ :: _, [], h => by simp only [sames] at h; cases h
end
/-- what a text is checked with: the names' places, the scope, a block's written scope, the functions' names, the constants, the exceptions' names -/
structure Ck where
  N : List Str
  sc : Scope
  bs : Option Scope
  nm : Nat → Option Str
  gc : Str → Option D
  ex : Nat → Option Str
def Ck.blk (c : Ck) (s : Scope) : Ck := { c with sc := relS s c.sc, bs := some s }
def bnames : List Str := ["isinstance", "len", "abs", "max", "min", "sum", "sorted", "tuple", "list", "all", "any", "int", "bool", "str", "set", "dict", "range", "zip", "enumerate"]
def Ck.vis (c : Ck) (i : Nat) (x : Str) : Bool := decide (c.N[i]? = some x) && (match c.sc.names.lookup x with | some .local => true | some .cell => true | some .free => true | _ => false) && !(x == ("__debug__" : Str)) && !(x == ("__classdict__" : Str))
def Ck.glo (c : Ck) (x : Str) : Bool := (match c.sc.names.lookup x with | some .globalImplicit => true | _ => false) && !(x == ("__debug__" : Str))
def Ck.tgt (c : Ck) (i : Nat) (x : Str) : Bool := decide (c.N[i]? = some x) && (match c.sc.names.lookup x with | some .local => true | some .cell => (match c.bs with | none => true | some s => s.names.lookup x == some .cell) | _ => false)
structure Good (c : Ck) (Φ : SL.Fns) (cl : Nat → Value) (X : Cx) (E : XK) : Prop where
  n : X.N = c.N
  nd : c.N.Nodup
  sc : X.env.scope = c.sc
  kind : X.env.scope.kind = .function
  fn : X.fn = (match c.bs with | none => fun _ => true | some s => fun x => s.names.lookup x == some .cell)
  calm : X.calm = true
  un : X.A.units + 100 < cLine
  bm : ∀ x ∈ bnames, X.mg x = none
  fns : ∀ i x, c.nm i = some x → CalX X cl x (Φ i)
  pass : Passes (L2.CX X.prog X.w) X E
  gl : ∀ x d, c.gc x = some d → ∃ v u, X.mg x = some u ∧ RelV v u ∧ ∀ F, Rp X.K F v d
section
variable {c : Ck} {Φ : SL.Fns} {cl : Nat → Value} {X : Cx} {E : XK}
theorem Good.vis (g : Good c Φ cl X E) {i : Nat} {x : Str} {p : Pos} (h : c.vis i x = true) : PE X (.Name x p) (tVar i) := by
  unfold Ck.vis at h
  simp only [Bool.and_eq_true, decide_eq_true_eq, Bool.not_eq_true'] at h
  obtain ⟨⟨⟨h1, h2⟩, h3⟩, h4⟩ := h
  refine pe_var (by rw [g.n]; exact h1) ?_ h3 h4
  unfold Vis
  rw [g.sc]
  split at h2
  · rename_i q; exact .inl q
  · rename_i q; exact .inr (.inl q)
  · rename_i q; exact .inr (.inr q)
  · cases h2
theorem Good.glo (g : Good c Φ cl X E) {x : Str} (h : c.glo x = true) : Gl X x ∧ (x == ("__debug__" : Str)) = false := by
  unfold Ck.glo at h
  simp only [Bool.and_eq_true, Bool.not_eq_true'] at h
  refine ⟨?_, h.2⟩
  show X.env.scope.names.lookup x = some .globalImplicit
  rw [g.sc]
  have h1 := h.1
  split at h1
  · rename_i q; exact q
  · cases h1
theorem Good.tgt (g : Good c Φ cl X E) {i : Nat} {x : Str} (h : c.tgt i x = true) : X.N[i]? = some x ∧ L2.Loc X.env.scope x ∧ (X.fn x = true ∨ X.env.scope.names.lookup x = some .local) := by
  unfold Ck.tgt at h
  simp only [Bool.and_eq_true, decide_eq_true_eq] at h
  obtain ⟨h1, h2⟩ := h
  refine ⟨by rw [g.n]; exact h1, ?_⟩
  unfold L2.Loc
  rw [g.sc]
  split at h2
  · rename_i q; exact ⟨.inl q, .inr q⟩
  · rename_i q
    refine ⟨.inr q, .inl ?_⟩
    rw [g.fn]
    cases hb : c.bs with
    | none => rfl
    | some s => rw [hb] at h2; exact h2
  · cases h2
theorem Good.nodup (g : Good c Φ cl X E) : X.N.Nodup := by rw [g.n]; exact g.nd
theorem Good.blt (g : Good c Φ cl X E) {x : Str} (h : decide (x ∈ bnames) = true) : X.mg x = none := g.bm x (of_decide_eq_true h)
theorem Good.block (g : Good c Φ cl X E) (s : Shared) (H : Hp) (scope : Scope) (hk : scope.kind = .function) (C : Addr) (cells : List (Str × Addr)) (fp : List Addr) : Good (c.blk scope) Φ cl (X.blk s H scope (compEnvC scope cells C X.env) fp) EF where
  n := g.n
  nd := g.nd
  sc := by show relS scope X.env.scope = relS scope c.sc; rw [g.sc]
  kind := hk
  fn := rfl
  calm := g.calm
  un := g.un
  bm := g.bm
  fns := fun i x e => ⟨(g.fns i x e).ex⟩
  pass := passL
  gl := g.gl
end
/-- the tail of an argument list without stars -/
theorem backTo_plain {env : Env} {pos : Pos} : ∀ {es : List Expr}, es.all plainE = true → (backTo pos (starEach es env)).any (·.1) = false
  | [], _ => rfl
  | e :: es, h => by
    simp only [List.all_cons, Bool.and_eq_true] at h
    rw [star_plain h.1]
    have ih := backTo_plain (env := env) (pos := pos) h.2
    unfold backTo at ih ⊢
    simp only [List.map_cons, List.any_cons, Bool.false_or]
    exact ih
theorem evs_len {Φ : SL.Fns} : ∀ {es : List CE} {ρ ρ' : List Slot} {ds : List D}, SL.evs Φ es ρ = .ok ds ρ' → ds.length = es.length
  | [], _, _, _, h => by cases h; rfl
  | e :: es, ρ, ρ', ds, h => by
    have h : ((SL.frzR (SL.ev Φ e ρ)).bind fun d ρ1 => (SL.evs Φ es ρ1).bind fun ds ρ2 => Res.ok (d :: ds) ρ2) = .ok ds ρ' := h
    cases q : SL.frzR (SL.ev Φ e ρ) with
    | stuck => rw [q] at h; cases h
    | exc k r => rw [q] at h; cases h
    | ok d ρ1 =>
      rw [q] at h
      have h : ((SL.evs Φ es ρ1).bind fun ds ρ2 => Res.ok (d :: ds) ρ2) = .ok ds ρ' := h
      cases q2 : SL.evs Φ es ρ1 with
      | stuck => rw [q2] at h; cases h
      | exc k r => rw [q2] at h; cases h
      | ok ds' ρ2 =>
        rw [q2] at h
        cases h
        rw [List.length_cons, List.length_cons, evs_len q2]
/-! ### the check -/
def chkC : D → Expr → Bool
  | .non, .Constant .none _ _ => true
  | .bl b, .Constant (.bool b') _ _ => b == b'
  | .int i, .Constant (.int j) _ _ => i == j
  | .str x, .Constant (.str s) _ _ => decide (s = S x)
  | _, _ => false
mutual
def chkT (c : Ck) : Tgt → Expr → Bool
  | .nm i, e => match e with
    | .Name x _ => c.tgt i x
    | _ => false
  | .tp ts, e => match e with
    | .Tuple es _ _ => chkTs c ts es
    | _ => false
def chkTs (c : Ck) : List Tgt → List Expr → Bool
  | [], es => match es with
    | [] => true
    | _ => false
  | t :: ts, es => match es with
    | [] => false
    | e :: es => plainE e && chkT c t e && chkTs c ts es
end
def isTup : Expr → Bool
  | .Tuple .. => true
  | _ => false
def biName : SL.Bi → Str
  | .len => "len" | .abs => "abs" | .max => "max" | .min => "min" | .max2 => "max" | .min2 => "min" | .sum => "sum" | .sorted => "sorted" | .tuple => "tuple" | .list => "list" | .all => "all" | .any => "any" | .int => "int" | _ => "?"
def biOk : SL.Bi → Bool
  | .len => true | .abs => true | .max => true | .min => true | .sorted => true | .max2 => true | .min2 => true | .sum => true | .tuple => true | .list => true | .all => true | .any => true | .int => true
  | _ => false
def notIte : CE → Bool
  | .ite _ _ _ => false
  | _ => true
def ownOf (N : List Str) (own : List Nat) : List (Str × Nat) := own.map fun j => (N.getD j "", j)
mutual
def chkE (c : Ck) : CE → Expr → Bool
  | .var i, e => match e with
    | .Name x _ => c.vis i x
    | _ => false
  | .cst d, e => chkC d e
  | .glb x d, e => match e with
    | .Name y _ => decide (y = Str.ofString x) && c.glo y && (match c.gc y with | some d' => same d' d | none => false)
    | _ => false
  | .tup es, e => match e with
    | .Tuple xs _ _ => decide (es.length ≤ 1000) && chkEs c es xs
    | _ => false
  | .lst es, e => match e with
    | .List xs _ => decide (es.length ≤ 1000) && chkEs c es xs
    | _ => false
  | .dnew, e => match e with
    | .Dict [] [] _ => true
    | _ => false
  | .bin o a b, e => match e with
    | .BinOp l op r _ => decide (op = opOf o) && chkE c a l && chkE c b r
    | _ => false
  | .lrep es k, e => match e with
    | .BinOp (.List xs _) op r _ => decide (op = .Mult) && decide (es.length ≤ 1000) && chkEs c es xs && chkE c k r
    | _ => false
  | .neg a, e => match e with
    | .UnaryOp op x _ => decide (op = .USub) && chkE c a x
    | _ => false
  | .not a, e => match e with
    | .UnaryOp op x _ => decide (op = .Not) && notIte a && chkE c a x
    | _ => false
  | .and es, e => match e with
    | .BoolOp op xs _ => decide (op = .And) && !es.isEmpty && es.all notIte && chkEs c es xs
    | _ => false
  | .or es, e => match e with
    | .BoolOp op xs _ => decide (op = .Or) && !es.isEmpty && es.all notIte && chkEs c es xs
    | _ => false
  | .cmp o a b, e => match e with
    | .Compare l ops rs _ => (match ops, rs with
      | [op], [r] => decide (op = cmpOf o) && plainE r && chkE c a l && chkE c b r
      | _, _ => false)
    | _ => false
  | .chain o p a b d, e => match e with
    | .Compare l ops rs _ => (match ops, rs with
      | [op, op2], [r, r2] => decide (op = cmpOf o) && decide (op2 = cmpOf p) && plainE r2 && chkE c a l && chkE c b r && chkE c d r2
      | _, _ => false)
    | _ => false
  | .ite t a b, e => match e with
    | .IfExp x y z _ => notIte t && chkE c t x && chkE c a y && chkE c b z
    | _ => false
  | .call f ks es, e => match e with
    | .Call (.Name x _) xs [] _ => decide (c.nm f = some x) && c.glo x && chkEs c es xs
    | _ => false
  | .bi b es, e => match e with
    | .Call (.Name x _) xs [] _ => (biOk b && decide (x = biName b) && c.glo x && !es.isEmpty && chkEs c es xs) || (match xs with
      | [w] => (match w with
        | .Call (.Name y _) zs [] _ => (decide (b = .lenset) && decide (x = "len") || decide (b = .sortset) && decide (x = "sorted")) && decide (y = "set") && c.glo x && c.glo y && decide (es.length = 1) && chkEs c es zs
        | _ => false)
      | _ => false)
    | _ => false
  | .isi t a, e => match e with
    | .Call (.Name x _) xs [] _ => (match xs with
      | [y, .Name T _] => decide (x = "isinstance") && c.glo x && decide (T = Str.ofString (tyName t)) && c.glo T && plainE y && chkE c a y
      | _ => false)
    | _ => false
  | .idx o i, e => match e with
    | .Subscript x y _ => plainE y && chkE c o x && chkE c i y
    | _ => false
  | .slc o lo hi, e => match e with
    | .Subscript x (.Slice l h none _) _ => chkE c o x && chkO c lo l && chkO c hi h
    | _ => false
  | .rev o, e => match e with
    | .Subscript x (.Slice none none (some (.UnaryOp .USub (.Constant (.int 1) _ _) _)) _) _ => chkE c o x
    | _ => false
  | .index o a, e => match e with
    | .Call (.Attribute (.Name x px) m ap) xs [] cp => (match xs with
      | [y] => decide (m = "index") && decide (ap.endLine = cp.line) && plainE y && chkE c o (.Name x px) && chkE c a y
      | _ => false)
    | _ => false
  | .comp own t it cs elt, e => match e with
    | .ListComp el gs sc2 _ => (match gs with
      | [⟨tg, iter, ifs, as⟩] => decide (as = 0) && decide (sc2.kind = .function) && blkC c.N c.sc sc2 (ownOf c.N own) && (tnames t).all (fun j => decide (j ∈ own)) && plainE iter && (chkI c it tg iter || chkE c it iter) && chkT (c.blk sc2) t tg && decide (cs.length ≤ 1) && cs.all notIte && chkEs (c.blk sc2) cs ifs && chkE (c.blk sc2) elt el
      | _ => false)
    | _ => false
  | .comp2 own t it cs own2 t2 it2 cs2 elt, e => match e with
    | .ListComp el gs sc2 _ => (match gs with
      | [⟨tg, iter, ifs, as⟩, ⟨tg2, iter2, ifs2, as2⟩] => decide (as = 0) && decide (as2 = 0) && decide (sc2.kind = .function) && blkC c.N c.sc sc2 (ownOf c.N own) && (tnames t).all (fun j => decide (j ∈ own)) && (tnames t2).all (fun j => decide (j ∈ own2)) && own2.all (fun j => decide (j ∈ own)) && plainE iter && plainE iter2 &&
          (chkI c it tg iter || chkE c it iter) && chkT (c.blk sc2) t tg && decide (cs.length ≤ 1) && cs.all notIte && chkEs (c.blk sc2) cs ifs && (chkI (c.blk sc2) it2 tg2 iter2 || chkE (c.blk sc2) it2 iter2) && chkT (c.blk sc2) t2 tg2 && decide (cs2.length ≤ 1) && cs2.all notIte && chkEs (c.blk sc2) cs2 ifs2 && chkE (c.blk sc2) elt el
      | _ => false)
    | _ => false
  | .app i a, e => match e with
    | .Call (.Attribute (.Name x _) m ap) xs [] cp => (match xs with
      | [y] => decide (m = "append") && decide (ap.endLine = cp.line) && c.vis i x && plainE y && chkE c a y
      | _ => false)
    | _ => false
  | .ext i a, e => match e with
    | .Call (.Attribute (.Name x _) m ap) xs [] cp => (match xs with
      | [y] => decide (m = "extend") && decide (ap.endLine = cp.line) && c.vis i x && plainE y && chkE c a y
      | _ => false)
    | _ => false
  | .pop i, e => match e with
    | .Call (.Attribute (.Name x _) m ap) [] [] cp => decide (m = "pop") && decide (ap.endLine = cp.line) && c.vis i x
    | _ => false
  | .popAt i a, e => match e with
    | .Call (.Attribute (.Name x _) m ap) xs [] cp => (match xs with
      | [y] => decide (m = "pop") && decide (ap.endLine = cp.line) && c.vis i x && plainE y && chkE c a y
      | _ => false)
    | _ => false
  | .rem i a, e => match e with
    | .Call (.Attribute (.Name x _) m ap) xs [] cp => (match xs with
      | [y] => decide (m = "remove") && decide (ap.endLine = cp.line) && c.vis i x && plainE y && chkE c a y
      | _ => false)
    | _ => false
  | .listRng a, e => match e with
    | .Call (.Name x _) ws [] _ => (match ws with
      | [w] => (match w with
        | .Call (.Name y _) xs [] _ => (match xs with
          | [z] => decide (x = "list") && decide (y = "range") && c.glo x && c.glo y && plainE z && chkE c a z
          | _ => false)
        | _ => false)
      | _ => false)
    | _ => false
  | .tupRng a, e => match e with
    | .Call (.Name x _) ws [] _ => (match ws with
      | [w] => (match w with
        | .Call (.Name y _) xs [] _ => (match xs with
          | [z] => decide (x = "tuple") && decide (y = "range") && c.glo x && c.glo y && plainE z && chkE c a z
          | _ => false)
        | _ => false)
      | _ => false)
    | _ => false
  | _, _ => false
def chkEs (c : Ck) : List CE → List Expr → Bool
  | [], es => match es with
    | [] => true
    | _ => false
  | a :: as, es => match es with
    | [] => false
    | e :: es => plainE e && es.all plainE && chkE c a e && chkEs c as es
def chkO (c : Ck) : List CE → Option Expr → Bool
  | [], o => match o with
    | none => true
    | some _ => false
  | [a], o => match o with
    | none => false
    | some e => chkE c a e
  | _, _ => false
def chkI (c : Ck) : CE → Expr → Expr → Bool
  | .rng1 a, tg, e => match e with
    | .Call (.Name x _) xs [] _ => (match xs with
      | [y] => decide (x = "range") && c.glo x && plainE y && chkE c a y
      | _ => false)
    | _ => false
  | .rng2 a b, tg, e => match e with
    | .Call (.Name x _) xs [] _ => (match xs with
      | [y, z] => decide (x = "range") && c.glo x && plainE y && plainE z && chkE c a y && chkE c b z
      | _ => false)
    | _ => false
  | .zip a b, tg, e => match e with
    | .Call (.Name x _) xs [] _ => (match xs with
      | [y, z] => isTup tg && decide (x = "zip") && c.glo x && plainE y && plainE z && chkE c a y && chkE c b z
      | _ => false)
    | _ => false
  | .enum a, tg, e => match e with
    | .Call (.Name x _) xs [] _ => (match xs with
      | [y] => isTup tg && decide (x = "enumerate") && c.glo x && plainE y && chkE c a y
      | _ => false)
    | _ => false
  | _, _, _ => false
end
/-- what is walked -/
def chkW (c : Ck) (it : CE) (tg e : Expr) : Bool := chkI c it tg e || chkE c it e

end SLS

/-! ## S5b -/
set_option Elab.async false
set_option linter.all false
set_option autoImplicit false
set_option maxRecDepth 100000
set_option maxHeartbeats 400000
/-! Soundness 5b: sorted, least and greatest of data, len(set(..)). -/
namespace SLS
open PySem PySem.Spec PyProof.Rows L2
open SL (D Slot PV Res)
/-! ### sorted of a list or a tuple of alike data -/
section
variable {prog : Program} {w : World} {A : Around} {E : Value → Shared → Prop} {s : Shared} {β : Type}
theorem sorted_seq {it : Addr} {T : String} {o : Obj} {vs : List Value} {n : Nat} {bs : List β} {R : Value → β → Prop} {enc : β → PyData} {Q : Value → Shared → Prop} (hT : T = "list" ∨ T = "tuple") (ho : s.heap.get? it = some o) (hc : o.cls = .type T) (hd : o.data = .seq vs.toArray n)
    (e : PySem.W.EachIs R vs bs) (er : PySem.W.EachIs (fun v b => ∃ as, Reads s.heap v (enc b) as) vs bs) (hal : PySem.W.AllAlike (bs.map enc)) (hk : PySem.W.Sortable (bs.map enc)) (hL : bs.length ≤ sizeLine) (hu : ∀ b, b ∈ bs → A.units + 2 + (enc b).depth < cLine)
    (h : ∀ h' a out ep, (∀ b u, s.heap.get? b = some u → h'.get? b = some u) → s.heap.get? a = none → (∀ P ww H, HOk P ww H s.heap → H a = none) → h'.get? a = some (seqObj "list" (List.toArray out) ep) → out.length = bs.length → PySem.W.EachIs R out (bs.mergeSort (PySem.W.dataLe false enc)) → Q (.ref a) { s with heap := h' }) :
    wpAny (model prog w) A (call (.builtin "sorted") [.ref it]) Q E s := by
  have hvl : vs.length = bs.length := e.length
  refine Calls.call_function_entry PyProof.Rows.kind_sorted PyProof.Rows.plain_sorted PyProof.Rows.entry_sorted (PyProof.Rows.args_sorted1 _) ?_
  unfold Builtin.«sorted»
  refine wpAny_bind (m := checkCount "sorted" 1 1 _) (wpAny_pure ?_)
  refine wpAny_bind (wpAny_collect_seq it hT ho hc hd (fun h1 k1 => ?_) (by rw [List.size_toArray, hvl]; exact hL))
  refine wpAny_bind (wpAny_newList ?_ (by show vs.length ≤ sizeLine; rw [hvl]; exact hL))
  have et : (List.toArray vs).toList = vs := rfl
  show wpAny _ _ _ _ _ { s with heap := h1.push (seqObj "list" vs.toArray 0) }
  have ha : (h1.push (seqObj "list" vs.toArray 0)).get? h1.objs.size = some (seqObj "list" vs.toArray 0) := Heap.get?_push_size _ rfl
  have k2 : ∀ b u, s.heap.get? b = some u → (h1.push (seqObj "list" vs.toArray 0)).get? b = some u := fun b u q => Heap.get?_push_of_some _ (k1 b u q)
  have nea : ∀ b u, s.heap.get? b = some u → b ≠ h1.objs.size := fun b u q z => absurd (Heap.lt_size (k1 b u q)) (by rw [z]; exact Nat.lt_irrefl _)
  have k3 : ∀ b u, s.heap.get? b = some u → (PySem.W.sortingHeap (h1.push (seqObj "list" vs.toArray 0)) h1.objs.size vs).get? b = some u := fun b u q => PySem.W.sortingHeap_old (nea b u q) (k2 b u q)
  have er2 : PySem.W.EachIs (fun v b => ∃ as, Reads (PySem.W.sortingHeap (h1.push (seqObj "list" vs.toArray 0)) h1.objs.size vs) v (enc b) as) vs bs := er.mono fun _ _ ⟨as, r⟩ => ⟨as, PyProof.Rows.Reads.keeps k3 r⟩
  refine wpAny_bind (wpAny_holding (wpAny_call_entry_kw PyProof.Rows.slot_list_sort ⟨_, ha, rfl⟩ PyProof.Rows.entry_list_sort ?body (PyProof.Rows.args_list_sort _)))
  case body =>
    show wpAny (model prog w) A.in1.in1 (Builtin.«list.sort» ⟨[.ref h1.objs.size], []⟩) _ _ _
    refine wpAny_mono (PySem.W.list_sort_vals (A := A.in1.in1) (s := { s with heap := h1.push (seqObj "list" vs.toArray 0) }) (P := fun f s' => f = .done (.ret .none) ∧ s' = { s with heap := PyProof.Rows.sortedHeap (h1.push (seqObj "list" vs.toArray 0)) h1.objs.size vs (PySem.W.sortVals (PySem.W.dataKind (PySem.W.sortingHeap (h1.push (seqObj "list" vs.toArray 0)) h1.objs.size vs) (bs.map enc)) false vs vs).toArray }) ha (PySem.W.SortsAt.data (s := { s with heap := PySem.W.sortingHeap (h1.push (seqObj "list" vs.toArray 0)) h1.objs.size vs }) (PySem.W.each_map (R := fun v d => ∃ as, Reads (PySem.W.sortingHeap (h1.push (seqObj "list" vs.toArray 0)) h1.objs.size vs) v d as) enc er2) hal hk (PySem.W.bound_map hu)) (by rw [hvl]; exact hL) ⟨rfl, rfl⟩) (fun f s' hf => ?_) fun _ _ z => z
    obtain ⟨rfl, rfl⟩ := hf
    refine ⟨_, rfl, wpAny_pure ⟨_, rfl, ?_⟩⟩
    obtain ⟨ep, he⟩ := PyProof.Rows.sortedHeap_at (vs := vs) (out := (PySem.W.sortVals (PySem.W.dataKind (PySem.W.sortingHeap (h1.push (seqObj "list" vs.toArray 0)) h1.objs.size vs) (bs.map enc)) false vs vs).toArray) ha
    refine h _ _ _ ep (fun b u q => ?_) ?_ (fun P ww H ok => ?_) he ?_ (PySem.W.sortVals_data false e er2 hal)
    · rw [PyProof.Rows.sortedHeap_old (nea b u q) (Heap.lt_size (k2 b u q))]; exact k2 b u q
    · cases q : s.heap.get? h1.objs.size with
      | none => rfl
      | some u => exact absurd rfl (nea _ u q)
    · cases q : H h1.objs.size with
      | none => rfl
      | some u => exact absurd ((ok.kept k1).lt q) (Nat.lt_irrefl _)
    · rw [PySem.W.sortVals_length false rfl]; exact hvl
end

theorem like_all {ds : List D} (h : SL.alikeAll ds = true) : ∀ x ∈ ds, ∀ y ∈ ds, x.like y = true := fun x hx y hy => by
  unfold SL.alikeAll at h
  exact List.all_eq_true.mp (List.all_eq_true.mp h x hx) y hy
theorem plains_mem : ∀ {ds : List D}, D.plains ds = true → ∀ d ∈ ds, d.plain = true
  | [], _, d, hd => nomatch hd
  | x :: xs, h, d, hd => by
    rw [D.plains, Bool.and_eq_true] at h
    rcases List.mem_cons.mp hd with rfl | hd
    · exact h.1
    · exact plains_mem h.2 d hd
theorem depths_mem : ∀ {ds : List D}, ∀ d ∈ ds, d.depth ≤ D.depths ds
  | [], d, hd => nomatch hd
  | x :: xs, d, hd => by
    rw [D.depths]
    rcases List.mem_cons.mp hd with rfl | hd
    · exact Nat.le_max_left ..
    · exact Nat.le_trans (depths_mem d hd) (Nat.le_max_right ..)
theorem fine_lst {ds : List D} (h : (D.lst ds).fine = true) : D.plains ds = true ∧ ∀ d ∈ ds, (toP d).depth ≤ 60 := by
  refine ⟨fine_plain h, fun d hd => ?_⟩
  unfold SL.D.fine at h
  rw [Bool.and_eq_true] at h
  have z := of_decide_eq_true h.2
  rw [D.depth] at z
  have := depths_mem d hd
  have := depth_toP d
  omega
theorem each_zip {K : PySem.W.Frag} {F : Hp} : ∀ {vs : List V} {ds : List D} {us : List Value}, Rps K F vs ds → Vals vs us → PySem.W.EachIs (fun u (p : V × D) => RelV p.1 u) us (vs.zip ds)
  | _, _, _, .nil, .nil => .nil
  | _, _, _, .cons _ r, .cons h t => .cons h (each_zip r t)
theorem rps_mem {K : PySem.W.Frag} {F : Hp} : ∀ {vs : List V} {ds : List D}, Rps K F vs ds → ∀ p ∈ vs.zip ds, Rp K F p.1 p.2 ∧ p.2 ∈ ds
  | _, _, .nil, p, hp => nomatch hp
  | _, _, .cons h r, p, hp => by
    rcases List.mem_cons.mp hp with rfl | hp
    · exact ⟨h, List.mem_cons_self ..⟩
    · have := rps_mem r p hp
      exact ⟨this.1, List.mem_cons_of_mem _ this.2⟩
theorem rps_of {K : PySem.W.Frag} {F : Hp} : ∀ {ps : List (V × D)}, (∀ p ∈ ps, Rp K F p.1 p.2) → Rps K F (ps.map (·.1)) (ps.map (·.2))
  | [], _ => .nil
  | p :: ps, h => .cons (h p (List.mem_cons_self ..)) (rps_of fun q hq => h q (List.mem_cons_of_mem _ hq))
theorem each_vals : ∀ {us : List Value} {ps : List (V × D)}, PySem.W.EachIs (fun u (p : V × D) => RelV p.1 u) us ps → Vals (ps.map (·.1)) us
  | _, _, .nil => .nil
  | _, _, .cons h t => .cons h (each_vals t)
theorem sortable_of : ∀ {ds : List D}, SL.alikeAll ds = true → ds.all SL.headed = true → PySem.W.Sortable (ds.map toP)
  | [], _, _ => .inl fun d hd => nomatch hd
  | x :: xs, h1, h2 => by
    have h1 := like_all h1
    have h2 := List.all_eq_true.mp h2
    have hx := h1 x (List.mem_cons_self ..)
    cases x with
    | tup zs =>
      refine .inl fun d hd => ?_
      obtain ⟨y, hy, rfl⟩ := List.mem_map.mp hd
      have l := hx y hy
      have hh := h2 y hy
      cases y with
      | tup ws => cases ws with
        | nil => cases hh
        | cons w ws => exact ⟨toP w, toPs ws, by simp only [toP, toPs]⟩
      | _ => cases l
    | non => exact nomatch hx _ (List.mem_cons_self ..)
    | bl b => exact nomatch hx _ (List.mem_cons_self ..)
    | dct _ _ _ => exact nomatch hx _ (List.mem_cons_self ..)
    | wr _ => exact nomatch hx _ (List.mem_cons_self ..)
    | int i =>
      refine .inr fun d hd => ?_
      obtain ⟨y, hy, rfl⟩ := List.mem_map.mp hd
      have l := hx y hy
      cases y with
      | int j => exact ⟨fun z => (by simp only [toP] at z; cases z), fun xs z => (by simp only [toP] at z; cases z)⟩
      | _ => cases l
    | str i =>
      refine .inr fun d hd => ?_
      obtain ⟨y, hy, rfl⟩ := List.mem_map.mp hd
      have l := hx y hy
      cases y with
      | str j => exact ⟨fun z => (by simp only [toP] at z; cases z), fun xs z => (by simp only [toP] at z; cases z)⟩
      | _ => cases l
    | lst i =>
      refine .inr fun d hd => ?_
      obtain ⟨y, hy, rfl⟩ := List.mem_map.mp hd
      have l := hx y hy
      cases y with
      | lst j => exact ⟨fun z => (by simp only [toP] at z; cases z), fun xs z => (by simp only [toP] at z; cases z)⟩
      | _ => cases l
section
variable {X : Cx}
/-- sorted of what stands at a place -/
theorem sorted_at {pins : List (Addr × Obj)} {s : Shared} {σ : L2.St} {H F : Hp} {Q : VK} {a : Addr} {T : String} {o : Obj} {its : List Value} {n : Nat} {xs : List V} {ds : List D} (hu : X.A.units + 100 < cLine) (I : Inv X pins σ H s) (hT : T = "list" ∨ T = "tuple") (ho : s.heap.get? a = some o) (hc : o.cls = .type T) (hd : o.data = .seq its.toArray n)
    (rv : Vals xs its) (hz : xs.length ≤ sizeLine) (sub : Same F H) (r1 : Rps X.K F xs ds) (h1 : SL.alikeAll ds = true) (h2 : ds.all SL.headed = true) (h3 : (D.lst ds).fine = true)
    (k : ∀ v H', Made X.K F H (.mu (.lst (SL.sortD ds))) v H' → Q v H') :
    wpAny (model X.prog X.w) X.A (call (.builtin "sorted") [.ref a]) (EP X pins σ Q) X.xe s := by
  have hl := r1.length
  obtain ⟨f1, f2⟩ := fine_lst h3
  have hz2 : (xs.zip ds).length ≤ sizeLine := by rw [List.length_zip, hl, Nat.min_self, ← hl]; exact hz
  have e := each_zip r1 rv
  have la := like_all h1
  have em : (xs.zip ds).map (fun p : V × D => toP p.2) = ds.map toP := by
    have : (xs.zip ds).map (fun p : V × D => p.2) = ds := List.map_snd_zip (by omega)
    rw [← this, List.map_map, this]; rfl
  have hzip : ∀ p ∈ xs.zip ds, p.2 ∈ ds := fun p hp => (rps_mem r1 p hp).2
  refine sorted_seq (β := V × D) (enc := fun p => toP p.2) (R := fun u (p : V × D) => RelV p.1 u) hT ho hc hd e ?_ ?_ ?_ hz2 (fun b hb => ?_) fun h' a' out ep kk hn hH he ho' eo => ?_
  · have rd : ∀ {ps : List (V × D)} {us : List Value}, (∀ p ∈ ps, Rp X.K F p.1 p.2 ∧ p.2.plain = true) → PySem.W.EachIs (fun u (p : V × D) => RelV p.1 u) us ps → PySem.W.EachIs (fun u p => ∃ as, Reads s.heap u (toP p.2) as) us ps := by
      intro ps us hp ei
      induction ei with
      | nil => exact .nil
      | cons h t ih =>
        rename_i u p us ps
        refine .cons ?_ (ih fun q hq => hp q (List.mem_cons_of_mem _ hq))
        obtain ⟨r, pl⟩ := hp p (List.mem_cons_self ..)
        exact Dp.reads I _ _ _ (Rp.dp sub r pl) h
    exact rd (fun p hp => ⟨(rps_mem r1 p hp).1, plains_mem f1 _ (hzip p hp)⟩) e
  · rw [em]
    intro d hd d' hd'
    obtain ⟨x, hx, rfl⟩ := List.mem_map.mp hd
    obtain ⟨y, hy, rfl⟩ := List.mem_map.mp hd'
    exact like_toP x y (la x hx y hy)
  · rw [em]; exact sortable_of h1 h2
  · have := f2 _ (hzip b hb); omega
  · let bs := (xs.zip ds).mergeSort (PySem.W.dataLe false fun p : V × D => toP p.2)
    have hp : bs.Perm (xs.zip ds) := List.mergeSort_perm _ _
    have hb2 : bs.map (·.2) = SL.sortD ds := by
      have : (xs.zip ds).map (fun p : V × D => p.2) = ds := List.map_snd_zip (by omega)
      show ((xs.zip ds).mergeSort _).map (·.2) = _
      rw [List.map_mergeSort (s := fun x y => !y.lt x), this]
      · rfl
      · intro p hp q hq
        rw [PySem.W.dataLe_eq]
        show (!PySem.W.dataLt (toP q.2) (toP p.2)) = _
        rw [lt_toP _ _ (la _ (hzip q hq) _ (hzip p hp)) (plains_mem f1 _ (hzip q hq)) (plains_mem f1 _ (hzip p hp))]
    have hr : Rps X.K F (bs.map (·.1)) (SL.sortD ds) := by
      rw [← hb2]
      exact rps_of fun p hq => (rps_mem r1 p (hp.mem_iff.mp hq)).1
    have hq : H a' = none := hH _ _ _ I.hok
    have hlen : (bs.map (·.1)).length ≤ sizeLine := by rw [List.length_map, hp.length_eq]; exact hz2
    have vo : Vals (bs.map (·.1)) out := each_vals eo
    exact ⟨.ref a', upd H a' (.lst (bs.map (·.1))), I.laidN (t' := s.toks) kk hn hq ⟨hlen, out, ep, vo, he⟩, rfl, k _ _ ⟨a', _, hq, rfl, rfl, _, rfl, hr⟩⟩
theorem cb_sorted (hu : X.A.units + 100 < cLine) : CallR X (.builtin "sorted") (rBi X.K .sorted) := by
  intro pins s σ H xs us Q I r h
  obtain ⟨F, ds, p, sub, c, e, k⟩ := h
  obtain ⟨d, rfl, e⟩ := bi_one ⟨by decide, by decide⟩ e
  obtain ⟨v, rfl, cv⟩ := c.one
  cases d with
  | lst ds =>
    have e' : (if (SL.alikeAll ds && ds.all SL.headed && (D.lst ds).fine) = true then some (PV.mu (.lst (SL.sortD ds))) else none) = some p := e
    obtain ⟨hl, e'⟩ := ite_some e'
    cases e'
    obtain ⟨a, ys, rfl, h1, r1⟩ := cv
    obtain ⟨its, rv, hpl, hz⟩ := I.list h1
    obtain ⟨o, n, ho, hc, hdd, hs⟩ := hpl
    rw [Vals.ref1 r]
    rw [Bool.and_eq_true, Bool.and_eq_true] at hl
    exact sorted_at hu I (.inl rfl) ho hc hs rv hz sub r1 hl.1.1 hl.1.2 hl.2 k
  | tup ds =>
    have e' : (if (SL.alikeAll ds && ds.all SL.headed && (D.lst ds).fine) = true then some (PV.mu (.lst (SL.sortD ds))) else none) = some p := e
    obtain ⟨hl, e'⟩ := ite_some e'
    cases e'
    obtain ⟨a, ys, rfl, h1, r1, _⟩ := cv
    obtain ⟨its, rv, ⟨o, ho, hc, n, hs⟩, hz⟩ := I.tuple (.inl (.inl h1) : SqT X.K H a ys)
    rw [Vals.ref1 r]
    rw [Bool.and_eq_true, Bool.and_eq_true] at hl
    exact sorted_at hu I (.inr rfl) ho hc hs rv hz sub r1 hl.1.1 hl.1.2 hl.2 k
  | _ => cases e

/-! ### the least and the greatest -/
theorem minD_map {ds : List D} {d : D} : SL.alikeAll (d :: ds) = true → D.plains (d :: ds) = true → PySem.W.minD (toP d) (ds.map toP) = toP (SL.leastD d ds) ∧ SL.leastD d ds ∈ d :: ds := by
  intro hl hp
  have hl := like_all hl
  have hp := plains_mem hp
  have key : ∀ (es : List D) (m : D), m ∈ d :: ds → (∀ x ∈ es, x ∈ d :: ds) → (es.map toP).foldl (fun a y => if PySem.W.dataLt y a then y else a) (toP m) = toP (SL.leastD m es) ∧ SL.leastD m es ∈ d :: ds := by
    intro es
    induction es with
    | nil => intro m hm _; exact ⟨rfl, hm⟩
    | cons x es ih =>
      intro m hm hx
      have hx1 := hx x (List.mem_cons_self ..)
      rw [List.map_cons, List.foldl_cons, lt_toP x m (hl x hx1 m hm) (hp x hx1) (hp m hm)]
      rw [SL.leastD]
      cases q : x.lt m with
      | true => exact ih x hx1 fun y hy => hx y (List.mem_cons_of_mem _ hy)
      | false => exact ih m hm fun y hy => hx y (List.mem_cons_of_mem _ hy)
  exact key ds d (List.mem_cons_self ..) fun x hx => List.mem_cons_of_mem _ hx

mutual
theorem toP_inj : ∀ (a b : D), a.plain = true → b.plain = true → toP a = toP b → a = b
  | .non, b, _, hb, h => by
    cases b with
    | non => rfl
    | wr _ => exact nomatch hb
    | dct _ _ _ => exact nomatch hb
    | _ => simp only [toP] at h; cases h
  | .bl x, b, _, hb, h => by
    cases b with
    | bl y => simp only [toP] at h; injection h with h; rw [h]
    | wr _ => exact nomatch hb
    | dct _ _ _ => exact nomatch hb
    | _ => simp only [toP] at h; cases h
  | .int x, b, _, hb, h => by
    cases b with
    | int y => simp only [toP] at h; injection h with h; rw [h]
    | wr _ => exact nomatch hb
    | dct _ _ _ => exact nomatch hb
    | _ => simp only [toP] at h; cases h
  | .str x, b, _, hb, h => by
    cases b with
    | str y => simp only [toP] at h; injection h with h; rw [S_inj h]
    | wr _ => exact nomatch hb
    | dct _ _ _ => exact nomatch hb
    | _ => simp only [toP] at h; cases h
  | .tup xs, b, ha, hb, h => by
    cases b with
    | tup ys => simp only [toP] at h; injection h with h; rw [toPs_inj xs ys ha hb h]
    | wr _ => exact nomatch hb
    | dct _ _ _ => exact nomatch hb
    | _ => simp only [toP] at h; cases h
  | .lst xs, b, ha, hb, h => by
    cases b with
    | lst ys => simp only [toP] at h; injection h with h; rw [toPs_inj xs ys ha hb h]
    | wr _ => exact nomatch hb
    | dct _ _ _ => exact nomatch hb
    | _ => simp only [toP] at h; cases h
  | .wr _, _, ha, _, _ => nomatch ha
  | .dct _ _ _, _, ha, _, _ => nomatch ha
theorem toPs_inj : ∀ (a b : List D), D.plains a = true → D.plains b = true → toPs a = toPs b → a = b
  | [], [], _, _, _ => rfl
  | [], _ :: _, _, _, h => by simp only [toPs] at h; cases h
  | _ :: _, [], _, _, h => by simp only [toPs] at h; cases h
  | x :: xs, y :: ys, ha, hb, h => by
    rw [D.plains, Bool.and_eq_true] at ha hb
    simp only [toPs] at h
    injection h with h1 h2
    rw [toP_inj x y ha.1 hb.1 h1, toPs_inj xs ys ha.2 hb.2 h2]
end
theorem vals_at : ∀ {xs : List V} {us : List Value} {i : Nat} {u : Value}, Vals xs us → us[i]? = some u → ∃ x, xs[i]? = some x ∧ RelV x u
  | _, _, _, _, .nil, e => nomatch e
  | _, _, 0, _, .cons h _, e => by cases e; exact ⟨_, rfl, h⟩
  | _, _, i + 1, _, .cons _ t, e => vals_at (i := i) t e
/-- an item that reads as a datum of the list -/
theorem item_of {pins : List (Addr × Obj)} {s : Shared} {σ : L2.St} {H F : Hp} {its : List Value} {xs : List V} {ds : List D} {i : Nat} {u : Value} {h' : Heap} {d : D} {bs : List Addr} (I : Inv X pins σ H s) (rv : Vals xs its) (sub : Same F H) (r1 : Rps X.K F xs ds) (hp : D.plains ds = true) (hd : d.plain = true)
    (k : ∀ b o, s.heap.get? b = some o → h'.get? b = some o) (e : its[i]? = some u) (r : Reads h' u (toP d) bs) : ∃ v, RelV v u ∧ Rp X.K F v d := by
  obtain ⟨v, ev, rv1⟩ := vals_at rv e
  obtain ⟨d', ed, r2⟩ := r1.get' ev
  have hp' := plains_mem hp d' (List.mem_of_getElem? ed)
  obtain ⟨as, ra⟩ := Dp.reads I _ _ _ (Rp.dp sub r2 hp') rv1
  have := PySem.SeqAt.plain_unique _ _ _ _ _ (plain_toP _ hp') (PyProof.Rows.Reads.keeps k ra) r
  exact ⟨v, rv1, toP_inj _ _ hp' hd this ▸ r2⟩

theorem readsAll_of {pins : List (Addr × Obj)} {s : Shared} {σ : L2.St} {H F : Hp} {its : List Value} {xs : List V} {ds : List D} (I : Inv X pins σ H s) (rv : Vals xs its) (sub : Same F H) (r1 : Rps X.K F xs ds) (hp : D.plains ds = true) : ∃ as, ReadsAll s.heap its (ds.map toP) as := by
  rw [← toPs_map]
  exact Dp.readsAll I _ _ _ (Rps.dp sub r1 hp) rv
theorem alike_of {ds : List D} (h : SL.alikeAll ds = true) : PySem.W.AlikeAll (ds.map toP) := by
  have h := like_all h
  refine ⟨fun x hx y hy => ?_, fun x hx => ?_⟩
  · obtain ⟨a, ha, rfl⟩ := List.mem_map.mp hx
    obtain ⟨b, hb, rfl⟩ := List.mem_map.mp hy
    exact like_toP a b (h a ha b hb)
  · obtain ⟨a, ha, rfl⟩ := List.mem_map.mp hx
    have := h a ha a ha
    intro z
    cases a <;> first | (simp only [toP] at z; cases z; done) | cases this
theorem depthAll_of {ds : List D} (h : (D.lst ds).fine = true) : PyData.depthAll (ds.map toP) ≤ 60 := by
  unfold SL.D.fine at h
  rw [Bool.and_eq_true] at h
  have z := of_decide_eq_true h.2
  rw [D.depth] at z
  rw [← toPs_map]
  have := depths_toP ds
  omega
theorem cb_min (hc : X.calm = true) (hu : X.A.units + 100 < cLine) : CallR X (.builtin "min") (rBi X.K .min) := by
  intro pins s σ H xs us Q I r h
  obtain ⟨F, ds, p, sub, c, e, k⟩ := h
  obtain ⟨d, rfl, e⟩ := bi_one ⟨by decide, by decide⟩ e
  obtain ⟨v, rfl, cv⟩ := c.one
  have main : ∀ (ds : List D) (d : D) (es : List D), ds = d :: es → SL.alikeAll ds = true → (D.lst ds).fine = true → p = .sh (SL.leastD d es) → ∀ (ys : List V) (its : List Value), Vals ys its → Rps X.K F ys ds →
      (∀ (as : List Addr) (y : PyData) (zs : List PyData), ds.map toP = y :: zs → ReadsAll s.heap its (y :: zs) as → PySem.W.AlikeAll (y :: zs) → X.A.units + 1 + PyData.depthAll (y :: zs) < cLine → (∀ (i : Nat) u h' tk bs, its[i]? = some u → Reads h' u (PySem.W.minD y zs) bs → (∀ b o, s.heap.get? b = some o → h'.get? b = some o) → EP X pins σ Q u { s with heap := h', toks := tk }) → wpAny (model X.prog X.w) X.A (call (.builtin "min") us) (EP X pins σ Q) X.xe s) →
      wpAny (model X.prog X.w) X.A (call (.builtin "min") us) (EP X pins σ Q) X.xe s := by
    intro ds d es ed hl hf hp ys its rv r1 go
    subst ed hp
    obtain ⟨f1, f2⟩ := fine_lst hf
    obtain ⟨as, ra⟩ := readsAll_of I rv sub r1 f1
    have hd := depthAll_of hf
    obtain ⟨m1, m2⟩ := minD_map hl f1
    refine go as _ _ rfl ra (alike_of hl) ?_ fun i u h' tk bs eu rd kk => ?_
    · have hd' : PyData.depthAll (toP d :: es.map toP) ≤ 60 := hd
      omega
    · have rd' : Reads h' u (PySem.W.minD (toP d) (es.map toP)) bs := rd
      rw [m1] at rd'
      obtain ⟨v, rv1, rp⟩ := item_of I rv sub r1 f1 (plains_mem f1 _ m2) kk eu rd'
      exact ⟨v, H, I.kept kk, rv1, k _ _ (.inl ⟨rfl, rp⟩)⟩
  cases d with
  | lst ds =>
    have e' : (if (SL.alikeAll ds && (D.lst ds).fine) = true then (match ds with | d :: r => some (PV.sh (SL.leastD d r)) | [] => none) else none) = some p := e
    obtain ⟨hl, e'⟩ := ite_some e'
    obtain ⟨a, ys, rfl, h1, r1⟩ := cv
    obtain ⟨its, rv, hpl, hz⟩ := I.list h1
    rw [Bool.and_eq_true] at hl
    cases ds with
    | nil => cases e'
    | cons d es =>
      refine main (d :: es) d es rfl hl.1 hl.2 (Option.some.inj e').symm ys its rv r1 fun as y zs ey ra al un fin => ?_
      rw [Vals.ref1 r]
      exact PySem.W.min_list_data (I.ok.hd hc) hpl.isList (by simpa using ra) al un fun i u h' tk bs eu rd kk => fin i u h' tk bs (by simpa using eu) rd kk
  | tup ds =>
    have e' : (if (SL.alikeAll ds && (D.lst ds).fine) = true then (match ds with | d :: r => some (PV.sh (SL.leastD d r)) | [] => none) else none) = some p := e
    obtain ⟨hl, e'⟩ := ite_some e'
    obtain ⟨a, ys, rfl, h1, r1, _⟩ := cv
    obtain ⟨its, rv, hpl, hz⟩ := I.tuple (.inl (.inl h1) : SqT X.K H a ys)
    rw [Bool.and_eq_true] at hl
    cases ds with
    | nil => cases e'
    | cons d es =>
      refine main (d :: es) d es rfl hl.1 hl.2 (Option.some.inj e').symm ys its rv r1 fun as y zs ey ra al un fin => ?_
      rw [Vals.ref1 r]
      exact PySem.W.min_tuple_data (I.ok.hd hc) hpl (by simpa using ra) al un fun i u h' tk bs eu rd kk => fin i u h' tk bs (by simpa using eu) rd kk
  | _ => cases e
theorem most_fold : ∀ (xs : List Int) (m : Int), SL.most m xs = xs.foldl max m
  | [], m => rfl
  | x :: xs, m => by
    have e : SL.most m (x :: xs) = SL.most (if m < x then x else m) xs := rfl
    rw [e, most_fold xs, List.foldl_cons]
    congr 1
    by_cases h : m < x
    · rw [if_pos h]; omega
    · rw [if_neg h]; omega
theorem plains_int : ∀ ns : List Int, D.plains (ns.map D.int) = true
  | [] => by simp [D.plains]
  | n :: ns => by simp [D.plains, D.plain, plains_int ns]
theorem alike_int (ns : List Int) : SL.alikeAll (ns.map D.int) = true := by
  unfold SL.alikeAll
  simp [D.like]
theorem cb_max (hc : X.calm = true) (hu : X.A.units + 100 < cLine) : CallR X (.builtin "max") (rBi X.K .max) := by
  intro pins s σ H xs us Q I r h
  obtain ⟨F, ds, p, sub, c, e, k⟩ := h
  obtain ⟨d, rfl, e⟩ := bi_one ⟨by decide, by decide⟩ e
  obtain ⟨v, rfl, cv⟩ := c.one
  cases d with
  | lst ds =>
    have e' : (match SL.intsD ds with | some (x :: xs) => some (PV.sh (.int (SL.most x xs))) | _ => none) = some p := e
    cases q : SL.intsD ds with
    | none => rw [q] at e'; cases e'
    | some ns =>
      rw [q] at e'
      cases ns with
      | nil => cases e'
      | cons n ns =>
        cases e'
        obtain ⟨a, ys, rfl, h1, r1⟩ := cv
        obtain ⟨rfl, _⟩ := r1.intsD q
        obtain ⟨m1, m2⟩ := most_spec ns n
        refine cr_max hc pins s σ H _ us Q I r ⟨a, n :: ns, rfl, h1, by simp, fun m hm hle => k _ _ (.inl ⟨rfl, ?_⟩)⟩
        have : m = SL.most n ns := Int.le_antisymm (m2 m hm) (hle _ m1)
        rw [this]
        exact .int _
  | tup ds =>
    have e' : (match SL.intsD ds with | some (x :: xs) => some (PV.sh (.int (SL.most x xs))) | _ => none) = some p := e
    cases q : SL.intsD ds with
    | none => rw [q] at e'; cases e'
    | some ns =>
      rw [q] at e'
      cases ns with
      | nil => cases e'
      | cons n ns =>
        cases e'
        obtain ⟨a, ys, rfl, h1, r1, _⟩ := cv
        obtain ⟨rfl, ed⟩ := r1.intsD q
        obtain ⟨its, rv, hpl, hz⟩ := I.tuple (.inl (.inl h1) : SqT X.K H a _)
        rw [Vals.ref1 r]
        obtain ⟨as, ra⟩ := readsAll_of I rv sub r1 (by rw [ed]; exact plains_int (n :: ns))
        have em : ds.map toP = PyData.int n :: ns.map .int := by rw [ed, List.map_map]; rfl
        rw [em] at ra
        have al : PySem.W.AlikeAll (PyData.int n :: ns.map .int) := by rw [← em]; exact alike_of (by rw [ed]; exact alike_int (n :: ns))
        have dp : PyData.depthAll (PyData.int n :: ns.map .int) = 0 := PySem.W.depth_ints (n :: ns)
        refine PySem.W.max_tuple_data (I.ok.hd hc) hpl (by simpa using ra) al (by rw [dp]; omega) fun i u h' tk bs eu rd kk => ?_
        rw [PySem.W.maxD_ints] at rd
        cases rd
        refine ⟨.int _, H, I.kept kk, ⟨_, rfl⟩, k _ _ (.inl ⟨rfl, ?_⟩)⟩
        rw [most_fold]
        exact .int _
  | _ => cases e

/-! ### how many unlike ones -/
def unl : List Int → List Int
  | [] => []
  | x :: xs => x :: (unl xs).filter fun y => !y == x
theorem unl_mem : ∀ (xs : List Int) (k : Int), k ∈ unl xs ↔ k ∈ xs
  | [], _ => Iff.rfl
  | x :: xs, k => by
    rw [unl, List.mem_cons, List.mem_cons, List.mem_filter, unl_mem xs k]
    by_cases h : k = x
    · simp [h]
    · simp [h]
theorem unl_nodup : ∀ xs : List Int, (unl xs).Nodup
  | [] => List.nodup_nil
  | x :: xs => by
    rw [unl, List.nodup_cons]
    exact ⟨fun h => by have := (List.mem_filter.mp h).2; simp at this, (unl_nodup xs).filter _⟩
theorem unl_dedup : ∀ xs : List Int, SL.dedup (xs.map D.int) = (unl xs).map D.int
  | [] => rfl
  | x :: xs => by
    rw [List.map_cons, SL.dedup, unl_dedup xs, unl, List.map_cons, List.filter_map]
    congr 2
theorem unl_len {ns ks : List Int} (hn : ks.Nodup) (hm : ∀ k, k ∈ ks ↔ k ∈ ns) : ks.length = (SL.dedup (ns.map D.int)).length := by
  rw [unl_dedup, List.length_map]
  exact ((List.perm_ext_iff_of_nodup hn (unl_nodup ns)).mpr fun k => by rw [hm, unl_mem]).length_eq
theorem step_list (ns : List Int) : (ns.foldl PyProof.Rows.step_dedup []).Nodup ∧ ∀ k, k ∈ ns.foldl PyProof.Rows.step_dedup [] ↔ k ∈ ns := by
  have key : ∀ (ns acc : List Int), acc.Nodup → (ns.foldl PyProof.Rows.step_dedup acc).Nodup ∧ ∀ k, k ∈ ns.foldl PyProof.Rows.step_dedup acc ↔ k ∈ acc ∨ k ∈ ns := by
    intro ns
    induction ns with
    | nil => intro acc h; exact ⟨h, fun k => by simp⟩
    | cons x xs ih =>
      intro acc h
      rw [List.foldl_cons]
      by_cases q : acc.any (· == x) = true
      · have e : PyProof.Rows.step_dedup acc x = acc := if_pos q
        rw [e]
        obtain ⟨i1, i2⟩ := ih acc h
        obtain ⟨y, hy, ey⟩ := List.any_eq_true.mp q
        have ey : y = x := eq_of_beq ey
        refine ⟨i1, fun k => ?_⟩
        rw [i2, List.mem_cons]
        refine ⟨fun z => z.imp id .inr, fun z => ?_⟩
        rcases z with z | rfl | z
        · exact .inl z
        · exact .inl (ey ▸ hy)
        · exact .inr z
      · have e : PyProof.Rows.step_dedup acc x = acc ++ [x] := if_neg q
        rw [e]
        have hx : x ∉ acc := fun hx => q (List.any_eq_true.mpr ⟨x, hx, beq_self_eq_true x⟩)
        obtain ⟨i1, i2⟩ := ih (acc ++ [x]) (by
          rw [List.nodup_append]
          exact ⟨h, by simp, fun a ha b hb z => by rw [List.mem_singleton] at hb; subst hb; exact hx (z ▸ ha)⟩)
        refine ⟨i1, fun k => ?_⟩
        rw [i2, List.mem_append, List.mem_singleton, List.mem_cons]
        exact ⟨fun z => by rcases z with (z | z) | z <;> simp [z], fun z => by rcases z with z | z | z <;> simp [z]⟩
  obtain ⟨h1, h2⟩ := key ns [] List.nodup_nil
  exact ⟨h1, fun k => by rw [h2]; simp⟩
theorem firstMet_list (ns : List Int) : PyProof.Rows.firstMet (fun i => ns.getD i 0) ns.length = ns.foldl PyProof.Rows.step_dedup [] := by
  unfold PyProof.Rows.firstMet
  congr 1
  apply List.ext_getElem
  · simp
  · intro i h1 h2
    simp at h1
    simp [h1]
theorem ints_rel {K : PySem.W.Frag} : ∀ {ns : List Int} {us : List Value}, Vals (ns.map V.int) us → PyProof.Rows.IntsAre us ns
  | [], _, .nil => .nil
  | n :: ns, _, .cons r t => by
    obtain ⟨k, rfl⟩ := r
    exact .cons n k (ints_rel (K := K) t)
theorem pe_lenset {e : Expr} {t : TA} {p p2 q pos : Pos} (hc : X.calm = true) (hg : Gl X "len") (hm : X.mg "len" = none) (hg2 : Gl X "set") (hm2 : X.mg "set" = none) (ha : PA X [e] t) (hs : starEach [e] X.env = [(false, eval e X.env)]) :
    PE X (.Call (.Name "len" p) [.Call (.Name "set" p2) [e] [] q] [] pos) (tCB (rBi X.K .lenset) t) := by
  refine ⟨fun pins s σ H Q I h => ?_⟩
  refine Call_ (ld_blt I hg hm PySem.boot_len ?_)
  refine PyProof.Rows.callWith_builtin1 (PyProof.Rows.args_cons ?_ rfl) rfl rfl
  refine Call_ (ld_blt I hg2 hm2 PyProof.Rows.boot_set (PyProof.Rows.callWith_type1 (thn (ha.run q pins s σ H _ I h) fun us s1 ⟨vs, H1, I1, r1, q1⟩ => ?_) hs rfl))
  obtain ⟨F, ds, pv, sub, c, eb, k⟩ := q1
  obtain ⟨d, rfl, eb⟩ := bi_one ⟨by decide, by decide⟩ eb
  obtain ⟨v, rfl, cv⟩ := c.one
  have hd := I1.ok.hd hc
  cases d with
  | lst ds =>
    have e' : (match SL.intsD ds with | some _ => if ds.length ≤ 4000 then some (PV.sh (.int (SL.dedup ds).length)) else none | none => none) = some pv := eb
    cases hq : SL.intsD ds with
    | none => rw [hq] at e'; cases e'
    | some ns =>
      rw [hq] at e'
      obtain ⟨hl, e'⟩ := ite_some e'
      cases e'
      obtain ⟨a, ys, rfl, h1, r⟩ := cv
      obtain ⟨rfl, ed⟩ := r.intsD hq
      obtain ⟨its, rv, hpl, hz⟩ := I1.list h1
      have hlen : its.length = ns.length := by rw [← rv.length, List.length_map]
      have hnl : ns.length ≤ 4000 := by rw [ed, List.length_map] at hl; exact hl
      rw [Vals.ref1 r1]
      refine call_set_list (ns := ns) hd hpl.isList (by simpa using ints_rel (K := X.K) rv) (by rw [List.size_toArray, hlen]; unfold scanBound; omega) fun h' tk hS hk => ?_
      refine PyProof.Rows.args_nil ?_
      have hsz : its.toArray.size = ns.length := by rw [List.size_toArray, hlen]
      rw [hsz, firstMet_list] at hS
      obtain ⟨o, es, ep, tb, ho, hex, hdt, _, _, hb, hf, hn⟩ := hS
      have I2 : Inv X pins σ H1 { s1 with heap := h', toks := tk } := I1.kept fun b o e => hk b o (Heap.lt_size e) e
      obtain ⟨n1, n2⟩ := step_list ns
      have hcount : es.size = (SL.dedup ds).length := by rw [hn, ed]; exact unl_len n1 n2
      have hfit : (es.size : Int) < 2 ^ 63 := by unfold scanBound at hb; omega
      exact call_len_set ho hex hdt hf hfit ⟨.int (SL.dedup ds).length, H1, I2.tok _, ⟨_, by rw [hcount]⟩, k _ _ (.inl ⟨rfl, .int _⟩)⟩
  | tup ds =>
    have e' : (match SL.intsD ds with | some _ => if ds.length ≤ 4000 then some (PV.sh (.int (SL.dedup ds).length)) else none | none => none) = some pv := eb
    cases hq : SL.intsD ds with
    | none => rw [hq] at e'; cases e'
    | some ns =>
      rw [hq] at e'
      obtain ⟨hl, e'⟩ := ite_some e'
      cases e'
      obtain ⟨a, ys, rfl, h1, r, _⟩ := cv
      obtain ⟨rfl, ed⟩ := r.intsD hq
      obtain ⟨its, rv, hpl, hz⟩ := I1.tuple (.inl (.inl h1) : SqT X.K H1 a _)
      have hnl : ns.length ≤ 4000 := by rw [ed, List.length_map] at hl; exact hl
      rw [Vals.ref1 r1]
      refine call_set_tupI ns hd (show s1.heap.IsTuple a its.toArray from hpl) (by simpa using ints_rel (K := X.K) rv) (by unfold scanBound; omega) fun h' tk cn R hcn hk => ?_
      refine PyProof.Rows.args_nil ?_
      obtain ⟨o, es, ep, tb, ho, hex, hdt, g, nd, hm3, hb, hf, hn, _⟩ := R
      have I2 : Inv X pins σ H1 { s1 with heap := h', toks := tk } := I1.kept hk
      have hcount : es.size = (SL.dedup ds).length := by
        rw [ed, ← unl_len nd fun k => by rw [← hm3, decide_eq_true_eq]]
        simp
      have hfit : (es.size : Int) < 2 ^ 63 := by unfold scanBound at hb; omega
      exact call_len_set ho hex hdt hf hfit ⟨.int (SL.dedup ds).length, H1, I2.tok _, ⟨_, by rw [hcount]⟩, k _ _ (.inl ⟨rfl, .int _⟩)⟩
  | _ => cases eb
end
end SLS

/-! ## S5c -/
set_option Elab.async false
set_option linter.all false
set_option autoImplicit false
set_option maxRecDepth 100000
set_option maxHeartbeats 4000000
/-! Soundness 5c: sorted(set(..)) of ints. -/
namespace SLS
open PySem PySem.Spec PyProof.Rows L2
open SL (D Slot PV Res)
section
variable {Pg : Program} {ww : World} {Ar : Around} {Ex : Value → Shared → Prop} {z : Shared}
/-- an empty set, just made -/
def noSet (ww : World) : Obj := { cls := .type "set", dict := none, data := .set #[] 0 (.fresh 0 0 (!ww.params.followText "set-order")) }
set_option maxRecDepth 100000 in
set_option maxHeartbeats 3200000 in
theorem set_of_list {b : Addr} {its : Array Value} (ks : List Int) {Z : Value → Shared → Prop} (hq : Ar.handled = none) (hb : z.heap.IsList b its) (hi : IntsAre its.toList ks) (hs : ks.length + 1 < scanBound)
    (k : ∀ (g : Heap) (tk c : Nat), SetR ww g z.heap.objs.size (fun j => decide (j ∈ ks)) c → c ≤ ks.length → (∀ x y, z.heap.get? x = some y → g.get? x = some y) → Z (.ref z.heap.objs.size) { z with heap := g, toks := tk }) :
    wpAny (model Pg ww) Ar (call (.type "set") [.ref b]) Z Ex z := by
  have sz : its.size = ks.length := by have e := IntsAre.length hi; rw [Array.length_toList] at e; exact e
  obtain ⟨c0, tl0, m0⟩ := F.called_set.mro
  have m1 := F.called_set.made
  have m2 := F.called_set.sub
  refine wpAny_call (codeAny_of_tree ?_)
  show wpAny _ _ (callAny (.type "set") _) _ _ _
  refine wpAny_pure ⟨Code.quiet_builtin _ (by decide +kernel), codeAny_builtin F.entry_type_call ?_⟩
  rw [Around.under_plain (weight_type_call_type "set" [.ref b] []) rfl]
  have m3 := F.called_set.notType
  have m4 := F.called_set.canCreate
  have m5 := F.typeCall_set_1 (.ref b)
  repeat (any_goals (first | assumption | wp_step))
  refine codeAny_mono (code_set_led1 (.ref b) (E := Ex) (Q₁ := fun u s1 => u = .ref z.heap.objs.size ∧ s1 = { z with heap := z.heap.push (noSet ww) }) ⟨rfl, rfl⟩) fun rr s1 hr => ?_
  cases rr with
  | error e => exact hr
  | ok fl =>
    cases fl with
    | ret u =>
      obtain ⟨rfl, rfl⟩ := hr
      have hS : (z.heap.push (noSet ww)).get? z.heap.objs.size = some (noSet ww) := Heap.get?_push_size _ rfl
      have hT : Shared.TypeIs { z with heap := z.heap.push (noSet ww) } (.ref z.heap.objs.size) "set" := ⟨_, hS, rfl⟩
      have m6 := F.called_set.init.lookup
      have m7 := F.called_set.init.bind (.ref z.heap.objs.size)
      repeat (any_goals (first | assumption | wp_step))
      refine codeAny_mono (codeAny_call_builtin (R := wants (fun r s2 => r = .none ∧ ∃ g tk c, s2 = { z with heap := g, toks := tk } ∧ SetR ww g z.heap.objs.size (fun j => decide (j ∈ ks)) c ∧ c ≤ ks.length ∧
          (∀ x y, z.heap.get? x = some y → g.get? x = some y)) Ex) F.called_set.init.plain F.entry_set_init (check_set_init_1 hT ?_)) fun r2 s2 hr2 => ?_
      · obtain ⟨⟨ocls, odict, odata, oslots⟩, ho, hc, nx, hd⟩ := id hb
        simp only at hc hd
        subst hc
        subst hd
        have o1 : (z.heap.push (noSet ww)).get? b = some { cls := .type "list", dict := odict, data := .seq its nx, slots := oslots } := Heap.get?_push_of_some _ ho
        have n1 := F.sub_list_set
        have n2 := F.sub_list_frozenset
        have n3 : (Value.type "list" == Value.type "dict") = false := by decide
        have l1 : (z.heap.push (noSet ww)).IsList b its := ⟨_, o1, rfl, nx, rfl⟩
        unfold Builtin.«set.__init__» noKeywords Builtin.Frozenset.updateFrom
        generalize hIt : pyIter = It
        wp_walk
        subst hIt
        refine wpAny_pyIter_list l1 ?_
        refine wpAny_bind (wpAny_runValue ?_)
        have bS : b < z.heap.objs.size := Heap.lt_size ho
        have q3 : Ar.in1.in1.in1.handled = none := by simp [hq]
        have pz : (z.heap.push (noSet ww)).objs.size = z.heap.objs.size + 1 := Heap.size_push ..
        have bI : b ≠ (z.heap.push (noSet ww)).objs.size := by rw [pz]; exact Nat.ne_of_lt (Nat.lt_succ_of_lt bS)
        have sI : z.heap.objs.size ∉ [(z.heap.push (noSet ww)).objs.size, b] := by
          rw [pz]; simp only [List.mem_cons, List.not_mem_nil, or_false, not_or]
          exact ⟨Nat.ne_of_lt (Nat.lt_succ_self _), Nat.ne_of_gt bS⟩
        have vl : ∀ (i : Nat) (v : Value), its[i]? = some v → ∃ k t, ks[i]? = some k ∧ v = .int k t := fun i v hv => by
          have hi2 : i < ks.length := by rw [← sz]; exact (Array.getElem?_eq_some_iff.mp hv).1
          obtain ⟨t, e⟩ := PyProof.Rows.IntsAre.int_at hi i v (by rw [Array.getElem?_toList]; exact hv)
          exact ⟨ks[i], t, List.getElem?_eq_getElem hi2, by rw [e, List.getD_eq_getElem?_getD, List.getElem?_eq_getElem hi2] <;> rfl⟩
        refine set_update_ints ((Walks.list q3 _ b bI its).toS) z.heap.objs.size sI ks sz hs vl (its.size - 0) 0 _ (by omega) (Nat.zero_le _) ⟨⟨_, Heap.get?_push_size _ rfl, rfl, rfl⟩, (l1.push _)⟩ ?w0 ?w1
        case w0 =>
          have g0 : ((z.heap.push (noSet ww)).push { cls := .type "list_iterator", data := .fields #[.ref b, .int 0 0] }).get? z.heap.objs.size = some (noSet ww) := Heap.get?_push_of_some _ hS
          exact ⟨0, Nat.le_refl 0, setR_new_at g0⟩
        case w1 =>
          intro s9 c9 mv hc9 hS9
          obtain ⟨g9, gens9, drawn9, tk9, os9⟩ := s9
          have e1 : gens9 = z.gens := mv.gens
          have e2 : drawn9 = z.drawn := mv.drawn
          have e3 : os9 = z.os := mv.os
          subst e1
          subst e2
          subst e3
          show wpAny _ _ _ _ _ _
          refine wpAny_pure ?_
          show wpAny _ _ (ret Value.none) _ _ _
          rw [sz] at hc9
          refine wpAny_pure ⟨rfl, g9, tk9, c9, rfl, hS9, hc9, fun x y e => ?_⟩
          have x1 : x < z.heap.objs.size := Heap.lt_size e
          refine mv.heap x y ?_ (Heap.get?_push_of_some _ (Heap.get?_push_of_some _ e))
          simp only [List.mem_cons, List.not_mem_nil, or_false, not_or]
          exact ⟨Nat.ne_of_lt x1, by rw [pz]; exact Nat.ne_of_lt (Nat.lt_succ_of_lt x1)⟩
      · cases r2 with
        | error e => exact hr2
        | ok f2 =>
          cases f2 with
          | ret r =>
            obtain ⟨rfl, g, tk, c, rfl, w1, w2, w3⟩ := hr2
            repeat (any_goals (first | assumption | wp_step))
            exact k _ _ _ w1 w2 w3
          | _ => exact hr2.elim
    | _ => exact hr.elim
end
theorem insR_mem (k : Int) : ∀ (l : List Int) (y : Int), y ∈ SL.insR k l ↔ y = k ∨ y ∈ l
  | [], y => by simp [SL.insR]
  | x :: l, y => by
    unfold SL.insR
    split
    · simp
    · split
      · rename_i h1 h2
        subst h2
        simp
      · rw [List.mem_cons, insR_mem k l y, List.mem_cons]
        constructor
        · rintro (h | h | h)
          · exact .inr (.inl h)
          · exact .inl h
          · exact .inr (.inr h)
        · rintro (h | h | h)
          · exact .inr (.inl h)
          · exact .inl h
          · exact .inr (.inr h)
theorem insR_rise (k : Int) : ∀ l : List Int, l.Pairwise (· < ·) → (SL.insR k l).Pairwise (· < ·)
  | [], _ => by simp [SL.insR]
  | x :: l, h => by
    rw [List.pairwise_cons] at h
    unfold SL.insR
    split
    · rename_i h1
      rw [List.pairwise_cons]
      exact ⟨fun y hy => by
        rcases List.mem_cons.mp hy with rfl | hy
        · exact h1
        · have := h.1 y hy; omega, List.pairwise_cons.mpr h⟩
    · split
      · exact List.pairwise_cons.mpr h
      · rename_i h1 h2
        rw [List.pairwise_cons]
        exact ⟨fun y hy => by
          rcases (insR_mem k l y).mp hy with rfl | hy
          · omega
          · exact h.1 y hy, insR_rise k l h.2⟩
theorem riseI_mem : ∀ (l : List Int) (y : Int), y ∈ SL.riseI l ↔ y ∈ l
  | [], y => by simp [SL.riseI]
  | x :: l, y => by rw [SL.riseI, insR_mem, riseI_mem l y, List.mem_cons]
theorem riseI_rise : ∀ l : List Int, (SL.riseI l).Pairwise (· < ·)
  | [] => List.Pairwise.nil
  | x :: l => insR_rise x _ (riseI_rise l)
theorem rise_one {l m : List Int} (hl : l.Pairwise (· < ·)) (hm : m.Pairwise (· < ·)) (h : ∀ y, y ∈ l ↔ y ∈ m) : l = m := by
  have p : l.Perm m := (List.perm_ext_iff_of_nodup (hl.imp fun h => by omega) (hm.imp fun h => by omega)).mpr h
  exact List.Perm.eq_of_pairwise (fun a b _ _ h1 h2 => by omega) hl hm p
section
variable {X : Cx} {E : XK} {cl : Nat → Value}
theorem sort_end {pins : List (Addr × Obj)} {σ : L2.St} {H : Hp} {s : Shared} {Q : VK} {b : Addr} {ns : List Int} {c : Nat} (I : Inv X pins σ H s) (R : SetR X.w s.heap b (fun j => decide (j ∈ ns)) c) (hd : X.A.handled = none) (h64 : (SL.riseI ns).length < 64)
    (q : ∀ p : Addr, H p = none → Q (.ref p) (upd H p (.lst ((SL.riseI ns).map V.int)))) : wpAny (model X.prog X.w) X.A (call (.builtin "sorted") [.ref b]) (EP X pins σ Q) X.xe s := by
  have hc : c = (SL.riseI ns).length := by
    obtain ⟨o, es, ep, t, _, _, _, _, nd, hm, _, _, hn, _⟩ := R
    have p : (es.toList.map keyOf).Perm (SL.riseI ns) := (List.perm_ext_iff_of_nodup nd ((riseI_rise ns).imp fun h => by omega)).mpr fun y => by
      rw [← hm, riseI_mem, decide_eq_true_eq]
    have := p.length_eq
    rw [List.length_map, Array.length_toList, hn] at this
    exact this
  refine sorted_set R hd (by omega) fun s' p out k ms kp g o hp hg hi hs hm hl => ?_
  have em : ms = SL.riseI ns := rise_one hs (riseI_rise ns) fun y => by rw [hm, riseI_mem, decide_eq_true_eq]
  have hn : H p = none := I.hok.fresh hp
  have hlen : (ms.map V.int).length ≤ sizeLine := by rw [List.length_map, hl, sizeLine_eq]; omega
  have J : Inv X pins σ (upd H p (.lst (ms.map V.int))) { s with heap := s'.heap, gens := s'.gens, drawn := s'.drawn, toks := s'.toks } :=
    I.call (ch := []) (Un.laid kp hp hn) (I.hok.laid kp hp ⟨hlen, out.toList, k, vals_of_ints hi, hg⟩) (by rw [g]; exact I.bare) (fun _ z => nomatch z)
  have e : s' = { s with heap := s'.heap, gens := s'.gens, drawn := s'.drawn, toks := s'.toks } := by
    obtain ⟨_, _, _, _, _⟩ := s'
    obtain ⟨_, _, _, _, _⟩ := s
    cases o
    rfl
  rw [e]
  rw [em] at J
  exact ⟨.ref p, _, J, rfl, q p hn⟩
theorem pe_sortset {e : Expr} {t : TA} {p p2 q pos : Pos} (hc : X.calm = true) (hg : Gl X "sorted") (hm : X.mg "sorted" = none) (hg2 : Gl X "set") (hm2 : X.mg "set" = none) (ha : PA X [e] t) (hs : starEach [e] X.env = [(false, eval e X.env)]) :
    PE X (.Call (.Name "sorted" p) [.Call (.Name "set" p2) [e] [] q] [] pos) (tCB (rBi X.K .sortset) t) := by
  refine ⟨fun pins s σ H Q I h => ?_⟩
  refine Call_ (ld_blt I hg hm PyProof.Rows.boot_sorted ?_)
  refine PyProof.Rows.callWith_builtin1 (PyProof.Rows.args_cons ?_ rfl) rfl rfl
  refine Call_ (ld_blt I hg2 hm2 PyProof.Rows.boot_set (PyProof.Rows.callWith_type1 (thn (ha.run q pins s σ H _ I h) fun us s1 ⟨vs, H1, I1, r1, q1⟩ => ?_) hs rfl))
  obtain ⟨F, ds, pv, sub, c, eb, k⟩ := q1
  obtain ⟨d, rfl, eb⟩ := bi_one ⟨by decide, by decide⟩ eb
  obtain ⟨v, rfl, cv⟩ := c.one
  have hd := I1.ok.hd hc
  cases d with
  | lst ds =>
    have e' : (match SL.intsD ds with | some ns => if ds.length ≤ 4000 ∧ (SL.riseI ns).length < 64 then some (PV.mu (.lst ((SL.riseI ns).map .int))) else none | none => none) = some pv := eb
    cases hq : SL.intsD ds with
    | none => rw [hq] at e'; cases e'
    | some ns =>
      rw [hq] at e'
      obtain ⟨⟨hl, h64⟩, e'⟩ := ite_some e'
      cases e'
      obtain ⟨a, ys, rfl, h1, r⟩ := cv
      obtain ⟨rfl, ed⟩ := r.intsD hq
      obtain ⟨its, rv, hpl, hz⟩ := I1.list h1
      have hnl : ns.length ≤ 4000 := by rw [ed, List.length_map] at hl; exact hl
      rw [Vals.ref1 r1]
      refine set_of_list ns hd hpl.isList (by simpa using ints_rel (K := X.K) rv) (by unfold scanBound; omega) fun h' tk cn R hcn hk => ?_
      refine PyProof.Rows.args_nil ?_
      have I2 : Inv X pins σ H1 { s1 with heap := h', toks := tk } := I1.kept hk
      exact sort_end I2 R hd h64 fun p hp => k _ _ ⟨p, _, hp, rfl, rfl, _, rfl, Rps.of_map (fun i => .int i) _⟩
  | tup ds =>
    have e' : (match SL.intsD ds with | some ns => if ds.length ≤ 4000 ∧ (SL.riseI ns).length < 64 then some (PV.mu (.lst ((SL.riseI ns).map .int))) else none | none => none) = some pv := eb
    cases hq : SL.intsD ds with
    | none => rw [hq] at e'; cases e'
    | some ns =>
      rw [hq] at e'
      obtain ⟨⟨hl, h64⟩, e'⟩ := ite_some e'
      cases e'
      obtain ⟨a, ys, rfl, h1, r, _⟩ := cv
      obtain ⟨rfl, ed⟩ := r.intsD hq
      obtain ⟨its, rv, hpl, hz⟩ := I1.tuple (.inl (.inl h1) : SqT X.K H1 a _)
      have hnl : ns.length ≤ 4000 := by rw [ed, List.length_map] at hl; exact hl
      rw [Vals.ref1 r1]
      refine call_set_tupI ns hd (show s1.heap.IsTuple a its.toArray from hpl) (by simpa using ints_rel (K := X.K) rv) (by unfold scanBound; omega) fun h' tk cn R hcn hk => ?_
      refine PyProof.Rows.args_nil ?_
      have I2 : Inv X pins σ H1 { s1 with heap := h', toks := tk } := I1.kept hk
      exact sort_end I2 R hd h64 fun p hp => k _ _ ⟨p, _, hp, rfl, rfl, _, rfl, Rps.of_map (fun i => .int i) _⟩
  | _ => cases eb
end
end SLS

/-! ## S8b -/
set_option Elab.async false
set_option linter.all false
set_option autoImplicit false
set_option maxRecDepth 100000
/-! Soundness 8b: a list or a tuple turned round by a slice. -/
namespace SLS
open PySem PySem.Spec PyProof.Rows L2
open SL (D Slot PV Res Ag)
section
variable {prog : Program} {w : World} {A : Around} {E : Value → Shared → Prop} {s : Shared}
theorem adj_rev (n : Nat) : Builtin.Slice.sliceAdjust none none (-1) (n : Int) = ((n : Int) - 1, -1) := by
  unfold Builtin.Slice.sliceAdjust
  have h1 : ((-1 : Int) < 0) := by omega
  simp only [h1, if_true]
theorem plc_rev (n : Nat) : Builtin.Slice.slicePlaces ((n : Int) - 1) (-1) (-1) = n := by
  unfold Builtin.Slice.slicePlaces
  have h1 : ¬ ((-1 : Int) > 0) := by omega
  have h2 : (- (-1) : Int) = 1 := by omega
  simp only [h1, if_false, h2, Int.ediv_one]
  split <;> omega
theorem applied_rev {q : Addr} {u : Value} {n : Nat} {Z : Int × Int × Nat → Shared → Prop} (hq : s.heap.IsSliceOf q .none .none u) (pu : IsPart u (some (-1)))
    (hz : Z ((n : Int) - 1, -1, n) s) : wpAny (model prog w) A (Builtin.Slice.sliceApplied (.ref q) (pure (n : Int))) Z E s := by
  obtain ⟨o1, g1, g2, g3⟩ := id hq
  unfold Builtin.Slice.sliceApplied Builtin.Slice.sliceFields
  refine wpAny_bind (wpAny_bind (wpAny_field g1 g3 (x := .none) rfl (wpAny_bind (wpAny_field g1 g3 (x := .none) rfl (wpAny_bind (wpAny_field g1 g3 (x := u) rfl (wpAny_pure ?_)))))))
  refine wpAny_bind (HT.slicePart_ pu ?_)
  show wpAny _ _ (if ((-1 : Int) == 0) = true then _ else _) _ _ s
  rw [if_neg (by decide)]
  refine wpAny_bind (PyProof.Rows.slicePart_none (wpAny_bind (PyProof.Rows.slicePart_none (wpAny_bind (wpAny_pure ?_)))))
  show wpAny _ _ (match Builtin.Slice.sliceAdjust none none (-1) (n : Int) with | (a, b) => pure (a, (-1 : Int), Builtin.Slice.slicePlaces a b (-1))) _ _ s
  rw [adj_rev n]
  show wpAny _ _ (pure ((n : Int) - 1, (-1 : Int), Builtin.Slice.slicePlaces ((n : Int) - 1) (-1) (-1))) _ _ s
  rw [plc_rev]
  exact wpAny_pure hz
theorem fm_eq {α : Type} {f g : Nat → Option α} : ∀ l : List Nat, (∀ j ∈ l, f j = g j) → l.filterMap f = l.filterMap g
  | [], _ => rfl
  | x :: l, h => by
    rw [List.filterMap_cons, List.filterMap_cons, h x (List.mem_cons_self ..), fm_eq l fun j hj => h j (List.mem_cons_of_mem _ hj)]
theorem fm_all (m : List Value) : ((List.range m.length).filterMap fun j => m[j]?) = m := by
  have e2 : ((List.range m.length).filterMap fun j => m[j]?) = (List.range m.length).map fun j => m.getD j .none := by
    rw [← List.filterMap_eq_map]
    apply fm_eq
    intro j hj
    have hj : j < m.length := by simpa using hj
    simp [hj]
  rw [e2]
  apply List.ext_getElem?
  intro i
  by_cases h : i < m.length
  · simp [h]
  · simp [h]
theorem pick_back (xs : Array Value) : ((List.range xs.size).filterMap fun (j : Nat) => xs[((xs.size : Int) - 1 + (j : Int) * -1).toNat]?) = xs.toList.reverse := by
  have h1 : ∀ l : List Value, ((List.range l.length).filterMap fun (j : Nat) => l[((l.length : Int) - 1 + (j : Int) * -1).toNat]?) = l.reverse := by
    intro l
    have e : ((List.range l.length).filterMap fun (j : Nat) => l[((l.length : Int) - 1 + (j : Int) * -1).toNat]?) = (List.range l.length).filterMap fun j => l.reverse[j]? := by
      apply fm_eq
      intro j hj
      have hj : j < l.length := by simpa using hj
      rw [List.getElem?_reverse hj]
      congr 1; omega
    rw [e]
    have := fm_all l.reverse
    rw [List.length_reverse] at this
    exact this
  have := h1 xs.toList
  simpa using this
theorem get_tup_rev {t q : Addr} {its : Array Value} {u : Value} {Z : Value → Shared → Prop} (ht : IsTup s.heap t its) (hq : s.heap.IsSliceOf q .none .none u) (pu : IsPart u (some (-1)))
    (hz : Z (.ref s.heap.objs.size) { s with heap := s.heap.push { cls := .type "tuple", data := .seq its.toList.reverse.toArray } })
    (hn : its.size ≤ sizeLine) : wpAny (model prog w) A (getItem (.ref t) (.ref q)) Z E s := by
  have hfit : sizeOk (.seq its.toList.reverse.toArray) := by
    show its.toList.reverse.toArray.size ≤ sizeLine
    rw [List.size_toArray, List.length_reverse, Array.length_toList]
    exact hn
  obtain ⟨o1, g1, g2, g3⟩ := id hq
  have hS : s.TypeIs (.ref q) "slice" := ⟨o1, g1, g2⟩
  unfold getItem
  try with_reducible refine wpAny_holding ?_
  first | refine wpAny_bind (wpAny_pure ?_) | skip
  refine wpAny_bind (wpAny_sequenceKey ht.typeIs (by decide) ?_)
  refine wpAny_bind (wpAny_callSpecial?_slot (name := Str.ofString "__getitem__") ht.typeIs slot_tuple_getitem
    (wpAny_call_entry slot_tuple_getitem ht.typeIs PyProof.Rows.entry_tuple_getitem ?_ (PyProof.Rows.args_tuple_getitem _ _)))
  show wpAny _ _ (Builtin.Tuple.tupleItemsOf (.ref t) >>= _) _ _ s
  refine wpAny_bind (PyProof.Rows.tupleItemsOf_ ht ?_)
  refine wpAny_bind (wpAny_typeOf hS ?_)
  rw [if_pos (by decide)]
  refine wpAny_bind (applied_rev hq pu ?_)
  have hno : ¬ ((((its.size : Int) - 1) == 0 && (-1 : Int) == 1 && its.size == its.size) = true) := by
    intro z
    rw [Bool.and_eq_true, Bool.and_eq_true] at z
    exact absurd z.1.2 (by decide)
  show wpAny _ _ (if (((its.size : Int) - 1) == 0 && (-1 : Int) == 1 && its.size == its.size) = true then _ else _) _ _ s
  rw [if_neg hno, pick_back]
  first
    | exact wpAny_bind (m := Builtin.Tuple.tupleExact _) (wpAny_newObj_type (wpAny_pure ⟨_, rfl, wpAny_pure hz⟩) hfit)
    | exact wpAny_bind (m := Builtin.Tuple.tupleExact _) (wpAny_newObj_type (wpAny_bind (wpAny_pure (wpAny_pure ⟨_, rfl, wpAny_pure hz⟩))) hfit)
    | exact wpAny_bind (wpAny_bind (m := Builtin.Tuple.tupleExact _) (wpAny_newObj_type (wpAny_pure (wpAny_pure ⟨_, rfl, wpAny_pure hz⟩)) hfit))
    | exact wpAny_bind (wpAny_bind (m := Builtin.Tuple.tupleExact _) (wpAny_newObj_type (wpAny_pure ⟨_, rfl, wpAny_pure hz⟩) hfit))
end
section
variable {X : Cx} {E : XK} {cl : Nat → Value} {e : Expr} {pos : Pos} {r : List Slot → Res PV}
def tRv (K : PySem.W.Frag) (te : TE) : TE := fun σ H Q => te σ H fun x H1 => ∃ F dx p, Same F H1 ∧ Cn K F H1 x dx ∧ SL.revD dx = some p ∧ ∀ v H', Made K F H1 p v H' → Q v H'
theorem pe_rv {te : TE} {k : Nat} {p1 p2 p3 : Pos} (he : PE X e te) : PE X (.Subscript e (.Slice none none (some (.UnaryOp .USub (.Constant (.int 1) k p1) p2)) p3) pos) (tRv X.K te) := by
  refine ⟨fun pins s σ H Q I h => ?_⟩
  refine Subscript_ (thn (he.run pins s σ H _ I h) fun v s1 ⟨x, H1, I1, r1, q1⟩ => ?_)
  obtain ⟨F, dx, pv, sub, cx, hrv, q⟩ := q1
  have hstep : PO X (some (.UnaryOp .USub (.Constant (.int 1) k p1) p2)) (tPart (tUn (rU fun i => .int (-i)) (tC (.int 1)))) := po_some (pe_un un_neg pe_int)
  refine wpAny_Slice (thn (po_none.run pins s1 σ H1 (fun o H2 => o = none ∧ H2 = H1) I1 ⟨rfl, rfl⟩) fun vl s2 ⟨l, H2, I2, pl, el, e2⟩ => ?_)
  subst el e2
  refine thn (po_none.run pins s2 σ H2 (fun o H3 => o = none ∧ H3 = H2) I2 ⟨rfl, rfl⟩) fun vu s3 ⟨u, H3, I3, pu, eu, e3⟩ => ?_
  subst eu e3
  refine thn (hstep.run pins s3 σ H3 (fun o H4 => o = some (-1) ∧ H4 = H3) I3 ⟨1, rfl, -1, rfl, rfl, rfl⟩) fun vs s4 ⟨o, H4, I4, ps, eo, e4⟩ => ?_
  subst eo e4
  have I5 : Inv X pins σ H4 { s4 with heap := s4.heap.push { cls := .type "slice", data := .fields #[vl, vu, vs] } } := I4.kept (t' := s4.toks) fun b ob g => Heap.get?_push_of_some _ g
  cases pl
  cases pu
  cases dx with
  | lst ds =>
    cases hrv
    obtain ⟨a, xs, rfl, h1, w1⟩ := cx
    cases r1
    obtain ⟨its, rv, ht, hz⟩ := I5.list h1
    have hlen := rv.length
    show wpAny (model X.prog X.w) X.A (subscriptTail e (.Slice none none (some (.UnaryOp .USub (.Constant (.int 1) k p1) p2)) p3) (.ref a) (.ref s4.heap.objs.size)) (EP X pins σ Q) X.xe { s4 with heap := s4.heap.push { cls := .type "slice", data := .fields #[.none, .none, vs] } }
    refine tail_any (ops := [.ref a, .ref s4.heap.objs.size]) ht.isList.typeIs (PySem.slot_list_getitem.lookup) ?_ (by with_unfolding_all rfl)
    refine wpAny_getItem_list_slice ht.isList (Heap.IsSliceOf.new _ .none .none vs) .none .none ps (by decide) ?_ (by rw [List.size_toArray]; omega)
    rw [PySem.W.krv_pick]
    refine ⟨.ref _, _, I5.laid (t' := s4.toks) (o := .lst xs.reverse) (fun b ob g => Heap.get?_push_of_some _ g) (Nat.le_refl _) ?_, rfl, q _ _ ⟨_, _, I5.hok.fresh (Nat.le_refl _), rfl, rfl, _, rfl, w1.reverse⟩⟩
    exact ⟨by rw [List.length_reverse]; exact hz, _, 0, rv.reverse, Heap.get?_push_size _ rfl⟩
  | tup ds =>
    cases hrv
    obtain ⟨a, xs, rfl, h1, w1, f1⟩ := cx
    cases r1
    obtain ⟨its, rv, ht, hz⟩ := I5.tuple (.inl (.inl h1))
    have hlen : its.toArray.size = xs.length := by rw [List.size_toArray]; exact rv.length.symm
    show wpAny (model X.prog X.w) X.A (subscriptTail e (.Slice none none (some (.UnaryOp .USub (.Constant (.int 1) k p1) p2)) p3) (.ref a) (.ref s4.heap.objs.size)) (EP X pins σ Q) X.xe { s4 with heap := s4.heap.push { cls := .type "slice", data := .fields #[.none, .none, vs] } }
    refine tail_any (ops := [.ref a, .ref s4.heap.objs.size]) ht.typeIs (PyProof.Rows.slot_tuple_getitem.lookup) ?_ (by with_unfolding_all rfl)
    refine get_tup_rev ht (Heap.IsSliceOf.new _ .none .none vs) ps ?_ (by rw [hlen]; exact hz)
    refine ⟨.ref _, _, I5.laid (t' := s4.toks) (o := .tup xs.reverse) (fun b ob g => Heap.get?_push_of_some _ g) (Nat.le_refl _) ?_, rfl, q _ _ (.inr ⟨_, _, _, I5.hok.fresh (Nat.le_refl _), rfl, rfl, rfl, w1.reverse⟩)⟩
    exact ⟨by rw [List.length_reverse]; exact hz, _, rv.reverse, IsTup.new _ _⟩
  | non => cases hrv
  | bl _ => cases hrv
  | int _ => cases hrv
  | str _ => cases hrv
  | dct _ _ _ => cases hrv
  | wr _ => cases hrv
theorem e_rev {k : Nat} {p1 p2 p3 : Pos} (h : PE X e (RdE E cl X.K r)) : PE X (.Subscript e (.Slice none none (some (.UnaryOp .USub (.Constant (.int 1) k p1) p2)) p3) pos)
    (RdE E cl X.K fun ρ => (r ρ).bind fun p ρ1 => match SL.peek ρ1 p with | some x => SL.lift (SL.revD x) ρ1 | none => .stuck) := by
  refine PE.weak (pe_rv h) fun σ H Q ⟨C, F, ts, ρ, τ, a, o⟩ => ⟨C, F, ts, ρ, τ, a, o.bind.imp fun p ρ1 o1 v F1 H1 s1 p1 => ?_⟩
  obtain ⟨F2, s2, a2, w2⟩ := p1.opd
  cases q : SL.peek ρ1 p with
  | none => simp only [q] at o1; exact False.elim o1
  | some d =>
    simp only [q] at o1
    cases q2 : SL.revD d with
    | none => simp only [q2] at o1; exact False.elim o1
    | some pv =>
      simp only [q2] at o1
      refine ⟨F2, d, pv, a2.fs.sub, w2.cn a2 q, q2, fun v H' m => ?_⟩
      exact made_end a2 m fun v F' H' s' po => o1 v F' H' ((s1.trans s2).trans s') po
def rIdx (K : PySem.W.Frag) : V → List V → Hp → VK → Prop := fun x xs H Q => ∃ (a : Addr) (ns : List Int) (k : Int), x = V.ref a ∧ xs = [V.int k] ∧ SqL K H a (ns.map V.int) ∧ k ∈ ns ∧ Q (.int (ns.idxOf k : Nat)) H
theorem mt_idx : MtR X "list.index" (rIdx X.K) := by
  intro pins s σ H x xs v us Q I rx rxs h
  obtain ⟨a, ns, k, rfl, rfl, hq, hk, q⟩ := h
  cases rx
  cases rxs with
  | cons ry rt =>
    cases rt
    obtain ⟨t, rfl⟩ := ry
    obtain ⟨its, rv, hpl, hz⟩ := I.list hq
    have hl := rv.length
    rw [List.length_map] at hl
    refine SeqAt.list_index_ints hpl.isList (intsAre_of rv) (by simpa using hz) hk ?_
    exact ⟨.int (ns.idxOf k : Nat), H, I.tok _, ⟨_, rfl⟩, q⟩
variable {x : Str} {p apos cpos : Pos} {i : Nat}
theorem e_index {y : Expr} {r2 : List Slot → Res PV} (hv : PE X (.Name x p) (RdE E cl X.K r)) (he : PE X y (RdE E cl X.K r2)) (hp : plainE y = true) (hl : (apos.endLine == cpos.line) = true) : PE X (.Call (.Attribute (.Name x p) "index" apos) [y] [] cpos)
    (RdE E cl X.K fun ρ => (r ρ).bind fun p ρ1 => match SL.peek ρ1 p with
      | some (.lst _) => (r2 ρ1).bind fun q ρ2 => (match SL.peek ρ2 p, SL.peek ρ2 q with
        | some (.lst xs), some (.int k) => (match SL.intsD xs with
          | some ns => if k ∈ ns then .ok (.sh (.int (ns.idxOf k : Nat))) ρ2 else .stuck
          | none => .stuck)
        | _, _ => .stuck)
      | _ => .stuck) := by
  have st := star_plain (es := []) (env := X.env) hp
  have pm := pe_bm PySem.F.plainAttrs_list PySem.F.slot_list_index PySem.F.type_list_index (mt_idx (X := X)) hv (pa_cons he pa_nil st) rfl (by rw [st]; rfl) hl st rfl
  refine PE.weak pm fun σ H Q ⟨C, F, ts, ρ, τ, a, o⟩ => ⟨C, F, ts, ρ, τ, a, o.bind.imp fun p ρ1 o1 v F1 H1 s1 p1 => ?_⟩
  obtain ⟨F1', s1', a1, w1⟩ := p1.opd
  cases q0 : SL.peek ρ1 p with
  | none => simp only [q0] at o1; exact False.elim o1
  | some d0 =>
    cases d0 with
    | lst ds0 =>
      simp only [q0] at o1
      obtain ⟨b, ys, rfl, h1, _⟩ := w1.cn a1 q0
      refine ⟨.inl ⟨rfl, ys, h1⟩, ?_⟩
      refine ⟨C, F1', ts, ρ1, τ, a1, (o1.mono (s1.trans s1')).bind.imp fun q ρ2 o2 u F2 H2 s2 p2 => ?_⟩
      obtain ⟨F2', s2', a2, w2⟩ := p2.opd
      cases g1 : SL.peek ρ2 p with
      | none => simp only [g1] at o2; exact False.elim o2
      | some d1 =>
        cases g2 : SL.peek ρ2 q with
        | none => simp only [g1, g2] at o2; cases d1 <;> exact False.elim o2
        | some d2 =>
          cases d1 with
          | lst xs =>
            cases d2 with
            | int k =>
              simp only [g1, g2] at o2
              cases g3 : SL.intsD xs with
              | none => simp only [g3] at o2; exact False.elim o2
              | some ns =>
                simp only [g3] at o2
                by_cases hk : k ∈ ns
                case neg => rw [if_neg hk] at o2; exact False.elim o2
                rw [if_pos hk] at o2
                obtain ⟨b', ys', eb, h2, r2'⟩ := (w1.mono (s2.trans s2')).cn a2 g1
                obtain ⟨rfl, _⟩ := r2'.intsD g3
                have ck := w2.cn a2 g2
                exact ⟨b', ns, k, eb, congrArg (fun z => [z]) ck, h2, hk, o2 _ F2' H2 (((s1.trans s1').trans s2).trans s2') ⟨.int _, a2⟩⟩
            | _ => simp only [g1, g2] at o2; exact False.elim o2
          | _ => simp only [g1, g2] at o2; exact False.elim o2
    | _ => simp only [q0] at o1; exact False.elim o1
end
end SLS

/-! ## S17 -/
set_option Elab.async false
set_option linter.all false
set_option autoImplicit false
set_option maxRecDepth 100000
set_option maxHeartbeats 4000000
/-! Soundness 17: what is checked is sound: expressions. -/
namespace SLS
open PySem PySem.Spec PyProof.Rows L2
open SL (D Slot PV Res Ag Tgt CE)
theorem ff {a : Prop} (h : false = true) : a := absurd h Bool.false_ne_true
theorem and2 {a b : Bool} (h : (a && b) = true) : a = true ∧ b = true := Bool.and_eq_true_iff.mp h
theorem tr {p : Prop} [Decidable p] (h : decide p = true) : p := of_decide_eq_true h
theorem plains {env : Env} {e : Expr} {es : List Expr} (h : plainE e = true) : starEach (e :: es) env = (false, eval e env) :: starEach es env := star_plain h
section
variable {c : Ck} {Φ : SL.Fns} {cl : Nat → Value} {X : Cx} {E : XK}
theorem cst_ok {d : D} {e : Expr} (h : chkC d e = true) : PE X e (RdE E cl X.K fun ρ => .ok (.sh d) ρ) := by
  cases e with
  | Constant v k p =>
    cases d with
    | non => cases v with
      | none => exact e_cst pe_non fun F => .non
      | _ => exact ff h
    | bl b => cases v with
      | bool b' => have h := eq_of_beq (show (b == b') = true from h); subst h; exact e_cst pe_bl fun F => .bl _
      | _ => exact ff h
    | int b => cases v with
      | int b' => have h := eq_of_beq (show (b == b') = true from h); subst h; exact e_cst pe_int fun F => .int _
      | _ => exact ff h
    | str b => cases v with
      | str b' => have h := tr (show decide (b' = S b) = true from h); subst h; exact e_cst pe_str fun F => .str _
      | _ => exact ff h
    | _ => cases v <;> exact ff h
  | _ => cases d <;> exact ff h
theorem glb_ok (g : Good c Φ cl X E) {x : String} {d : D} {y : Str} {p : Pos} (h : (decide (y = Str.ofString x) && c.glo y && (match c.gc y with | some d' => same d' d | none => false)) = true) : PE X (.Name y p) (RdE E cl X.K fun ρ => .ok (.sh d) ρ) := by
  obtain ⟨h1, h2⟩ := and2 h
  obtain ⟨h3, h4⟩ := and2 h1
  cases q : c.gc y with
  | none => rw [q] at h2; exact ff h2
  | some d' =>
    rw [q] at h2
    have e := same_eq h2
    subst e
    obtain ⟨v, u, m, r, k⟩ := g.gl y _ q
    obtain ⟨gl, hd⟩ := g.glo h4
    exact e_cst (pe_glob gl m r hd) k
theorem bi_ok (g : Good c Φ cl X E) {b : SL.Bi} {x : Str} {p pos : Pos} {y : Expr} {ys : List Expr} {rs : List Slot → Res (List PV)} (h1 : biOk b = true) (h2 : x = biName b) (h3 : c.glo x = true) (hp : (y :: ys).all plainE = true) (ha : PA X (y :: ys) (RdP E cl X.K rs)) :
    PE X (.Call (.Name x p) (y :: ys) [] pos) (RdE E cl X.K fun ρ => (rs ρ).bind fun ps ρ1 => match ps.mapM (SL.peek ρ1) with | some ds => SL.lift (SL.bi b ds) ρ1 | none => .stuck) := by
  subst h2
  obtain ⟨hg, hd⟩ := g.glo h3
  simp only [List.all_cons, Bool.and_eq_true] at hp
  have st := star_plain (es := ys) (env := X.env) hp.1
  have bt := backTo_plain (env := X.env) (pos := pos) hp.2
  have B : ∀ {id : String}, CallR X (.builtin id) (rBi X.K b) → X.mg (biName b) = none → bootBuiltins (biName b) = some (.builtin id) → (biName b ≠ "__name__") → PE X (.Call (.Name (biName b) p) (y :: ys) [] pos) (RdE E cl X.K fun ρ => (rs ρ).bind fun ps ρ1 => match ps.mapM (SL.peek ρ1) with | some ds => SL.lift (SL.bi b ds) ρ1 | none => .stuck) :=
    fun hc hm hv hn => PE.weak (pe_callB hc hg hm hv ha hn hd st bt) fun σ H Q => bi_rd
  have T : ∀ {id : String}, CallR X (.type id) (rBi X.K b) → X.mg (biName b) = none → bootBuiltins (biName b) = some (.type id) → (biName b ≠ "__name__") → PE X (.Call (.Name (biName b) p) (y :: ys) [] pos) (RdE E cl X.K fun ρ => (rs ρ).bind fun ps ρ1 => match ps.mapM (SL.peek ρ1) with | some ds => SL.lift (SL.bi b ds) ρ1 | none => .stuck) :=
    fun hc hm hv hn => PE.weak (pe_callTy hc hg hm hv ha hn hd st bt) fun σ H Q => bi_rd
  cases b with
  | len => exact B cb_len (g.blt (by decide +kernel)) (by decide +kernel) (by decide +kernel)
  | abs => exact B cb_abs (g.blt (by decide +kernel)) (by decide +kernel) (by decide +kernel)
  | sorted => exact B (cb_sorted g.un) (g.blt (by decide +kernel)) (by decide +kernel) (by decide +kernel)
  | min => exact B (cb_min g.calm g.un) (g.blt (by decide +kernel)) (by decide +kernel) (by decide +kernel)
  | max => exact B (cb_max g.calm g.un) (g.blt (by decide +kernel)) (by decide +kernel) (by decide +kernel)
  | max2 => exact B (cb_max2 g.calm) (g.blt (by decide +kernel)) (by decide +kernel) (by decide +kernel)
  | min2 => exact B (cb_min2 g.calm) (g.blt (by decide +kernel)) (by decide +kernel) (by decide +kernel)
  | sum => exact B (cb_sum g.calm) (g.blt (by decide +kernel)) (by decide +kernel) (by decide +kernel)
  | all => exact B (cb_all g.calm) (g.blt (by decide +kernel)) (by decide +kernel) (by decide +kernel)
  | any => exact B (cb_any g.calm) (g.blt (by decide +kernel)) (by decide +kernel) (by decide +kernel)
  | tuple => exact T cb_tuple (g.blt (by decide +kernel)) (by decide +kernel) (by decide +kernel)
  | list => exact T (cb_list g.calm) (g.blt (by decide +kernel)) (by decide +kernel) (by decide +kernel)
  | int => exact T cb_int (g.blt (by decide +kernel)) (by decide +kernel) (by decide +kernel)
  | _ => exact ff h1
theorem ty_ok (g : Good c Φ cl X E) {t : SL.Ty} {p : Pos} (h : c.glo (Str.ofString (tyName t)) = true) : PE X (.Name (Str.ofString (tyName t)) p) (tC (.ty (tyName t))) := by
  obtain ⟨hg, hd⟩ := g.glo h
  cases t <;> exact pe_bltn hg (g.blt (by decide +kernel)) (by decide +kernel) rfl (by decide +kernel) hd
mutual
theorem sGt (g : Good c Φ cl X E) : ∀ {t : Tgt} {e : Expr}, chkT c t e = true → PG X e (RdG X.K t)
  | .nm i, e, h => by
    cases e with
    | Name x p =>
      obtain ⟨h1, h2, h3⟩ := g.tgt (i := i) (x := x) h
      exact g_nm (pg_name g.nodup h1 h2 h3)
    | _ => exact ff h
  | .tp ts, e, h => by
    cases e with
    | Tuple es k p =>
      have h : chkTs c ts es = true := h
      obtain ⟨h1, h2, h3⟩ := sGs g h
      exact g_tp g.calm h1 h2 h3
    | _ => exact ff h
theorem sGs (g : Good c Φ cl X E) : ∀ {ts : List Tgt} {es : List Expr}, chkTs c ts es = true → PGs X es (RdGs X.K ts) ∧ (assignEach es X.env).length = ts.length ∧ (assignEach es X.env).findIdx? (·.1) = none
  | [], es, h => by
    cases es with
    | nil => exact ⟨gs_nil, rfl, rfl⟩
    | cons _ _ => exact ff h
  | t :: ts, es, h => by
    cases es with
    | nil => exact ff h
    | cons e es =>
      obtain ⟨h1, h2⟩ := and2 (show (plainE e && chkT c t e && chkTs c ts es) = true from h)
      obtain ⟨h3, h4⟩ := and2 h1
      obtain ⟨i1, i2, i3⟩ := sGs g h2
      have i0 := sGt g h4
      have st : assignEach (e :: es) X.env = (false, assign e X.env) :: assignEach es X.env := by cases e <;> first | rfl | exact ff h3
      refine ⟨gs_cons i0 i1 (by rw [st]; rfl), by rw [st]; simp [i2], ?_⟩
      rw [st, List.findIdx?_cons]
      simp [i3]
end
theorem ownOf_snd (N : List Str) (own : List Nat) : (ownOf N own).map (·.2) = own := by
  unfold ownOf
  rw [List.map_map]
  exact (List.map_congr_left fun _ _ => rfl).trans (List.map_id own)
theorem and_one {a : CE} : (SL.evAnd Φ [a]) = fun ρ => SL.asB (SL.ev Φ a ρ) := by
  funext ρ
  show (SL.asB (SL.ev Φ a ρ)).bind (fun b ρ1 => if b = true then SL.evAnd Φ [] ρ1 else Res.ok false ρ1) = _
  exact bind_true
/-- the parts of a block's clause -/
theorem ts_nil : PTs X [] (RdB E cl X.K (SL.evAnd Φ [])) := PTs.weak pts_nil fun σ H Q ⟨C, F, ts, ρ, τ, a, o⟩ => o F H (Same.refl F) a
theorem ts_one {a : CE} {e : Expr} (h : PT X e (RdT E cl X.K (SL.ev Φ a))) : PTs X [e] (RdB E cl X.K (SL.evAnd Φ [a])) := by
  rw [and_one]
  exact pts_one h
/-- a comprehension's parts, checked -/
structure LcP (Φ : SL.Fns) (cl : Nat → Value) (X : Cx) (E : XK) (own : List (Str × Nat)) (t : Tgt) (it : CE) (cs : List CE) (elt : CE) (el tg iter : Expr) (ifs : List Expr) (scope : Scope) : Prop where
  hi : PI X tg iter (RdI E cl X.K fun ρ => SL.asIt (SL.ev Φ it ρ))
  ok : BlkOk X.N X.env.scope scope own
  hg : ∀ (s : Shared) (H : Hp) (C : Addr) (cells : List (Str × Addr)) (fp : List Addr), PG (X.blk s H scope (compEnvC scope cells C X.env) fp) tg (RdG X.K t)
  ht : ∀ (s : Shared) (H : Hp) (C : Addr) (cells : List (Str × Addr)) (fp : List Addr), PTs (X.blk s H scope (compEnvC scope cells C X.env) fp) ifs (RdB EF cl X.K (SL.evAnd Φ cs))
  he : ∀ (s : Shared) (H : Hp) (C : Addr) (cells : List (Str × Addr)) (fp : List Addr), PE (X.blk s H scope (compEnvC scope cells C X.env) fp) el (RdZ EF cl X.K fun ρ => SL.frzR (SL.ev Φ elt ρ))
  hs : ∀ x, foldedSetIterable iter X.env x = pure x
  hn : ∀ j ∈ tnames t, j ∈ own.map (·.2)
variable {own : List (Str × Nat)} {t t2 : Tgt} {it it2 : CE} {cs cs2 : List CE} {own2 : List Nat} {elt : CE} {el tg iter tg2 iter2 : Expr} {ifs ifs2 : List Expr} {scope : Scope}
structure LcP2 (Φ : SL.Fns) (cl : Nat → Value) (X : Cx) (E : XK) (own : List (Str × Nat)) (t : Tgt) (it : CE) (cs : List CE) (own2 : List Nat) (t2 : Tgt) (it2 : CE) (cs2 : List CE) (elt : CE) (el tg iter : Expr) (ifs : List Expr) (tg2 iter2 : Expr) (ifs2 : List Expr) (scope : Scope) : Prop where
  p : LcP Φ cl X E own t it cs elt el tg iter ifs scope
  hi1 : ∀ (s : Shared) (H : Hp) (C : Addr) (cells : List (Str × Addr)) (fp : List Addr), PI (X.blk s H scope (compEnvC scope cells C X.env) fp) tg2 iter2 (RdI EF cl X.K fun ρ => SL.asIt (SL.ev Φ it2 ρ))
  hg1 : ∀ (s : Shared) (H : Hp) (C : Addr) (cells : List (Str × Addr)) (fp : List Addr), PG (X.blk s H scope (compEnvC scope cells C X.env) fp) tg2 (RdG X.K t2)
  ht1 : ∀ (s : Shared) (H : Hp) (C : Addr) (cells : List (Str × Addr)) (fp : List Addr), PTs (X.blk s H scope (compEnvC scope cells C X.env) fp) ifs2 (RdB EF cl X.K (SL.evAnd Φ cs2))
  hs1 : ∀ env x, foldedSetIterable iter2 env x = pure x
  hn2 : ∀ j ∈ tnames t2, j ∈ own2
  h21 : ∀ j ∈ own2, j ∈ own.map (·.2)
theorem LcP.pe (P : LcP Φ cl X E own t it cs elt el tg iter ifs scope) (hc : X.calm = true) (hN : X.N.Nodup) {pos : Pos} : PE X (.ListComp el [⟨tg, iter, ifs, 0⟩] scope pos) (RdE E cl X.K (SL.ev Φ (.comp (own.map (·.2)) t it cs elt))) :=
  PE.weak (pe_lc hc hN P.hi P.ok P.hg P.ht P.he P.hs) fun σ H Q h => comp_rd P.hn (fun ρ pi ρ' e => asIt_items e) h
theorem LcP2.pe (P : LcP2 Φ cl X E own t it cs own2 t2 it2 cs2 elt el tg iter ifs tg2 iter2 ifs2 scope) (hc : X.calm = true) (hN : X.N.Nodup) {pos : Pos} : PE X (.ListComp el [⟨tg, iter, ifs, 0⟩, ⟨tg2, iter2, ifs2, 0⟩] scope pos) (RdE E cl X.K (SL.ev Φ (.comp2 (own.map (·.2)) t it cs own2 t2 it2 cs2 elt))) :=
  PE.weak (pe_lc2 hc hN P.p.hi P.p.ok P.h21 P.p.hg P.p.ht P.hi1 P.hg1 P.ht1 P.p.he P.p.hs P.hs1) fun σ H Q h => comp2_rd P.p.hn P.hn2 P.h21 (fun ρ pi ρ' e => asIt_items e) (fun ρ pi ρ' e => asIt_items e) h
theorem LcP.ps (P : LcP Φ cl X E own t it cs elt el tg iter ifs scope) (hc : X.calm = true) (hN : X.N.Nodup) {i : Nat} {y : Str} {py pos spos : Pos} (hy : X.N[i]? = some y) (hyl : X.env.scope.names.lookup y = some .local) (hsw : swapsWith (.ListComp el [⟨tg, iter, ifs, 0⟩] scope pos) (some (.Name y py)) spos.line X.env = pure true) :
    PS X (.Assign [.Name y py] (.ListComp el [⟨tg, iter, ifs, 0⟩] scope pos) spos) (RdS E cl X.K fun ρ => (SL.ev Φ (.comp (own.map (·.2)) t it cs elt) ρ).bind fun p ρ1 => (SL.store ρ1 i p).bind fun _ ρ2 => .ok .nx ρ2) :=
  PS.weak (ps_setLc hc hN hy hyl hsw P.hi P.ok P.hg P.ht P.he P.hs) fun D σ H h => comp_rd (Q := fun x H1 => gName i x σ H1 D.nx) P.hn (fun ρ pi ρ' e => asIt_items e) (asg_rd h)
theorem LcP2.ps (P : LcP2 Φ cl X E own t it cs own2 t2 it2 cs2 elt el tg iter ifs tg2 iter2 ifs2 scope) (hc : X.calm = true) (hN : X.N.Nodup) {i : Nat} {y : Str} {py pos spos : Pos} (hy : X.N[i]? = some y) (hyl : X.env.scope.names.lookup y = some .local) (hsw : swapsWith (.ListComp el [⟨tg, iter, ifs, 0⟩, ⟨tg2, iter2, ifs2, 0⟩] scope pos) (some (.Name y py)) spos.line X.env = pure true) :
    PS X (.Assign [.Name y py] (.ListComp el [⟨tg, iter, ifs, 0⟩, ⟨tg2, iter2, ifs2, 0⟩] scope pos) spos) (RdS E cl X.K fun ρ => (SL.ev Φ (.comp2 (own.map (·.2)) t it cs own2 t2 it2 cs2 elt) ρ).bind fun p ρ1 => (SL.store ρ1 i p).bind fun _ ρ2 => .ok .nx ρ2) :=
  PS.weak (ps_setLc2 hc hN hy hyl hsw P.p.hi P.p.ok P.h21 P.p.hg P.p.ht P.hi1 P.hg1 P.ht1 P.p.he P.p.hs P.hs1) fun D σ H h => comp2_rd (Q := fun x H1 => gName i x σ H1 D.nx) P.p.hn P.hn2 P.h21 (fun ρ pi ρ' e => asIt_items e) (fun ρ pi ρ' e => asIt_items e) (asg_rd h)
end
end SLS

/-! ## S18 -/
set_option Elab.async false
set_option linter.all false
set_option autoImplicit false
set_option maxRecDepth 100000
set_option maxHeartbeats 4000000
/-! Soundness 18: expressions. -/
namespace SLS
open PySem PySem.Spec PyProof.Rows L2
open SL (D Slot PV Res Ag Tgt CE)
section
variable {Φ : SL.Fns} {cl : Nat → Value}
/-- a test, by the forms that are no ifs -/
theorem test_ok {X : Cx} {E : XK} {e : Expr} {r : List Slot → Res PV} (h : PE X e (RdE E cl X.K r)) (hs : ∀ env whole, isTrue e env whole = (do let v ← whole; standAt e.pos; holding [v] (truthy v))) : PT X e (RdT E cl X.K r) := t_val h (hs X.env)
def P1 (Φ : SL.Fns) (cl : Nat → Value) (a : CE) : Prop := ∀ {c : Ck} {X : Cx} {E : XK} {e : Expr}, chkE c a e = true → Good c Φ cl X E → PE X e (RdE E cl X.K (SL.ev Φ a)) ∧ (notIte a = true → PT X e (RdT E cl X.K (SL.ev Φ a)))
def P2 (Φ : SL.Fns) (cl : Nat → Value) (as : List CE) : Prop := ∀ {c : Ck} {X : Cx} {E : XK} {es : List Expr}, chkEs c as es = true → Good c Φ cl X E →
  PA X es (RdL E cl X.K (SL.evs Φ as)) ∧ PA X es (RdP E cl X.K (SL.evp Φ as)) ∧ (∀ ks, PA X es (RdA E cl X.K (SL.evArgs Φ ks as))) ∧ (as.all notIte = true → Tests X E cl es (as.map fun a => SL.ev Φ a)) ∧ es.all plainE = true ∧ es.length = as.length ∧ PA X es (RdV E cl X.K (SL.evps Φ as))
theorem and_rs {as : List CE} : SL.evAnd Φ as = andR (as.map fun a => SL.ev Φ a) := by
  induction as with
  | nil => rfl
  | cons a as ih =>
    funext ρ
    show (SL.asB (SL.ev Φ a ρ)).bind (fun b ρ1 => if b = true then SL.evAnd Φ as ρ1 else Res.ok false ρ1) = (SL.asB (SL.ev Φ a ρ)).bind (fun b ρ1 => if b = true then andR (as.map fun a => SL.ev Φ a) ρ1 else Res.ok false ρ1)
    rw [ih]
theorem or_rs {as : List CE} : SL.evOr Φ as = orR (as.map fun a => SL.ev Φ a) := by
  induction as with
  | nil => rfl
  | cons a as ih =>
    funext ρ
    show (SL.asB (SL.ev Φ a ρ)).bind (fun b ρ1 => if b = true then Res.ok true ρ1 else SL.evOr Φ as ρ1) = (SL.asB (SL.ev Φ a ρ)).bind (fun b ρ1 => if b = true then Res.ok true ρ1 else orR (as.map fun a => SL.ev Φ a) ρ1)
    rw [ih]
theorem p2_nil : P2 Φ cl [] := fun {c X E es} h g => by
  cases es with
  | nil => exact ⟨a_nil, p_nil, fun _ => g_nil, fun _ => .nil, rfl, rfl, v_nil⟩
  | cons _ _ => exact ff h
theorem p2_cons {a : CE} {as : List CE} (ha : P1 Φ cl a) (has : P2 Φ cl as) : P2 Φ cl (a :: as) := fun {c X E es} h g => by
  cases es with
  | nil => exact ff h
  | cons e es =>
    obtain ⟨h1, h2⟩ := and2 (show (plainE e && es.all plainE && chkE c a e && chkEs c as es) = true from h)
    obtain ⟨h3, h4⟩ := and2 h1
    obtain ⟨h5, h6⟩ := and2 h3
    obtain ⟨pe, pt⟩ := ha h4 g
    obtain ⟨q1, q2, q3, q4, q5, q6, q7⟩ := has h2 g
    have st := star_plain (es := es) (env := X.env) h5
    refine ⟨a_cons pe q1 st, p_cons pe q2 st, fun ks => g_cons (b := ks.headD false) pe (q3 ks.tail) st, fun hn => ?_, by simp [h5, h6], by simp [q6], v_cons pe q7 st⟩
    simp only [List.all_cons, Bool.and_eq_true] at hn
    exact .cons (pt hn.1) pe (q4 hn.2)
theorem tst {a : CE} {X : Cx} {E : XK} {e : Expr} (h : PE X e (RdE E cl X.K (SL.ev Φ a))) (hs : ∀ env whole, isTrue e env whole = (do let v ← whole; standAt e.pos; holding [v] (truthy v))) : PE X e (RdE E cl X.K (SL.ev Φ a)) ∧ (notIte a = true → PT X e (RdT E cl X.K (SL.ev Φ a))) := ⟨h, fun _ => t_val h (hs X.env)⟩
theorem p1_var (i : Nat) : P1 Φ cl (.var i) := fun {c X E e} h g => by
  cases e with
  | Name x p => exact tst (e_var (g.vis h)) fun _ _ => rfl
  | _ => exact ff h
theorem p1_cst (d : D) : P1 Φ cl (.cst d) := fun {c X E e} h g => by
  have h' : chkC d e = true := h
  cases e with
  | Constant v k p => exact tst (cst_ok h') fun _ _ => rfl
  | _ => cases d <;> exact ff h'
theorem p1_glb (x : String) (d : D) : P1 Φ cl (.glb x d) := fun {c X E e} h g => by
  cases e with
  | Name y p => exact tst (glb_ok g h) fun _ _ => rfl
  | _ => exact ff h
theorem lim1000 {n : Nat} (h : n ≤ 1000) : n ≤ SL.lim := Nat.le_trans h (by decide)
theorem p1_tup {es : List CE} (ih : P2 Φ cl es) : P1 Φ cl (.tup es) := fun {c X E e} h g => by
  cases e with
  | Tuple xs k p =>
    obtain ⟨h1, h2⟩ := and2 (show (decide (es.length ≤ 1000) && chkEs c es xs) = true from h)
    exact tst (e_tup (ih h2 g).1 fun ρ ds ρ' e => by rw [evs_len e]; exact lim1000 (tr h1)) fun _ _ => rfl
  | _ => exact ff h
theorem p1_lst {es : List CE} (ih : P2 Φ cl es) : P1 Φ cl (.lst es) := fun {c X E e} h g => by
  cases e with
  | List xs p =>
    obtain ⟨h1, h2⟩ := and2 (show (decide (es.length ≤ 1000) && chkEs c es xs) = true from h)
    exact tst (e_lst (ih h2 g).1 fun ρ ds ρ' e => by rw [evs_len e]; exact lim1000 (tr h1)) fun _ _ => rfl
  | _ => exact ff h
theorem p1_dnew : P1 Φ cl .dnew := fun {c X E e} h g => by
  cases e with
  | Dict ks vs p =>
    cases ks with
    | nil => cases vs with
      | nil => exact tst e_dnew fun _ _ => rfl
      | cons _ _ => exact ff h
    | cons _ _ => exact ff h
  | _ => exact ff h
theorem p1_bin {o : SL.Op} {a b : CE} (iha : P1 Φ cl a) (ihb : P1 Φ cl b) : P1 Φ cl (.bin o a b) := fun {c X E e} h g => by
  cases e with
  | BinOp l op r p =>
    obtain ⟨h1, h2⟩ := and2 (show (decide (op = opOf o) && chkE c a l && chkE c b r) = true from h)
    obtain ⟨h3, h4⟩ := and2 h1
    have h3 := tr h3
    subst h3
    exact tst (e_bin o (iha h4 g).1 (ihb h2 g).1) fun _ _ => rfl
  | _ => exact ff h
theorem p1_lrep {es : List CE} {k : CE} (ihs : P2 Φ cl es) (ihk : P1 Φ cl k) : P1 Φ cl (.lrep es k) := fun {c X E e} h g => by
  cases e with
  | BinOp l op r p =>
    cases l with
    | List xs p1 =>
      obtain ⟨h1, h2⟩ := and2 (show (decide (op = .Mult) && decide (es.length ≤ 1000) && chkEs c es xs && chkE c k r) = true from h)
      obtain ⟨h3, h4⟩ := and2 h1
      obtain ⟨h5, h6⟩ := and2 h3
      have h5 := tr h5
      subst h5
      exact tst (e_lrep (ihs h4 g).1 (fun ρ ds ρ' e => by rw [evs_len e]; exact lim1000 (tr h6)) (ihk h2 g).1) fun _ _ => rfl
    | _ => exact ff h
  | _ => exact ff h
theorem p1_neg {a : CE} (ih : P1 Φ cl a) : P1 Φ cl (.neg a) := fun {c X E e} h g => by
  cases e with
  | UnaryOp op x p =>
    obtain ⟨h1, h2⟩ := and2 (show (decide (op = .USub) && chkE c a x) = true from h)
    have h1 := tr h1
    subst h1
    exact tst (e_neg (ih h2 g).1) fun _ _ => rfl
  | _ => exact ff h
theorem p1_not {a : CE} (ih : P1 Φ cl a) : P1 Φ cl (.not a) := fun {c X E e} h g => by
  cases e with
  | UnaryOp op x p =>
    obtain ⟨h1, h2⟩ := and2 (show (decide (op = .Not) && notIte a && chkE c a x) = true from h)
    obtain ⟨h3, h4⟩ := and2 h1
    have h3 := tr h3
    subst h3
    exact ⟨e_not (ih h2 g).1, fun _ => t_not ((ih h2 g).2 h4)⟩
  | _ => exact ff h
theorem tests_ne {X : Cx} {E : XK} {es : List Expr} {as : List CE} (hl : es.length = as.length) (hn : (!as.isEmpty) = true) : es ≠ [] := by
  intro e
  subst e
  cases as with
  | nil => cases hn
  | cons _ _ => simp at hl
theorem p1_and {es : List CE} (ih : P2 Φ cl es) : P1 Φ cl (.and es) := fun {c X E e} h g => by
  cases e with
  | BoolOp op xs p =>
    obtain ⟨h1, h2⟩ := and2 (show (decide (op = .And) && !es.isEmpty && es.all notIte && chkEs c es xs) = true from h)
    obtain ⟨h3, h4⟩ := and2 h1
    obtain ⟨h5, h6⟩ := and2 h3
    have h5 := tr h5
    subst h5
    obtain ⟨_, _, _, q4, _, q6, _⟩ := ih h2 g
    have ne := tests_ne (X := X) (E := E) q6 h6
    have t := q4 h4
    have e1 : SL.ev Φ (.and es) = fun ρ => (andR (es.map fun a => SL.ev Φ a) ρ).bind fun b ρ1 => .ok (.sh (.bl b)) ρ1 := by
      rw [← and_rs]; rfl
    rw [e1]
    exact ⟨e_and t ne, fun _ => t_of_b (w_and t ne)⟩
  | _ => exact ff h
theorem p1_or {es : List CE} (ih : P2 Φ cl es) : P1 Φ cl (.or es) := fun {c X E e} h g => by
  cases e with
  | BoolOp op xs p =>
    obtain ⟨h1, h2⟩ := and2 (show (decide (op = .Or) && !es.isEmpty && es.all notIte && chkEs c es xs) = true from h)
    obtain ⟨h3, h4⟩ := and2 h1
    obtain ⟨h5, h6⟩ := and2 h3
    have h5 := tr h5
    subst h5
    obtain ⟨_, _, _, q4, _, q6, _⟩ := ih h2 g
    have ne := tests_ne (X := X) (E := E) q6 h6
    have t := q4 h4
    have e1 : SL.ev Φ (.or es) = fun ρ => (orR (es.map fun a => SL.ev Φ a) ρ).bind fun b ρ1 => .ok (.sh (.bl b)) ρ1 := by
      rw [← or_rs]; rfl
    rw [e1]
    exact ⟨e_or t ne, fun _ => t_of_b (w_or t ne)⟩
  | _ => exact ff h
theorem p1_cmp {o : SL.Cmp} {a b : CE} (iha : P1 Φ cl a) (ihb : P1 Φ cl b) : P1 Φ cl (.cmp o a b) := fun {c X E e} h g => by
  cases e with
  | Compare l ops rs p =>
    match ops, rs, h with
    | [op], [r], h =>
      obtain ⟨h1, h2⟩ := and2 (show (decide (op = cmpOf o) && plainE r && chkE c a l && chkE c b r) = true from h)
      obtain ⟨h3, h4⟩ := and2 h1
      obtain ⟨h5, h6⟩ := and2 h3
      have h5 := tr h5
      subst h5
      exact ⟨e_cmp g.un o (iha h4 g).1 (ihb h2 g).1 (marks_plain h6), fun _ => t_cmp g.un o (iha h4 g).1 (ihb h2 g).1 (marks_plain h6)⟩
    | [], [], h => exact ff h
    | [], _ :: _, h => exact ff h
    | [_], [], h => exact ff h
    | [_], _ :: _ :: _, h => exact ff h
    | _ :: _ :: _, [], h => exact ff h
    | _ :: _ :: _, _ :: _, h => exact ff h
  | _ => exact ff h
theorem p1_chain {o p : SL.Cmp} {a b d : CE} (iha : P1 Φ cl a) (ihb : P1 Φ cl b) (ihd : P1 Φ cl d) : P1 Φ cl (.chain o p a b d) := fun {c X E e} h g => by
  cases e with
  | Compare l ops rs pos =>
    match ops, rs, h with
    | [op, op2], [r, r2], h =>
      obtain ⟨h1, h2⟩ := and2 (show (decide (op = cmpOf o) && decide (op2 = cmpOf p) && plainE r2 && chkE c a l && chkE c b r && chkE c d r2) = true from h)
      obtain ⟨h3, h4⟩ := and2 h1
      obtain ⟨h5, h6⟩ := and2 h3
      obtain ⟨h7, h8⟩ := and2 h5
      obtain ⟨h9, h10⟩ := and2 h7
      have h9 := tr h9
      have h10 := tr h10
      subst h9 h10
      have hm : lastMarks [cmpOf o, cmpOf p] [r, r2] = false := marks_plain (o := cmpOf p) h8
      exact ⟨e_chain g.un o p (iha h6 g).1 (ihb h4 g).1 (ihd h2 g).1 hm, fun _ => t_chain g.un o p (iha h6 g).1 (ihb h4 g).1 (ihd h2 g).1 hm⟩
    | [], _, h => exact ff h
    | [_], _, h => exact ff h
    | [_, _], [], h => exact ff h
    | [_, _], [_], h => exact ff h
    | [_, _], _ :: _ :: _ :: _, h => exact ff h
    | _ :: _ :: _ :: _, _, h => exact ff h
  | _ => exact ff h
theorem p1_ite {t a b : CE} (iht : P1 Φ cl t) (iha : P1 Φ cl a) (ihb : P1 Φ cl b) : P1 Φ cl (.ite t a b) := fun {c X E e} h g => by
  cases e with
  | IfExp x y z p =>
    obtain ⟨h1, h2⟩ := and2 (show (notIte t && chkE c t x && chkE c a y && chkE c b z) = true from h)
    obtain ⟨h3, h4⟩ := and2 h1
    obtain ⟨h5, h6⟩ := and2 h3
    exact ⟨e_ite ((iht h6 g).2 h5) (iha h4 g).1 (ihb h2 g).1, fun h => by cases h⟩
  | _ => exact ff h
theorem p1_call {f : Nat} {ks : List Bool} {es : List CE} (ih : P2 Φ cl es) : P1 Φ cl (.call f ks es) := fun {c X E e} h g => by
  cases e with
  | Call fe xs kws p =>
    cases fe with
    | Name x px =>
      cases kws with
      | nil =>
        obtain ⟨h1, h2⟩ := and2 (show (decide (c.nm f = some x) && c.glo x && chkEs c es xs) = true from h)
        obtain ⟨h3, h4⟩ := and2 h1
        obtain ⟨hg, hd⟩ := g.glo h4
        have F := g.fns f x (tr h3)
        obtain ⟨_, _, q3, _, q5, q6, _⟩ := ih h2 g
        cases xs with
        | nil =>
          cases es with
          | nil => exact tst (e_call0 F hg g.pass hd) fun _ _ => rfl
          | cons _ _ => simp at q6
        | cons y ys =>
          simp only [List.all_cons, Bool.and_eq_true] at q5
          exact tst (e_call F hg g.pass (q3 ks) hd (star_plain q5.1) (backTo_plain q5.2)) fun _ _ => rfl
      | cons _ _ => exact ff h
    | _ => exact ff h
  | _ => exact ff h
theorem p1_bi {b : SL.Bi} {es : List CE} (ih : P2 Φ cl es) : P1 Φ cl (.bi b es) := fun {c X E e} h g => by
  cases e with
  | Call fe xs kws p =>
    cases fe with
    | Name x px =>
      cases kws with
      | nil =>
        have h : ((biOk b && decide (x = biName b) && c.glo x && !es.isEmpty && chkEs c es xs) || (match (generalizing := false) xs with
          | [w] => (match (generalizing := false) w with
            | .Call (.Name y _) zs [] _ => (decide (b = .lenset) && decide (x = "len") || decide (b = .sortset) && decide (x = "sorted")) && decide (y = "set") && c.glo x && c.glo y && decide (es.length = 1) && chkEs c es zs
            | _ => false)
          | _ => false)) = true := h
        rcases Bool.or_eq_true_iff.mp h with h | h
        · obtain ⟨h1, h2⟩ := and2 h
          obtain ⟨h3, h4⟩ := and2 h1
          obtain ⟨h5, h6⟩ := and2 h3
          obtain ⟨h7, h8⟩ := and2 h5
          obtain ⟨_, q2, _, _, q5, q6, _⟩ := ih h2 g
          cases xs with
          | nil => exact absurd rfl (tests_ne (X := X) (E := E) q6 h4)
          | cons y ys => exact tst (bi_ok g h7 (tr h8) h6 q5 q2) fun _ _ => rfl
        · cases xs with
          | nil => exact ff h
          | cons w ws =>
            cases ws with
            | cons _ _ => exact ff h
            | nil =>
              cases w with
              | Call fe2 zs kws2 p3 =>
                cases fe2 with
                | Name y py =>
                  cases kws2 with
                  | cons _ _ => exact ff h
                  | nil =>
                    have h : ((decide (b = .lenset) && decide (x = "len") || decide (b = .sortset) && decide (x = "sorted")) && decide (y = "set") && c.glo x && c.glo y && decide (es.length = 1) && chkEs c es zs) = true := h
                    obtain ⟨h1, h2⟩ := and2 h
                    obtain ⟨h3, h4⟩ := and2 h1
                    obtain ⟨h5, h6⟩ := and2 h3
                    obtain ⟨h7, h8⟩ := and2 h5
                    obtain ⟨h9, h10⟩ := and2 h7
                    rcases Bool.or_eq_true_iff.mp h9 with h9 | h9
                    · obtain ⟨h11, h12⟩ := and2 h9
                      obtain rfl := tr h11
                      obtain rfl := tr h12
                      obtain rfl := tr h10
                      obtain ⟨_, q2, _, _, q5, q6, _⟩ := ih h2 g
                      have hl := tr h4
                      rw [hl] at q6
                      cases zs with
                      | nil => cases q6
                      | cons z zs =>
                        cases zs with
                        | cons _ _ => simp at q6
                        | nil =>
                          simp only [List.all_cons, Bool.and_eq_true] at q5
                          obtain ⟨hg1, _⟩ := g.glo h8
                          obtain ⟨hg2, _⟩ := g.glo h6
                          exact tst (PE.weak (pe_lenset g.calm hg1 (g.blt (by decide +kernel)) hg2 (g.blt (by decide +kernel)) q2 (star_plain q5.1)) fun σ H Q => bi_rd) fun _ _ => rfl
                    · obtain ⟨h11, h12⟩ := and2 h9
                      obtain rfl := tr h11
                      obtain rfl := tr h12
                      obtain rfl := tr h10
                      obtain ⟨_, q2, _, _, q5, q6, _⟩ := ih h2 g
                      have hl := tr h4
                      rw [hl] at q6
                      cases zs with
                      | nil => cases q6
                      | cons z zs =>
                        cases zs with
                        | cons _ _ => simp at q6
                        | nil =>
                          simp only [List.all_cons, Bool.and_eq_true] at q5
                          obtain ⟨hg1, _⟩ := g.glo h8
                          obtain ⟨hg2, _⟩ := g.glo h6
                          exact tst (PE.weak (pe_sortset g.calm hg1 (g.blt (by decide +kernel)) hg2 (g.blt (by decide +kernel)) q2 (star_plain q5.1)) fun σ H Q => bi_rd) fun _ _ => rfl
                | _ => exact ff h
              | _ => exact ff h
      | cons _ _ => exact ff h
    | _ => exact ff h
  | _ => exact ff h
theorem p1_isi {t : SL.Ty} {a : CE} (ih : P1 Φ cl a) : P1 Φ cl (.isi t a) := fun {c X E e} h g => by
  cases e with
  | Call fe xs kws p =>
    cases fe with
    | Name x px =>
      cases kws with
      | nil =>
        cases xs with
        | nil => exact ff h
        | cons y xs => cases xs with
          | nil => exact ff h
          | cons z xs => cases xs with
            | cons _ _ => cases z <;> exact ff h
            | nil => cases z with
              | Name T pT =>
                obtain ⟨h1, h2⟩ := and2 (show (decide (x = "isinstance") && c.glo x && decide (T = Str.ofString (tyName t)) && c.glo T && plainE y && chkE c a y) = true from h)
                obtain ⟨h3, h4⟩ := and2 h1
                obtain ⟨h5, h6⟩ := and2 h3
                obtain ⟨h7, h8⟩ := and2 h5
                obtain ⟨h9, h10⟩ := and2 h7
                have h9 := tr h9
                have h8 := tr h8
                subst h9 h8
                exact tst (e_isi (ih h2 g).1 h4 (g.glo h10).1 (g.blt (by decide +kernel)) (ty_ok g h6)) fun _ _ => rfl
              | _ => exact ff h
      | cons _ _ => exact ff h
    | _ => exact ff h
  | _ => exact ff h
theorem p1_idx {a b : CE} (iha : P1 Φ cl a) (ihb : P1 Φ cl b) : P1 Φ cl (.idx a b) := fun {c X E e} h g => by
  cases e with
  | Subscript x y p =>
    obtain ⟨h1, h2⟩ := and2 (show (plainE y && chkE c a x && chkE c b y) = true from h)
    obtain ⟨h3, h4⟩ := and2 h1
    exact tst (e_idx g.un (iha h4 g).1 (ihb h2 g).1 (ix_plain h3)) fun _ _ => rfl
  | _ => exact ff h
def P3 (Φ : SL.Fns) (cl : Nat → Value) (as : List CE) : Prop := ∀ {c : Ck} {X : Cx} {E : XK} {o : Option Expr}, chkO c as o = true → Good c Φ cl X E → PO X o (RdO E cl X.K (SL.evOI Φ as))
theorem p3_of {as : List CE} (ih : ∀ a, as = [a] → P1 Φ cl a) : P3 Φ cl as := fun {c X E o} h g => by
  cases as with
  | nil => cases o with
    | none => exact o_none
    | some _ => exact ff h
  | cons a as => cases as with
    | nil => cases o with
      | none => exact ff h
      | some e => exact o_some (ih a rfl h g).1
    | cons _ _ => exact ff h
theorem p1_slc {a : CE} {lo hi : List CE} (iha : P1 Φ cl a) (ihl : P3 Φ cl lo) (ihh : P3 Φ cl hi) : P1 Φ cl (.slc a lo hi) := fun {c X E e} h g => by
  cases e with
  | Subscript x y p =>
    cases y with
    | Slice l hh st p2 =>
      cases st with
      | none =>
        obtain ⟨h1, h2⟩ := and2 (show (chkE c a x && chkO c lo l && chkO c hi hh) = true from h)
        obtain ⟨h3, h4⟩ := and2 h1
        exact tst (e_slc (iha h3 g).1 (ihl h4 g) (ihh h2 g)) fun _ _ => rfl
      | some _ => exact ff h
    | _ => exact ff h
  | _ => exact ff h
/-! ### methods -/
theorem p1_rev {a : CE} (ih : P1 Φ cl a) : P1 Φ cl (.rev a) := fun {c X E e} h g => by
  cases e with
  | Subscript x y p =>
    cases y with
    | Slice l hh st p2 =>
      cases l with
      | some _ => exact ff h
      | none =>
        cases hh with
        | some _ => exact ff h
        | none =>
          cases st with
          | none => exact ff h
          | some z =>
            cases z with
            | UnaryOp o w p3 =>
              cases o with
              | USub =>
                cases w with
                | Constant k n p4 =>
                  cases k with
                  | int i =>
                    by_cases hi : i = 1
                    · subst hi
                      exact tst (e_rev (ih h g).1) fun _ _ => rfl
                    · have : (chkE c (.rev a) (.Subscript x (.Slice none none (some (.UnaryOp .USub (.Constant (.int i) n p4) p3)) p2) p)) = false := by
                        unfold chkE
                        split
                        · rename_i heq
                          injection heq with _ h2
                          injection h2 with _ _ h3
                          injection h3 with h4
                          injection h4 with _ h5
                          injection h5 with h6
                          injection h6 with h7
                          exact absurd h7 hi
                        · rfl
                      exact absurd (this.symm.trans h) (by decide)
                  | _ => exact ff h
                | _ => exact ff h
              | _ => exact ff h
            | _ => exact ff h
    | _ => exact ff h
  | _ => exact ff h
theorem vis_line {a b : Nat} (h : a = b) : (a == b) = true := by subst h; exact beq_self_eq_true a
theorem p1_app {i : Nat} {a : CE} (ih : P1 Φ cl a) : P1 Φ cl (.app i a) := fun {c X E e} h g => by
  cases e with
  | Call fe xs kws p =>
    cases fe with
    | Attribute o m ap =>
      cases o with
      | Name x px =>
        cases kws with
        | nil =>
          cases xs with
          | nil => exact ff h
          | cons y xs => cases xs with
            | cons _ _ => exact ff h
            | nil =>
              obtain ⟨h1, h2⟩ := and2 (show (decide (m = "append") && decide (ap.endLine = p.line) && c.vis i x && plainE y && chkE c a y) = true from h)
              obtain ⟨h3, h4⟩ := and2 h1
              obtain ⟨h5, h6⟩ := and2 h3
              obtain ⟨h7, h8⟩ := and2 h5
              have h7 := tr h7
              subst h7
              exact tst (e_app (g.vis h6) (ih h2 g).1 h4 (vis_line (tr h8))) fun _ _ => rfl
        | cons _ _ => exact ff h
      | _ => exact ff h
    | _ => exact ff h
  | _ => exact ff h
theorem p1_ext {i : Nat} {a : CE} (ih : P1 Φ cl a) : P1 Φ cl (.ext i a) := fun {c X E e} h g => by
  cases e with
  | Call fe xs kws p =>
    cases fe with
    | Attribute o m ap =>
      cases o with
      | Name x px =>
        cases kws with
        | nil =>
          cases xs with
          | nil => exact ff h
          | cons y xs => cases xs with
            | cons _ _ => exact ff h
            | nil =>
              obtain ⟨h1, h2⟩ := and2 (show (decide (m = "extend") && decide (ap.endLine = p.line) && c.vis i x && plainE y && chkE c a y) = true from h)
              obtain ⟨h3, h4⟩ := and2 h1
              obtain ⟨h5, h6⟩ := and2 h3
              obtain ⟨h7, h8⟩ := and2 h5
              have h7 := tr h7
              subst h7
              exact tst (e_ext (g.vis h6) (ih h2 g).1 h4 (vis_line (tr h8))) fun _ _ => rfl
        | cons _ _ => exact ff h
      | _ => exact ff h
    | _ => exact ff h
  | _ => exact ff h
theorem p1_popAt {i : Nat} {a : CE} (ih : P1 Φ cl a) : P1 Φ cl (.popAt i a) := fun {c X E e} h g => by
  cases e with
  | Call fe xs kws p =>
    cases fe with
    | Attribute o m ap =>
      cases o with
      | Name x px =>
        cases kws with
        | nil =>
          cases xs with
          | nil => exact ff h
          | cons y xs => cases xs with
            | cons _ _ => exact ff h
            | nil =>
              obtain ⟨h1, h2⟩ := and2 (show (decide (m = "pop") && decide (ap.endLine = p.line) && c.vis i x && plainE y && chkE c a y) = true from h)
              obtain ⟨h3, h4⟩ := and2 h1
              obtain ⟨h5, h6⟩ := and2 h3
              obtain ⟨h7, h8⟩ := and2 h5
              have h7 := tr h7
              subst h7
              exact tst (e_popAt (g.vis h6) (ih h2 g).1 h4 (vis_line (tr h8))) fun _ _ => rfl
        | cons _ _ => exact ff h
      | _ => exact ff h
    | _ => exact ff h
  | _ => exact ff h
theorem p1_index {o a : CE} (iho : P1 Φ cl o) (ih : P1 Φ cl a) : P1 Φ cl (.index o a) := fun {c X E e} h g => by
  cases e with
  | Call fe xs kws p =>
    cases fe with
    | Attribute o m ap =>
      cases o with
      | Name x px =>
        cases kws with
        | nil =>
          cases xs with
          | nil => exact ff h
          | cons y xs => cases xs with
            | cons _ _ => exact ff h
            | nil =>
              obtain ⟨h1, h2⟩ := and2 (show (decide (m = "index") && decide (ap.endLine = p.line) && plainE y && chkE c _ (.Name x px) && chkE c a y) = true from h)
              obtain ⟨h3, h4⟩ := and2 h1
              obtain ⟨h5, h6⟩ := and2 h3
              obtain ⟨h7, h8⟩ := and2 h5
              have h7 := tr h7
              subst h7
              exact tst (e_index (iho h4 g).1 (ih h2 g).1 h6 (vis_line (tr h8))) fun _ _ => rfl
        | cons _ _ => exact ff h
      | _ => exact ff h
    | _ => exact ff h
  | _ => exact ff h
theorem p1_rem {i : Nat} {a : CE} (ih : P1 Φ cl a) : P1 Φ cl (.rem i a) := fun {c X E e} h g => by
  cases e with
  | Call fe xs kws p =>
    cases fe with
    | Attribute o m ap =>
      cases o with
      | Name x px =>
        cases kws with
        | nil =>
          cases xs with
          | nil => exact ff h
          | cons y xs => cases xs with
            | cons _ _ => exact ff h
            | nil =>
              obtain ⟨h1, h2⟩ := and2 (show (decide (m = "remove") && decide (ap.endLine = p.line) && c.vis i x && plainE y && chkE c a y) = true from h)
              obtain ⟨h3, h4⟩ := and2 h1
              obtain ⟨h5, h6⟩ := and2 h3
              obtain ⟨h7, h8⟩ := and2 h5
              have h7 := tr h7
              subst h7
              exact tst (e_rem (g.vis h6) (ih h2 g).1 h4 (vis_line (tr h8))) fun _ _ => rfl
        | cons _ _ => exact ff h
      | _ => exact ff h
    | _ => exact ff h
  | _ => exact ff h
theorem p1_pop {i : Nat} : P1 Φ cl (.pop i) := fun {c X E e} h g => by
  cases e with
  | Call fe xs kws p =>
    cases fe with
    | Attribute o m ap =>
      cases o with
      | Name x px =>
        cases kws with
        | nil =>
          cases xs with
          | nil =>
            obtain ⟨h1, h2⟩ := and2 (show (decide (m = "pop") && decide (ap.endLine = p.line) && c.vis i x) = true from h)
            obtain ⟨h3, h4⟩ := and2 h1
            have h3 := tr h3
            subst h3
            exact tst (e_pop (g.vis h2) (vis_line (tr h4))) fun _ _ => rfl
          | cons _ _ => exact ff h
        | cons _ _ => cases xs <;> exact ff h
      | _ => exact ff h
    | _ => exact ff h
  | _ => exact ff h
/-! ### ranges as lists -/
theorem p1_listRng {a : CE} (ih : P1 Φ cl a) : P1 Φ cl (.listRng a) := fun {c X E e} h g => by
  cases e with
  | Call fe xs kws p =>
    cases fe with
    | Name x px =>
      cases kws with
      | nil =>
        cases xs with
        | nil => exact ff h
        | cons y xs => cases xs with
          | cons _ _ => exact ff h
          | nil => cases y with
            | Call fe2 ys kws2 p2 => cases fe2 with
              | Name y py => cases kws2 with
                | nil => cases ys with
                  | nil => exact ff h
                  | cons z ys => cases ys with
                    | cons _ _ => exact ff h
                    | nil =>
                      obtain ⟨h1, h2⟩ := and2 (show (decide (x = "list") && decide (y = "range") && c.glo x && c.glo y && plainE z && chkE c a z) = true from h)
                      obtain ⟨h3, h4⟩ := and2 h1
                      obtain ⟨h5, h6⟩ := and2 h3
                      obtain ⟨h7, h8⟩ := and2 h5
                      obtain ⟨h9, h10⟩ := and2 h7
                      have h9 := tr h9
                      have h10 := tr h10
                      subst h9 h10
                      exact tst (e_listRng g.calm (g.glo h8).1 (g.blt (by decide +kernel)) (g.glo h6).1 (g.blt (by decide +kernel)) (ih h2 g).1 h4) fun _ _ => rfl
                | cons _ _ => exact ff h
              | _ => exact ff h
            | _ => exact ff h
      | cons _ _ => exact ff h
    | _ => exact ff h
  | _ => exact ff h
theorem p1_tupRng {a : CE} (ih : P1 Φ cl a) : P1 Φ cl (.tupRng a) := fun {c X E e} h g => by
  cases e with
  | Call fe xs kws p =>
    cases fe with
    | Name x px =>
      cases kws with
      | nil =>
        cases xs with
        | nil => exact ff h
        | cons y xs => cases xs with
          | cons _ _ => exact ff h
          | nil => cases y with
            | Call fe2 ys kws2 p2 => cases fe2 with
              | Name y py => cases kws2 with
                | nil => cases ys with
                  | nil => exact ff h
                  | cons z ys => cases ys with
                    | cons _ _ => exact ff h
                    | nil =>
                      obtain ⟨h1, h2⟩ := and2 (show (decide (x = "tuple") && decide (y = "range") && c.glo x && c.glo y && plainE z && chkE c a z) = true from h)
                      obtain ⟨h3, h4⟩ := and2 h1
                      obtain ⟨h5, h6⟩ := and2 h3
                      obtain ⟨h7, h8⟩ := and2 h5
                      obtain ⟨h9, h10⟩ := and2 h7
                      have h9 := tr h9
                      have h10 := tr h10
                      subst h9 h10
                      exact tst (e_tupRng g.calm (g.glo h8).1 (g.blt (by decide +kernel)) (g.glo h6).1 (g.blt (by decide +kernel)) (ih h2 g).1 h4) fun _ _ => rfl
                | cons _ _ => exact ff h
              | _ => exact ff h
            | _ => exact ff h
      | cons _ _ => exact ff h
    | _ => exact ff h
  | _ => exact ff h
/-! ### what is walked -/
def P4 (Φ : SL.Fns) (cl : Nat → Value) (a : CE) : Prop := ∀ {c : Ck} {X : Cx} {E : XK} {tg e : Expr}, chkI c a tg e = true → Good c Φ cl X E → PI X tg e (RdI E cl X.K fun ρ => SL.asIt (SL.ev Φ a ρ))
theorem p4_rng1 {a : CE} (ih : P1 Φ cl a) : P4 Φ cl (.rng1 a) := fun {c X E tg e} h g => by
  cases e with
  | Call fe xs kws p =>
    cases fe with
    | Name x px =>
      cases kws with
      | nil =>
        cases xs with
        | nil => exact ff h
        | cons y xs => cases xs with
          | cons _ _ => exact ff h
          | nil =>
            obtain ⟨h1, h2⟩ := and2 (show (decide (x = "range") && c.glo x && plainE y && chkE c a y) = true from h)
            obtain ⟨h3, h4⟩ := and2 h1
            obtain ⟨h5, h6⟩ := and2 h3
            have h5 := tr h5
            subst h5
            exact i_rng1 (ih h2 g).1 h4 (g.glo h6).1 (g.blt (by decide +kernel))
      | cons _ _ => exact ff h
    | _ => exact ff h
  | _ => exact ff h
theorem p4_rng2 {a b : CE} (ih : P1 Φ cl a) (ihb : P1 Φ cl b) : P4 Φ cl (.rng2 a b) := fun {c X E tg e} h g => by
  cases e with
  | Call fe xs kws p =>
    cases fe with
    | Name x px =>
      cases kws with
      | nil =>
        cases xs with
        | nil => exact ff h
        | cons y xs => cases xs with
          | nil => exact ff h
          | cons z xs => cases xs with
            | cons _ _ => exact ff h
            | nil =>
              obtain ⟨h1, h2⟩ := and2 (show (decide (x = "range") && c.glo x && plainE y && plainE z && chkE c a y && chkE c b z) = true from h)
              obtain ⟨h3, h4⟩ := and2 h1
              obtain ⟨h5, h6⟩ := and2 h3
              obtain ⟨h7, h8⟩ := and2 h5
              obtain ⟨h9, h10⟩ := and2 h7
              have h9 := tr h9
              subst h9
              exact i_rng2 (ih h4 g).1 (ihb h2 g).1 h8 h6 (g.glo h10).1 (g.blt (by decide +kernel))
      | cons _ _ => exact ff h
    | _ => exact ff h
  | _ => exact ff h
theorem p4_zip {a b : CE} (ih : P1 Φ cl a) (ihb : P1 Φ cl b) : P4 Φ cl (.zip a b) := fun {c X E tg e} h g => by
  cases e with
  | Call fe xs kws p =>
    cases fe with
    | Name x px =>
      cases kws with
      | nil =>
        cases xs with
        | nil => exact ff h
        | cons y xs => cases xs with
          | nil => exact ff h
          | cons z xs => cases xs with
            | cons _ _ => exact ff h
            | nil =>
              obtain ⟨h1, h2⟩ := and2 (show (isTup tg && decide (x = "zip") && c.glo x && plainE y && plainE z && chkE c a y && chkE c b z) = true from h)
              obtain ⟨h3, h4⟩ := and2 h1
              obtain ⟨h5, h6⟩ := and2 h3
              obtain ⟨h7, h8⟩ := and2 h5
              obtain ⟨h9, h10⟩ := and2 h7
              obtain ⟨h11, h12⟩ := and2 h9
              have h12 := tr h12
              subst h12
              cases tg with
              | Tuple es k p => exact i_zip (ih h4 g).1 (ihb h2 g).1 h8 h6 (g.glo h10).1 (g.blt (by decide +kernel))
              | _ => exact ff h11
      | cons _ _ => exact ff h
    | _ => exact ff h
  | _ => exact ff h
theorem p4_enum {a : CE} (ih : P1 Φ cl a) : P4 Φ cl (.enum a) := fun {c X E tg e} h g => by
  cases e with
  | Call fe xs kws p =>
    cases fe with
    | Name x px =>
      cases kws with
      | nil =>
        cases xs with
        | nil => exact ff h
        | cons y xs => cases xs with
          | cons _ _ => exact ff h
          | nil =>
            obtain ⟨h1, h2⟩ := and2 (show (isTup tg && decide (x = "enumerate") && c.glo x && plainE y && chkE c a y) = true from h)
            obtain ⟨h3, h4⟩ := and2 h1
            obtain ⟨h5, h6⟩ := and2 h3
            obtain ⟨h7, h8⟩ := and2 h5
            have h8 := tr h8
            subst h8
            cases tg with
            | Tuple es k p => exact i_enum (ih h2 g).1 h4 (g.glo h6).1 (g.blt (by decide +kernel))
            | _ => exact ff h7
      | cons _ _ => exact ff h
    | _ => exact ff h
  | _ => exact ff h
theorem walk_ok {c : Ck} {X : Cx} {E : XK} {a : CE} {tg e : Expr} (i4 : P4 Φ cl a) (i1 : P1 Φ cl a) (h : (chkI c a tg e || chkE c a e) = true) (g : Good c Φ cl X E) : PI X tg e (RdI E cl X.K fun ρ => SL.asIt (SL.ev Φ a ρ)) := by
  rcases Bool.or_eq_true_iff.mp h with h | h
  · exact i4 h g
  · exact i_seq (i1 h g).1
/-! ### comprehensions -/
theorem ifs_ok {c : Ck} {X : Cx} {E : XK} {cs : List CE} {ifs : List Expr} (ih : P2 Φ cl cs) (hl : cs.length ≤ 1) (hn : cs.all notIte = true) (h : chkEs c cs ifs = true) (g : Good c Φ cl X E) : PTs X ifs (RdB E cl X.K (SL.evAnd Φ cs)) := by
  obtain ⟨_, _, _, q4, _, q6, _⟩ := ih h g
  have t := q4 hn
  cases cs with
  | nil =>
    cases ifs with
    | nil => exact ts_nil
    | cons _ _ => simp at q6
  | cons a cs =>
    cases cs with
    | cons _ _ => simp at hl
    | nil =>
      cases ifs with
      | nil => simp at q6
      | cons e ifs =>
        cases ifs with
        | cons _ _ => simp at q6
        | nil =>
          cases t with
          | cons pt _ _ => exact ts_one pt
def lcC (c : Ck) (own : List Nat) (t : Tgt) (it : CE) (cs : List CE) (elt : CE) (el tg iter : Expr) (ifs : List Expr) (as : Int) (sc2 : Scope) : Bool := decide (as = 0) && decide (sc2.kind = .function) && blkC c.N c.sc sc2 (ownOf c.N own) && (tnames t).all (fun j => decide (j ∈ own)) && plainE iter && (chkI c it tg iter || chkE c it iter) && chkT (c.blk sc2) t tg && decide (cs.length ≤ 1) && cs.all notIte && chkEs (c.blk sc2) cs ifs && chkE (c.blk sc2) elt el
theorem lcP_ok {c : Ck} {X : Cx} {E : XK} {own : List Nat} {t : Tgt} {it : CE} {cs : List CE} {elt : CE} {el tg iter : Expr} {ifs : List Expr} {as : Int} {sc2 : Scope} (i4 : P4 Φ cl it) (i1 : P1 Φ cl it) (ics : P2 Φ cl cs) (iel : P1 Φ cl elt) (h : lcC c own t it cs elt el tg iter ifs as sc2 = true) (g : Good c Φ cl X E) :
    as = 0 ∧ LcP Φ cl X E (ownOf c.N own) t it cs elt el tg iter ifs sc2 := by
  obtain ⟨h, a11⟩ := and2 h
  obtain ⟨h, a10⟩ := and2 h
  obtain ⟨h, a9⟩ := and2 h
  obtain ⟨h, a8⟩ := and2 h
  obtain ⟨h, a7⟩ := and2 h
  obtain ⟨h, a6⟩ := and2 h
  obtain ⟨h, a5⟩ := and2 h
  obtain ⟨h, a4⟩ := and2 h
  obtain ⟨h, a3⟩ := and2 h
  obtain ⟨a1, a2⟩ := and2 h
  have kf := tr a2
  refine ⟨tr a1, walk_ok i4 i1 a6 g, ?_, fun s H C cells fp => sGt (g.block s H sc2 kf C cells fp) a7, fun s H C cells fp => ifs_ok ics (tr a8) a9 a10 (g.block s H sc2 kf C cells fp), fun s H C cells fp => e_frz (iel a11 (g.block s H sc2 kf C cells fp)).1, set_plain' a5, fun j hj => ?_⟩
  · rw [g.n, g.sc]; exact blkOk_by a3
  · rw [ownOf_snd]; exact tr (List.all_eq_true.mp a4 j hj)
theorem p1_comp {own : List Nat} {t : Tgt} {it : CE} {cs : List CE} {elt : CE} (i4 : P4 Φ cl it) (i1 : P1 Φ cl it) (ics : P2 Φ cl cs) (iel : P1 Φ cl elt) : P1 Φ cl (.comp own t it cs elt) := fun {c X E e} h g => by
  cases e with
  | ListComp el gs sc2 p =>
    cases gs with
    | nil => exact ff h
    | cons g1 gs =>
      obtain ⟨tg, iter, ifs, as⟩ := g1
      cases gs with
      | cons _ _ => exact ff h
      | nil =>
        obtain ⟨rfl, P⟩ := lcP_ok i4 i1 ics iel (show lcC c own t it cs elt el tg iter ifs as sc2 = true from h) g
        have q := P.pe g.calm g.nodup (pos := p)
        rw [ownOf_snd] at q
        exact tst q fun _ _ => rfl
  | _ => exact ff h
end
end SLS

/-! ## S19 -/
set_option Elab.async false
set_option linter.all false
set_option autoImplicit false
set_option maxRecDepth 100000
set_option maxHeartbeats 4000000
/-! Soundness 19: all expressions. -/
namespace SLS
open PySem PySem.Spec PyProof.Rows L2
open SL (D Slot PV Res Ag Tgt CE)
section
variable {Φ : SL.Fns} {cl : Nat → Value}
def lcC2 (c : Ck) (own : List Nat) (t : Tgt) (it : CE) (cs : List CE) (own2 : List Nat) (t2 : Tgt) (it2 : CE) (cs2 : List CE) (elt : CE) (el tg iter : Expr) (ifs : List Expr) (as : Int) (tg2 iter2 : Expr) (ifs2 : List Expr) (as2 : Int) (sc2 : Scope) : Bool :=
  decide (as = 0) && decide (as2 = 0) && decide (sc2.kind = .function) && blkC c.N c.sc sc2 (ownOf c.N own) && (tnames t).all (fun j => decide (j ∈ own)) && (tnames t2).all (fun j => decide (j ∈ own2)) && own2.all (fun j => decide (j ∈ own)) && plainE iter && plainE iter2 &&
          (chkI c it tg iter || chkE c it iter) && chkT (c.blk sc2) t tg && decide (cs.length ≤ 1) && cs.all notIte && chkEs (c.blk sc2) cs ifs && (chkI (c.blk sc2) it2 tg2 iter2 || chkE (c.blk sc2) it2 iter2) && chkT (c.blk sc2) t2 tg2 && decide (cs2.length ≤ 1) && cs2.all notIte && chkEs (c.blk sc2) cs2 ifs2 && chkE (c.blk sc2) elt el
theorem lcP2_ok {c : Ck} {X : Cx} {E : XK} {own own2 : List Nat} {t t2 : Tgt} {it it2 : CE} {cs cs2 : List CE} {elt : CE} {el tg iter tg2 iter2 : Expr} {ifs ifs2 : List Expr} {as as2 : Int} {sc2 : Scope} (i4 : P4 Φ cl it) (i1 : P1 Φ cl it) (ics : P2 Φ cl cs) (i42 : P4 Φ cl it2) (i12 : P1 Φ cl it2) (ics2 : P2 Φ cl cs2) (iel : P1 Φ cl elt) (h : lcC2 c own t it cs own2 t2 it2 cs2 elt el tg iter ifs as tg2 iter2 ifs2 as2 sc2 = true) (g : Good c Φ cl X E) :
    as = 0 ∧ as2 = 0 ∧ LcP2 Φ cl X E (ownOf c.N own) t it cs own2 t2 it2 cs2 elt el tg iter ifs tg2 iter2 ifs2 sc2 := by
  obtain ⟨h, a20⟩ := and2 h
  obtain ⟨h, a19⟩ := and2 h
  obtain ⟨h, a18⟩ := and2 h
  obtain ⟨h, a17⟩ := and2 h
  obtain ⟨h, a16⟩ := and2 h
  obtain ⟨h, a15⟩ := and2 h
  obtain ⟨h, a14⟩ := and2 h
  obtain ⟨h, a13⟩ := and2 h
  obtain ⟨h, a12⟩ := and2 h
  obtain ⟨h, a11⟩ := and2 h
  obtain ⟨h, a10⟩ := and2 h
  obtain ⟨h, a9⟩ := and2 h
  obtain ⟨h, a8⟩ := and2 h
  obtain ⟨h, a7⟩ := and2 h
  obtain ⟨h, a6⟩ := and2 h
  obtain ⟨h, a5⟩ := and2 h
  obtain ⟨h, a4⟩ := and2 h
  obtain ⟨h, a3⟩ := and2 h
  obtain ⟨a1, a2⟩ := and2 h
  have kf := tr a3
  have G := fun s H C cells fp => g.block s H sc2 kf C cells fp
  refine ⟨tr a1, tr a2, ⟨walk_ok i4 i1 a10 g, ?_, fun s H C cells fp => sGt (G s H C cells fp) a11, fun s H C cells fp => ifs_ok ics (tr a12) a13 a14 (G s H C cells fp), fun s H C cells fp => e_frz (iel a20 (G s H C cells fp)).1, set_plain' a8, fun j hj => ?_⟩,
    fun s H C cells fp => walk_ok i42 i12 a15 (G s H C cells fp), fun s H C cells fp => sGt (G s H C cells fp) a16, fun s H C cells fp => ifs_ok ics2 (tr a17) a18 a19 (G s H C cells fp), fun env => set_plain' a9, fun j hj => tr (List.all_eq_true.mp a6 j hj), fun j hj => ?_⟩
  · rw [g.n, g.sc]; exact blkOk_by a4
  · rw [ownOf_snd]; exact tr (List.all_eq_true.mp a5 j hj)
  · rw [ownOf_snd]; exact tr (List.all_eq_true.mp a7 j hj)
theorem p1_comp2 {own own2 : List Nat} {t t2 : Tgt} {it it2 : CE} {cs cs2 : List CE} {elt : CE} (i4 : P4 Φ cl it) (i1 : P1 Φ cl it) (ics : P2 Φ cl cs) (i42 : P4 Φ cl it2) (i12 : P1 Φ cl it2) (ics2 : P2 Φ cl cs2) (iel : P1 Φ cl elt) : P1 Φ cl (.comp2 own t it cs own2 t2 it2 cs2 elt) := fun {c X E e} h g => by
  cases e with
  | ListComp el gs sc2 p =>
    cases gs with
    | nil => exact ff h
    | cons g1 gs =>
      obtain ⟨tg, iter, ifs, as⟩ := g1
      cases gs with
      | nil => exact ff h
      | cons g2 gs =>
        obtain ⟨tg2, iter2, ifs2, as2⟩ := g2
        cases gs with
        | cons _ _ => exact ff h
        | nil =>
          obtain ⟨rfl, rfl, P⟩ := lcP2_ok i4 i1 ics i42 i12 ics2 iel (show lcC2 c own t it cs own2 t2 it2 cs2 elt el tg iter ifs as tg2 iter2 ifs2 as2 sc2 = true from h) g
          have q := P.pe g.calm g.nodup (pos := p)
          rw [ownOf_snd] at q
          exact tst q fun _ _ => rfl
  | _ => exact ff h
end
mutual
theorem sP1 {Φ : SL.Fns} {cl : Nat → Value} : ∀ a : CE, P1 Φ cl a
  | .var i => p1_var i
  | .cst d => p1_cst d
  | .glb x d => p1_glb x d
  | .tup es => p1_tup (sP2 es)
  | .lst es => p1_lst (sP2 es)
  | .dnew => p1_dnew
  | .bin o a b => p1_bin (sP1 a) (sP1 b)
  | .lrep es k => p1_lrep (sP2 es) (sP1 k)
  | .neg a => p1_neg (sP1 a)
  | .not a => p1_not (sP1 a)
  | .and es => p1_and (sP2 es)
  | .or es => p1_or (sP2 es)
  | .cmp o a b => p1_cmp (sP1 a) (sP1 b)
  | .chain o p a b d => p1_chain (sP1 a) (sP1 b) (sP1 d)
  | .ite t a b => p1_ite (sP1 t) (sP1 a) (sP1 b)
  | .call f ks es => p1_call (sP2 es)
  | .bi b es => p1_bi (sP2 es)
  | .isi t a => p1_isi (sP1 a)
  | .idx a b => p1_idx (sP1 a) (sP1 b)
  | .slc a lo hi => p1_slc (sP1 a) (sP3 lo) (sP3 hi)
  | .rev a => p1_rev (sP1 a)
  | .comp own t it cs elt => p1_comp (sP4 it) (sP1 it) (sP2 cs) (sP1 elt)
  | .comp2 own t it cs own2 t2 it2 cs2 elt => p1_comp2 (sP4 it) (sP1 it) (sP2 cs) (sP4 it2) (sP1 it2) (sP2 cs2) (sP1 elt)
  | .dcomp _ _ _ _ _ _ => fun h g => ff h
  | .app i a => p1_app (sP1 a)
  | .ext i a => p1_ext (sP1 a)
  | .pop i => p1_pop
  | .popAt i a => p1_popAt (sP1 a)
  | .rem i a => p1_rem (sP1 a)
  | .index o a => p1_index (sP1 o) (sP1 a)
  | .rng1 _ => fun h g => ff h
  | .rng2 _ _ => fun h g => ff h
  | .zip _ _ => fun h g => ff h
  | .enum _ => fun h g => ff h
  | .listRng a => p1_listRng (sP1 a)
  | .tupRng a => p1_tupRng (sP1 a)
  | .listZip _ _ => fun h g => ff h
theorem sP2 {Φ : SL.Fns} {cl : Nat → Value} : ∀ as : List CE, P2 Φ cl as
  | [] => p2_nil
  | a :: as => p2_cons (sP1 a) (sP2 as)
theorem sP3 {Φ : SL.Fns} {cl : Nat → Value} : ∀ as : List CE, P3 Φ cl as
  | [] => p3_of fun a e => by cases e
  | [a] => p3_of fun b e => by cases e; exact sP1 a
  | a :: b :: as => p3_of fun d e => by cases e
theorem sP4 {Φ : SL.Fns} {cl : Nat → Value} : ∀ a : CE, P4 Φ cl a
  | .rng1 a => p4_rng1 (sP1 a)
  | .rng2 a b => p4_rng2 (sP1 a) (sP1 b)
  | .zip a b => p4_zip (sP1 a) (sP1 b)
  | .enum a => p4_enum (sP1 a)
  | .var _ | .cst _ | .glb _ _ | .tup _ | .lst _ | .dnew | .bin _ _ _ | .lrep _ _ | .neg _ | .not _ | .and _ | .or _ | .cmp _ _ _ | .chain _ _ _ _ _ | .ite _ _ _ | .call _ _ _ | .bi _ _ | .isi _ _ | .idx _ _ | .slc _ _ _ | .rev _ | .comp _ _ _ _ _ | .comp2 _ _ _ _ _ _ _ _ _ | .dcomp _ _ _ _ _ _ | .app _ _ | .ext _ _ | .pop _ | .popAt _ _ | .rem _ _ | .index _ _ | .listRng _ | .tupRng _ | .listZip _ _ => fun h g => ff h
end
/-- an expression that is checked -/
theorem sE {Φ : SL.Fns} {cl : Nat → Value} {c : Ck} {X : Cx} {E : XK} {a : CE} {e : Expr} (h : chkE c a e = true) (g : Good c Φ cl X E) : PE X e (RdE E cl X.K (SL.ev Φ a)) := (sP1 a h g).1
theorem sT {Φ : SL.Fns} {cl : Nat → Value} {c : Ck} {X : Cx} {E : XK} {a : CE} {e : Expr} (hn : notIte a = true) (h : chkE c a e = true) (g : Good c Φ cl X E) : PT X e (RdT E cl X.K (SL.ev Φ a)) := (sP1 a h g).2 hn
end SLS

/-! ## S20 -/
set_option Elab.async false
set_option linter.all false
set_option autoImplicit false
set_option maxRecDepth 100000
set_option maxHeartbeats 4000000
/-! Soundness 20: statements checked. -/
namespace SLS
open PySem PySem.Spec PyProof.Rows L2
open SL (D Slot PV Res Ag Tgt CE CS)
def starred : Expr → Bool
  | .Starred .. => true
  | _ => false
def swF (ts vs : List Expr) (kf : Str → Option NameKind) : Option (Option (List Str)) :=
  if (!(ts.length == 2 || ts.length == 3) || vs.length != ts.length) = true then some none
  else if (vs.any fun | .Starred .. => true | _ => false) = true then some none
  else
    let line := (ts.head?.map (·.pos.line)).getD 0
    let names := ts.filterMap fun
      | .Name id pos => if kf id == some .local && pos.line == line then some id else none
      | _ => none
    if (names.length != ts.length || names.eraseDups.length != names.length) = true then some none
    else if vs.all (foldedForSure 8) = true then some none
    else if vs.all (constantsAlone 8) = true then none
    else some (some names)
theorem sw_ok {ts vs : List Expr} {env : Env} {r : Option (List Str)} {k k2 : Nat} {p p2 : Pos} (hk : env.scope.kind = .function) (h : swF ts vs (fun x => env.scope.names.lookup x) = some r) : swappedStores [.Tuple ts k p] (.Tuple vs k2 p2) env = pure r := by
  have hb : (env.blockKind != ScopeKind.function) = false := by unfold Env.blockKind; rw [hk]; rfl
  unfold swF at h
  unfold swappedStores
  simp only [hb, Bool.or_false]
  split at h
  · rename_i c1
    cases h
    rw [if_pos c1]
  · rename_i c1
    rw [if_neg c1]
    split at h
    · rename_i c2
      cases h
      exact if_pos c2
    · rename_i c2
      refine (if_neg c2).trans ?_
      simp only at h
      split at h
      · rename_i c3
        cases h
        exact if_pos c3
      · rename_i c3
        refine (if_neg c3).trans ?_
        split at h
        · rename_i c4
          cases h
          exact if_pos c4
        · rename_i c4
          refine (if_neg c4).trans ?_
          split at h
          · cases h
          · rename_i c5
            cases h
            exact if_neg c5
def notComp : Expr → Bool
  | .ListComp .. => false
  | .SetComp .. => false
  | .DictComp .. => false
  | _ => true
theorem swaps_no {v : Expr} {t : Option Expr} {l : Nat} {env : Env} (h : notComp v = true) : swapsWith v t l env = pure false := by
  cases v <;> first | exact ff h | rfl
theorem swaps_tup {v : Expr} {ts : List Expr} {k : Nat} {p : Pos} {l : Nat} {env : Env} : swapsWithSole [.Tuple ts k p] v l env = pure false := by
  cases v <;> rfl
theorem swaps_sub {v a b : Expr} {p : Pos} {l : Nat} {env : Env} : swapsWithSole [.Subscript a b p] v l env = pure false := by
  cases v <;> rfl
theorem stores_tup {v : Expr} {ts : List Expr} {k : Nat} {p : Pos} {env : Env} (h : isTup v = false) : swappedStores [.Tuple ts k p] v env = pure none := by
  cases v <;> first | rfl | cases h
theorem stores_sub {v a b : Expr} {p : Pos} {env : Env} : swappedStores [.Subscript a b p] v env = pure none := by
  cases v <;> rfl
theorem assign_sub {o i : Expr} {pos : Pos} {env : Env} (h : plainE i = true) (v : Value) : assign (.Subscript o i pos) env v = (do
      let ov ← holding [v] (eval o env)
      let iv ← holding [v, ov] (eval i env)
      standAt pos
      holding [v, ov, iv] (setItem ov iv v)
      release [v, ov, iv] []) := by
  cases i <;> first | rfl | exact ff h
structure GoodS (c : Ck) (Φ : SL.Fns) (cl : Nat → Value) (X : Cx) (E : XK) : Prop where
  g : Good c Φ cl X E
  own : PassesOwn (model X.prog X.w) X.A X.env X.xe
  tk : Takes X (fun cls d _ H => E cls d H)
  exs : ∀ k x, c.ex k = some x → ExcX X cl k x
def loc (c : Ck) (x : Str) : Bool := match c.sc.names.lookup x with | some .local => true | _ => false
def chkNames (c : Ck) : List Nat → List Expr → Bool
  | [], [] => true
  | i :: is, .Name x _ :: es => c.tgt i x && chkNames c is es
  | _, _ => false
/-- a comprehension stored at once -/
def chkAsgComp (c : Ck) (i : Nat) (x : Str) (py : Pos) : CE → Expr → Bool
  | .comp own t it cs elt, .ListComp el gs sc2 p => loc c x && (py.line == p.line) && !(sc2.names.any fun (n, k) => n == x && (k == .local || k == .cell)) && chkE c (.comp own t it cs elt) (.ListComp el gs sc2 p)
  | .comp2 own t it cs own2 t2 it2 cs2 elt, .ListComp el gs sc2 p => loc c x && (py.line == p.line) && !(sc2.names.any fun (n, k) => n == x && (k == .local || k == .cell)) && chkE c (.comp2 own t it cs own2 t2 it2 cs2 elt) (.ListComp el gs sc2 p)
  | _, _ => false
def chkSw (c : Ck) (is : List Nat) (tgs vs : List Expr) : Bool :=
  match is, tgs, vs with
  | [i, j], [.Name x _, .Name y _], [_, _] => decide (i ≠ j) && loc c x && loc c y && decide (swF tgs vs (fun x => c.sc.names.lookup x) = some (some [x, y]))
  | [i, j, l], [.Name x _, .Name y _, .Name z _], [_, _, _] => decide (i ≠ j) && decide (i ≠ l) && decide (j ≠ l) && loc c x && loc c y && loc c z && decide (swF tgs vs (fun x => c.sc.names.lookup x) = some (some [x, y, z]))
  | _, _, _ => false
def chkPar (c : Ck) (is : List Nat) (es : List CE) (tgs vs : List Expr) : Bool :=
  chkEs c es vs && decide (is.length = es.length) && decide (is.length ≤ 30) && chkNames c is tgs && (decide (swF tgs vs (fun x => c.sc.names.lookup x) = some none) || chkSw c is tgs vs)
mutual
def chkS (c : Ck) : CS → Stmt → Bool
  | .asg i a, s => match s with
    | .Assign ts v _ => (match ts with
      | [.Name x py] => c.tgt i x && ((notComp v && chkE c a v) || chkAsgComp c i x py a v)
      | _ => false)
    | _ => false
  | .unp t a, s => match s with
    | .Assign ts v _ => (match ts with
      | [.Tuple es k p] => !isTup v && chkT c t (.Tuple es k p) && chkE c a v
      | _ => false)
    | _ => false
  | .par is es, s => match s with
    | .Assign ts v _ => (match ts with
      | [.Tuple tgs _ _] => (match v with
        | .Tuple vs _ _ => chkPar c is es tgs vs
        | _ => false)
      | _ => false)
    | _ => false
  | .setI i k a, s => match s with
    | .Assign ts v _ => (match ts with
      | [.Subscript (.Name x _) y _] => c.vis i x && plainE y && chkE c k y && chkE c a v
      | _ => false)
    | _ => false
  | .aug o i a, s => match s with
    | .AugAssign (.Name x _) op v _ => decide (op = opOf o) && (decide (o = .add) || decide (o = .sub)) && c.tgt i x && chkE c a v
    | _ => false
  | .ex a, s => match s with
    | .Expr v _ => notComp v && chkE c a v
    | _ => false
  | .ite a t f, s => match s with
    | .If x bt bf _ => notIte a && chkE c a x && chkSs c t bt && chkSs c f bf
    | _ => false
  | .for t it b, s => match s with
    | .For tg iter body oe _ => oe.isEmpty && plainE iter && (chkI c it tg iter || chkE c it iter) && chkT c t tg && chkSs c b body
    | _ => false
  | .wh a b, s => match s with
    | .While x body oe _ => oe.isEmpty && notIte a && chkE c a x && chkSs c b body
    | _ => false
  | .ret a, s => match s with
    | .Return (some v) _ => chkE c a v
    | _ => false
  | .raise k, s => match s with
    | .Raise (some (.Call (.Name x _) xs [] _)) none _ => (match xs with
      | [.Constant (.str _) _ _] => decide (c.ex k = some x) && c.glo x
      | _ => false)
    | _ => false
  | .pass, s => match s with
    | .Pass _ => true
    | _ => false
  | .swap _ _ _ _ _ _, _ => false
def chkSs (c : Ck) : List CS → List Stmt → Bool
  | [], ss => match ss with
    | [] => true
    | _ => false
  | s :: cs, ss => match ss with
    | [] => false
    | st :: sts => chkS c s st && chkSs c cs sts
end
end SLS

/-! ## S21 -/
set_option Elab.async false
set_option linter.all false
set_option autoImplicit false
set_option maxRecDepth 100000
set_option maxHeartbeats 400000
/-! Soundness 21: statements. -/
namespace SLS
open PySem PySem.Spec PyProof.Rows L2
open SL (D Slot PV Res Ag Tgt CE CS)
section
variable {Φ : SL.Fns} {cl : Nat → Value}
def Q1 (Φ : SL.Fns) (cl : Nat → Value) (s : CS) : Prop := ∀ {c : Ck} {X : Cx} {E : XK} {st : Stmt}, chkS c s st = true → GoodS c Φ cl X E → PS X st (RdS E cl X.K (SL.exe Φ s))
def Q2 (Φ : SL.Fns) (cl : Nat → Value) (ss : List CS) : Prop := ∀ {c : Ck} {X : Cx} {E : XK} {sts : List Stmt}, chkSs c ss sts = true → GoodS c Φ cl X E → PSs X sts (RdS E cl X.K (SL.exes Φ ss))
theorem loc_ok {c : Ck} {X : Cx} {E : XK} {x : Str} (g : Good c Φ cl X E) (h : loc c x = true) : X.env.scope.names.lookup x = some .local := by
  unfold loc at h
  rw [g.sc]
  split at h
  · rename_i q; exact q
  · cases h
theorem evps_len : ∀ {es : List CE} {ρ ρ' : List Slot} {ps : List PV}, SL.evps Φ es ρ = .ok ps ρ' → ps.length = es.length
  | [], _, _, _, h => by cases h; rfl
  | e :: es, ρ, ρ', ps, h => by
    have h : (((SL.ev Φ e ρ).bind fun p ρ0 => SL.settle ρ0 p).bind fun p ρ1 => (SL.evps Φ es ρ1).bind fun ps ρ2 => Res.ok (p :: ps) ρ2) = .ok ps ρ' := h
    cases q : ((SL.ev Φ e ρ).bind fun p ρ0 => SL.settle ρ0 p) with
    | stuck => rw [q] at h; cases h
    | exc k r => rw [q] at h; cases h
    | ok d ρ1 =>
      rw [q] at h
      have h : ((SL.evps Φ es ρ1).bind fun ds ρ2 => Res.ok (d :: ds) ρ2) = .ok ps ρ' := h
      cases q2 : SL.evps Φ es ρ1 with
      | stuck => rw [q2] at h; cases h
      | exc k r => rw [q2] at h; cases h
      | ok ds' ρ2 =>
        rw [q2] at h
        cases h
        rw [List.length_cons, List.length_cons, evps_len q2]
theorem q1_asg {i : Nat} {a : CE} : Q1 Φ cl (.asg i a) := fun {c X E st} h g => by
  cases st with
  | Assign ts v p =>
    cases ts with
    | nil => exact ff h
    | cons t ts =>
      cases t with
      | Name x py =>
        cases ts with
        | cons _ _ => exact ff h
        | nil =>
          obtain ⟨h1, h2⟩ := and2 (show (c.tgt i x && ((notComp v && chkE c a v) || chkAsgComp c i x py a v)) = true from h)
          obtain ⟨t1, t2, t3⟩ := g.g.tgt h1
          rcases Bool.or_eq_true_iff.mp h2 with h2 | h2
          · obtain ⟨h3, h4⟩ := and2 h2
            exact s_asg g.g.nodup t1 t2 (sE h4 g.g) (swaps_no h3) t3
          · have hk : X.env.scope.kind = .function := g.g.kind
            cases v with
            | ListComp el gs sc2 pc =>
              cases a with
              | comp own t it cs elt =>
                obtain ⟨k, k4⟩ := and2 (show (loc c x && (py.line == pc.line) && !(sc2.names.any fun (n, k) => n == x && (k == .local || k == .cell)) && chkE c (.comp own t it cs elt) (.ListComp el gs sc2 pc)) = true from h2)
                obtain ⟨k, k3⟩ := and2 k
                obtain ⟨k1, k2⟩ := and2 k
                have k3 : (sc2.names.any fun (n, k) => n == x && (k == .local || k == .cell)) = false := by simpa using k3
                have hl := loc_ok g.g k1
                cases gs with
                | nil => exact ff k4
                | cons g1 gs =>
                  obtain ⟨tg, iter, ifs, as⟩ := g1
                  cases gs with
                  | cons _ _ => exact ff k4
                  | nil =>
                    obtain ⟨rfl, P⟩ := lcP_ok (sP4 it) (sP1 it) (sP2 cs) (sP1 elt) (show lcC c own t it cs elt el tg iter ifs as sc2 = true from k4) g.g
                    have q := P.ps g.g.calm g.g.nodup (i := i) (y := x) (py := py) (pos := pc) (spos := p) t1 hl (sw_true hk hl k2 k3)
                    rw [ownOf_snd] at q
                    exact q
              | comp2 own t it cs own2 t2 it2 cs2 elt =>
                obtain ⟨k, k4⟩ := and2 (show (loc c x && (py.line == pc.line) && !(sc2.names.any fun (n, k) => n == x && (k == .local || k == .cell)) && chkE c (.comp2 own t it cs own2 t2 it2 cs2 elt) (.ListComp el gs sc2 pc)) = true from h2)
                obtain ⟨k, k3⟩ := and2 k
                obtain ⟨k1, k2⟩ := and2 k
                have k3 : (sc2.names.any fun (n, k) => n == x && (k == .local || k == .cell)) = false := by simpa using k3
                have hl := loc_ok g.g k1
                cases gs with
                | nil => exact ff k4
                | cons g1 gs =>
                  obtain ⟨tg, iter, ifs, as⟩ := g1
                  cases gs with
                  | nil => exact ff k4
                  | cons g2 gs =>
                    obtain ⟨tg2, iter2, ifs2, as2⟩ := g2
                    cases gs with
                    | cons _ _ => exact ff k4
                    | nil =>
                      obtain ⟨rfl, rfl, P⟩ := lcP2_ok (sP4 it) (sP1 it) (sP2 cs) (sP4 it2) (sP1 it2) (sP2 cs2) (sP1 elt) (show lcC2 c own t it cs own2 t2 it2 cs2 elt el tg iter ifs as tg2 iter2 ifs2 as2 sc2 = true from k4) g.g
                      have q := P.ps g.g.calm g.g.nodup (i := i) (y := x) (py := py) (pos := pc) (spos := p) t1 hl (sw_true hk hl k2 k3)
                      rw [ownOf_snd] at q
                      exact q
              | _ => exact ff h2
            | _ => cases a <;> exact ff h2
      | _ => cases ts <;> exact ff h
  | _ => exact ff h
theorem q1_unp {t : Tgt} {a : CE} : Q1 Φ cl (.unp t a) := fun {c X E st} h g => by
  cases st with
  | Assign ts v p =>
    cases ts with
    | nil => exact ff h
    | cons tg ts =>
      cases tg with
      | Tuple es k pt =>
        cases ts with
        | cons _ _ => exact ff h
        | nil =>
          obtain ⟨h1, h2⟩ := and2 (show (!isTup v && chkT c t (.Tuple es k pt) && chkE c a v) = true from h)
          obtain ⟨h3, h4⟩ := and2 h1
          exact s_unp (sE h2 g.g) (sGt g.g h4) swaps_tup (stores_tup (by simpa using h3)) rfl
      | _ => cases ts <;> exact ff h
  | _ => exact ff h
theorem names_ok {c : Ck} {X : Cx} {E : XK} (g : Good c Φ cl X E) : ∀ {is : List Nat} {es : List Expr}, chkNames c is es = true → PGs X es (gNames is) ∧ (assignEach es X.env).length = is.length ∧ (assignEach es X.env).findIdx? (·.1) = none
  | [], [], _ => ⟨pgs_nil, rfl, rfl⟩
  | [], _ :: _, h => ff h
  | _ :: _, [], h => ff h
  | i :: is, e :: es, h => by
    cases e with
    | Name x p =>
      obtain ⟨h1, h2⟩ := and2 (show (c.tgt i x && chkNames c is es) = true from h)
      obtain ⟨t1, t2, t3⟩ := g.tgt h1
      obtain ⟨k1, k2, k3⟩ := names_ok g h2
      refine ⟨pgs_cons (pg_name g.nodup t1 t2 t3) k1 rfl, ?_, ?_⟩
      · show (assignEach es X.env).length + 1 = is.length + 1
        rw [k2]
      · show List.findIdx? (·.1) ((false, assign (.Name x p) X.env) :: assignEach es X.env) = none
        rw [List.findIdx?_cons]
        simp [k3]
    | _ => exact ff h
end
end SLS

/-! ## S22 -/
set_option Elab.async false
set_option linter.all false
set_option autoImplicit false
set_option maxRecDepth 100000
set_option maxHeartbeats 400000
/-! Soundness 22: several names; the other statements; all of them. -/
namespace SLS
open PySem PySem.Spec PyProof.Rows L2
open SL (D Slot PV Res Ag Tgt CE CS)
section
variable {Φ : SL.Fns} {cl : Nat → Value}
theorem chkSw_inv {c : Ck} {is : List Nat} {tgs vs : List Expr} (h : chkSw c is tgs vs = true) :
    (∃ i j x px y py a b, is = [i, j] ∧ tgs = [.Name x px, .Name y py] ∧ vs = [a, b] ∧ (decide (i ≠ j) && loc c x && loc c y && decide (swF tgs vs (fun x => c.sc.names.lookup x) = some (some [x, y]))) = true) ∨
    (∃ i j l x px y py z pz a b d, is = [i, j, l] ∧ tgs = [.Name x px, .Name y py, .Name z pz] ∧ vs = [a, b, d] ∧ (decide (i ≠ j) && decide (i ≠ l) && decide (j ≠ l) && loc c x && loc c y && loc c z && decide (swF tgs vs (fun x => c.sc.names.lookup x) = some (some [x, y, z]))) = true) := by
  unfold chkSw at h
  split at h
  · exact .inl ⟨_, _, _, _, _, _, _, _, rfl, rfl, rfl, h⟩
  · exact .inr ⟨_, _, _, _, _, _, _, _, _, _, _, _, rfl, rfl, rfl, h⟩
  · cases h
theorem par_ok {is : List Nat} {es : List CE} {c : Ck} {X : Cx} {E : XK} {tgs vs : List Expr} {k k2 : Nat} {pt pt2 p : Pos} (h : chkPar c is es tgs vs = true) (g : GoodS c Φ cl X E) : PS X (.Assign [.Tuple tgs k pt] (.Tuple vs k2 pt2) p) (RdS E cl X.K (SL.exe Φ (.par is es))) := by
  obtain ⟨h1, h2⟩ := and2 h
  obtain ⟨h3, h4⟩ := and2 h1
  obtain ⟨h5, h6⟩ := and2 h3
  obtain ⟨h7, h8⟩ := and2 h5
  have h8 := tr h8
  obtain ⟨_, _, _, _, _, _, q7⟩ := sP2 (Φ := Φ) (cl := cl) es h7 g.g
  have hk : X.env.scope.kind = .function := g.g.kind
  have sw : ∀ {r : Option (List Str)}, swF tgs vs (fun x => c.sc.names.lookup x) = some r → swappedStores [.Tuple tgs k pt] (.Tuple vs k2 pt2) X.env = pure r := fun e => sw_ok hk (by rw [g.g.sc]; exact e)
  rcases Bool.or_eq_true_iff.mp h2 with h2 | h2
  · obtain ⟨n1, n2, n3⟩ := names_ok g.g h4
    exact s_parT g.g.calm n1 q7 (fun ρ ps ρ' e => by rw [evps_len e, h8]) (tr h6) n2 n3 swaps_tup (sw (tr h2))
  · rcases chkSw_inv h2 with ⟨i, j, x, px, y, py, a, b, rfl, rfl, rfl, h2⟩ | ⟨i, j, l, x, px, y, py, z, pz, a, b, d, rfl, rfl, rfl, h2⟩
    · obtain ⟨k1, k4⟩ := and2 h2
      obtain ⟨k1, k3⟩ := and2 k1
      obtain ⟨k1, k5⟩ := and2 k1
      obtain ⟨m1, m2⟩ := and2 (show (c.tgt i x && (c.tgt j y && true)) = true from h4)
      obtain ⟨m2, _⟩ := and2 m2
      exact s_par2 g.g.calm g.g.nodup (g.g.tgt m1).1 (g.g.tgt m2).1 (tr k1) (loc_ok g.g k5) (loc_ok g.g k3) q7 (fun ρ ps ρ' e => by rw [evps_len e, ← h8]; rfl) (sw (tr k4))
    · obtain ⟨k1, k7⟩ := and2 h2
      obtain ⟨k1, k6⟩ := and2 k1
      obtain ⟨k1, k5⟩ := and2 k1
      obtain ⟨k1, k4⟩ := and2 k1
      obtain ⟨k1, k3⟩ := and2 k1
      obtain ⟨k1, k0⟩ := and2 k1
      obtain ⟨m1, m2⟩ := and2 (show (c.tgt i x && (c.tgt j y && (c.tgt l z && true))) = true from h4)
      obtain ⟨m2, m3⟩ := and2 m2
      obtain ⟨m3, _⟩ := and2 m3
      exact s_par3 g.g.calm g.g.nodup (g.g.tgt m1).1 (g.g.tgt m2).1 (g.g.tgt m3).1 (tr k1) (tr k0) (tr k3) (loc_ok g.g k4) (loc_ok g.g k5) (loc_ok g.g k6) q7 (fun ρ ps ρ' e => by rw [evps_len e, ← h8]; rfl) (sw (tr k7))
theorem q1_par {is : List Nat} {es : List CE} : Q1 Φ cl (.par is es) := fun {c X E st} h g => by
  cases st with
  | Assign ts v p =>
    cases ts with
    | nil => exact ff h
    | cons tg ts =>
      cases tg with
      | Tuple tgs k pt =>
        cases ts with
        | cons _ _ => exact ff h
        | nil =>
          cases v with
          | Tuple vs k2 pt2 => exact par_ok h g
          | _ => exact ff h
      | _ => cases ts <;> exact ff h
  | _ => exact ff h
theorem q1_setI {i : Nat} {k a : CE} : Q1 Φ cl (.setI i k a) := fun {c X E st} h g => by
  cases st with
  | Assign ts v p =>
    cases ts with
    | nil => exact ff h
    | cons tg ts =>
      cases tg with
      | Subscript o y p2 =>
        cases o with
        | Name x px =>
          cases ts with
          | cons _ _ => exact ff h
          | nil =>
            obtain ⟨h1, h2⟩ := and2 (show (c.vis i x && plainE y && chkE c k y && chkE c a v) = true from h)
            obtain ⟨h3, h4⟩ := and2 h1
            obtain ⟨h5, h6⟩ := and2 h3
            exact s_setI g.g.un (sE h2 g.g) (g.g.vis h5) (sE h4 g.g) swaps_sub stores_sub (assign_sub h6)
        | _ => cases ts <;> exact ff h
      | _ => cases ts <;> exact ff h
  | _ => exact ff h
theorem q1_aug {o : SL.Op} {i : Nat} {a : CE} : Q1 Φ cl (.aug o i a) := fun {c X E st} h g => by
  cases st with
  | AugAssign tg op v p =>
    cases tg with
    | Name x px =>
      obtain ⟨h1, h2⟩ := and2 (show (decide (op = opOf o) && (decide (o = .add) || decide (o = .sub)) && c.tgt i x && chkE c a v) = true from h)
      obtain ⟨h3, h4⟩ := and2 h1
      obtain ⟨h5, h6⟩ := and2 h3
      have h5 := tr h5
      subst h5
      obtain ⟨t1, t2, t3⟩ := g.g.tgt h4
      exact s_aug ((Bool.or_eq_true_iff.mp h6).imp tr tr) g.g.nodup t1 t2 (sE h2 g.g) t3
    | _ => exact ff h
  | _ => exact ff h
theorem q1_ex {a : CE} : Q1 Φ cl (.ex a) := fun {c X E st} h g => by
  cases st with
  | Expr v p =>
    obtain ⟨h1, h2⟩ := and2 (show (notComp v && chkE c a v) = true from h)
    exact s_ex (sE h2 g.g) (swaps_no h1)
  | _ => exact ff h
theorem q1_ite {a : CE} {t f : List CS} (it : Q2 Φ cl t) (jf : Q2 Φ cl f) : Q1 Φ cl (.ite a t f) := fun {c X E st} h g => by
  cases st with
  | If x bt bf p =>
    obtain ⟨h1, h2⟩ := and2 (show (notIte a && chkE c a x && chkSs c t bt && chkSs c f bf) = true from h)
    obtain ⟨h3, h4⟩ := and2 h1
    obtain ⟨h5, h6⟩ := and2 h3
    exact s_ite (sT h5 h6 g.g) (it h4 g) (jf h2 g)
  | _ => exact ff h
theorem q1_for {t : Tgt} {it : CE} {b : List CS} (ib : Q2 Φ cl b) : Q1 Φ cl (.for t it b) := fun {c X E st} h g => by
  cases st with
  | For tg iter body oe p =>
    obtain ⟨h1, h2⟩ := and2 (show (oe.isEmpty && plainE iter && (chkI c it tg iter || chkE c it iter) && chkT c t tg && chkSs c b body) = true from h)
    obtain ⟨h3, h4⟩ := and2 h1
    obtain ⟨h5, h6⟩ := and2 h3
    obtain ⟨h7, h8⟩ := and2 h5
    cases oe with
    | cons _ _ => exact ff h7
    | nil => exact s_for g.own g.g.calm (walk_ok (sP4 it) (sP1 it) h6 g.g) (sGt g.g h4) (ib h2 g) (set_plain' h8)
  | _ => exact ff h
theorem q1_wh {a : CE} {b : List CS} (ib : Q2 Φ cl b) : Q1 Φ cl (.wh a b) := fun {c X E st} h g => by
  cases st with
  | While x body oe p =>
    obtain ⟨h1, h2⟩ := and2 (show (oe.isEmpty && notIte a && chkE c a x && chkSs c b body) = true from h)
    obtain ⟨h3, h4⟩ := and2 h1
    obtain ⟨h5, h6⟩ := and2 h3
    cases oe with
    | cons _ _ => exact ff h5
    | nil => exact s_while g.own (sT h6 h4 g.g) (ib h2 g) SL.WF
  | _ => exact ff h
theorem q1_ret {a : CE} : Q1 Φ cl (.ret a) := fun {c X E st} h g => by
  cases st with
  | Return v p =>
    cases v with
    | none => exact ff h
    | some v => exact s_ret (sE (show chkE c a v = true from h) g.g)
  | _ => exact ff h
theorem q1_raise {k : Nat} : Q1 Φ cl (.raise k) := fun {c X E st} h g => by
  cases st with
  | Raise e co p =>
    cases e with
    | none => exact ff h
    | some e =>
      cases e with
      | Call fe xs kws pc =>
        cases fe with
        | Name x px =>
          cases kws with
          | nil =>
            cases co with
            | some _ => exact ff h
            | none =>
              cases xs with
              | nil => exact ff h
              | cons y xs =>
                cases y with
                | Constant v j p2 =>
                  cases v with
                  | str m =>
                    cases xs with
                    | cons _ _ => exact ff h
                    | nil =>
                      obtain ⟨h1, h2⟩ := and2 (show (decide (c.ex k = some x) && c.glo x) = true from h)
                      obtain ⟨hg, hd⟩ := g.g.glo h2
                      exact s_raise g.g.calm g.tk (g.exs k x (tr h1)) hg hd
                  | _ => cases xs <;> exact ff h
                | _ => cases xs <;> exact ff h
          | cons _ _ => exact ff h
        | _ => exact ff h
      | _ => exact ff h
  | _ => exact ff h
theorem q1_pass : Q1 Φ cl .pass := fun {c X E st} h g => by
  cases st with
  | Pass p => exact s_pass
  | _ => exact ff h
theorem q2_nil : Q2 Φ cl [] := fun {c X E sts} h g => by
  cases sts with
  | nil => exact ss_nil
  | cons _ _ => exact ff h
theorem q2_cons {s : CS} {ss : List CS} (i1 : Q1 Φ cl s) (i2 : Q2 Φ cl ss) : Q2 Φ cl (s :: ss) := fun {c X E sts} h g => by
  cases sts with
  | nil => exact ff h
  | cons st sts =>
    obtain ⟨h1, h2⟩ := and2 (show (chkS c s st && chkSs c ss sts) = true from h)
    exact ss_cons (i1 h1 g) (i2 h2 g)
end
mutual
theorem sS {Φ : SL.Fns} {cl : Nat → Value} : ∀ s : CS, Q1 Φ cl s
  | .asg i a => q1_asg
  | .unp t a => q1_unp
  | .par is es => q1_par
  | .setI i k a => q1_setI
  | .swap _ _ _ _ _ _ => fun h g => ff h
  | .aug o i a => q1_aug
  | .ex a => q1_ex
  | .ite a t f => q1_ite (sSs t) (sSs f)
  | .for t it b => q1_for (sSs b)
  | .wh a b => q1_wh (sSs b)
  | .ret a => q1_ret
  | .raise k => q1_raise
  | .pass => q1_pass
theorem sSs {Φ : SL.Fns} {cl : Nat → Value} : ∀ ss : List CS, Q2 Φ cl ss
  | [] => q2_nil
  | s :: ss => q2_cons (sS s) (sSs ss)
end
end SLS

/-! ## S23 -/
set_option Elab.async false
set_option linter.all false
set_option autoImplicit false
set_option maxRecDepth 100000
set_option maxHeartbeats 400000
/-! Soundness 23: functions. -/
namespace SLS
open PySem PySem.Spec PyProof.Rows L2
open SL (D Slot PV Res Ag Tgt CE CS)
section
variable {K : PySem.W.Frag} {C : Cfg} {F H : Hp} {σ : List (Option V)} {ρ ρ' : List Slot}
theorem lent_get {ss : List Slot} {j : Nat} {t : Slot} (e : (SL.lent ss ρ)[j]? = some t) : j < ss.length ∧ (t = .no ∨ ∃ d, t = .br d ∧ ρ[j]? = some (.br d)) := by
  unfold SL.lent at e
  rw [List.getElem?_map] at e
  obtain ⟨i, h1, h2⟩ := Option.map_eq_some_iff.mp e
  obtain ⟨hj, h3⟩ := List.getElem?_eq_some_iff.mp h1
  rw [List.length_range] at hj
  rw [List.getElem_range] at h3
  subst h3
  refine ⟨hj, ?_⟩
  cases q : SL.look ρ j with
  | br d => rw [q] at h2; exact .inr ⟨d, h2.symm, look_own q (fun z => nomatch z)⟩
  | no => rw [q] at h2; exact .inl h2.symm
  | sh d => rw [q] at h2; exact .inl h2.symm
  | mu d => rw [q] at h2; exact .inl h2.symm
  | lk d => rw [q] at h2; exact .inl h2.symm
theorem lent_len {ss : List Slot} : (SL.lent ss ρ).length = ss.length := by unfold SL.lent; simp
theorem Fs.lentX {vs : List V} {ss : List Slot} {v : Option V} {t : Slot} {B F0 : Hp} (s : Fs K (callCfg F0 B vs) F H (σ ++ [v]) (ρ' ++ [t])) (hl : σ.length = ρ'.length) (hk : Keep ρ ρ') (hs : ss.length = vs.length) (ht : (∀ d, t ≠ .br d) ∧ (∀ d, t ≠ .lk d)) :
    Fs K (callCfg F0 B vs) F H (vs.map some ++ [v]) (SL.lent ss ρ ++ [t]) := by
  have lastR : (ρ' ++ [t])[ρ'.length]? = some t := by simp
  have lastV : (σ ++ [v])[ρ'.length]? = some v := by rw [← hl]; simp
  have L1 : (vs.map some ++ [v])[vs.length]? = some v := by simp
  have cs : ∀ {j : Nat} {u : Slot}, (SL.lent ss ρ ++ [t])[j]? = some u → (j < vs.length ∧ (u = .no ∨ ∃ d, u = .br d ∧ (ρ' ++ [t])[j]? = some (.br d) ∧ j < ρ'.length)) ∨ (j = vs.length ∧ u = t) := fun {j u} e => by
    by_cases hj : j < (SL.lent ss ρ).length
    · rw [List.getElem?_append_left hj] at e
      obtain ⟨h1, h2⟩ := lent_get e
      refine .inl ⟨by omega, h2.imp id fun ⟨d, h3, h4⟩ => ?_⟩
      have h5 := hk.2 j d h4
      have h6 := lt_of_some h5
      exact ⟨d, h3, by rw [List.getElem?_append_left h6]; exact h5, h6⟩
    · rw [List.getElem?_append_right (by omega)] at e
      have hlen : (SL.lent ss ρ).length = vs.length := by rw [lent_len, hs]
      have h0 : j - (SL.lent ss ρ).length = 0 := by
        have := (List.getElem?_eq_some_iff.mp e).1
        simp at this
        omega
      rw [h0] at e
      exact .inr ⟨by omega, (Option.some.inj e).symm⟩
  have brv : ∀ {j : Nat} {d : D}, (ρ' ++ [t])[j]? = some (.br d) → j < ρ'.length → ∃ x, ((σ ++ [v])[j]?).join = some x ∧ OwnAt K F B H x d ∧ vs[j]? = some x := fun {j d} e h => by
    obtain ⟨x, h1, h2, h3⟩ := s.slot j _ e
    exact ⟨x, h1, h2, h3⟩
  refine ⟨s.sub, s.old, s.frm, s.grow, by rw [List.length_append, List.length_append, List.length_map, lent_len, hs]; rfl, fun j u e => ?_, fun i j u w p e1 e2 o1 o2 v1 v2 => ?_⟩
  · rcases cs e with ⟨h1, rfl | ⟨d, rfl, h2, h3⟩⟩ | ⟨rfl, rfl⟩
    · trivial
    · obtain ⟨x, _, h4, h5⟩ := brv h2 h3
      refine ⟨x, ?_, h4, h5⟩
      rw [List.getElem?_append_left (by simpa using h1), List.getElem?_map, h5]; rfl
    · have q := s.slot ρ'.length _ lastR
      rw [lastV] at q
      rw [L1]
      cases u with
      | no => trivial
      | sh d => exact q
      | mu d => exact q
      | br d => exact absurd rfl (ht.1 d)
      | lk d => exact absurd rfl (ht.2 d)
  · have key : ∀ {j : Nat} {u : Slot}, (SL.lent ss ρ ++ [t])[j]? = some u → owned u → ((vs.map some ++ [v])[j]?).join = some (V.ref p) → ∃ i, (ρ' ++ [t])[i]? = some u ∧ ((σ ++ [v])[i]?).join = some (V.ref p) ∧ ((j < vs.length ∧ i = j ∧ i < ρ'.length) ∨ (j = vs.length ∧ i = ρ'.length)) := fun {j u} e o hv => by
      rcases cs e with ⟨h1, rfl | ⟨d, rfl, h2, h3⟩⟩ | ⟨rfl, rfl⟩
      · exact o.elim
      · obtain ⟨x, h6, _, h5⟩ := brv h2 h3
        rw [List.getElem?_append_left (by simpa using h1), List.getElem?_map, h5] at hv
        cases hv
        exact ⟨j, h2, h6, .inl ⟨h1, rfl, h3⟩⟩
      · rw [L1] at hv
        exact ⟨ρ'.length, lastR, by rw [lastV]; exact hv, .inr ⟨rfl, rfl⟩⟩
    obtain ⟨a, a1, a2, a3⟩ := key e1 o1 v1
    obtain ⟨b, b1, b2, b3⟩ := key e2 o2 v2
    have := s.inj a b u w p a1 b1 o1 o2 a2 b2
    omega
theorem Fs.addSh {v : V} {d : D} (s : Fs K C F H σ ρ) (r : Rp K F v d) : Fs K C F H (σ ++ [some v]) (ρ ++ [.sh d]) := by
  have hl := s.len
  have cs : ∀ {j : Nat} {u : Slot}, (ρ ++ [Slot.sh d])[j]? = some u → (j < ρ.length ∧ ρ[j]? = some u) ∨ (j = ρ.length ∧ u = .sh d) := fun {j u} e => by
    by_cases hj : j < ρ.length
    · rw [List.getElem?_append_left hj] at e; exact .inl ⟨hj, e⟩
    · rw [List.getElem?_append_right (by omega)] at e
      have h0 : j - ρ.length = 0 := by
        have := (List.getElem?_eq_some_iff.mp e).1
        simp at this
        omega
      rw [h0] at e
      exact .inr ⟨by omega, (Option.some.inj e).symm⟩
  have up : ∀ {j : Nat}, j < ρ.length → (σ ++ [some v])[j]? = σ[j]? := fun {j} h => List.getElem?_append_left (by omega)
  refine ⟨s.sub, s.old, s.frm, s.grow, by simp [hl], fun j u e => ?_, fun i j u w p e1 e2 o1 o2 v1 v2 => ?_⟩
  · rcases cs e with ⟨h, e⟩ | ⟨rfl, rfl⟩
    · rw [up h]; exact s.slot j u e
    · exact ⟨v, by rw [← hl]; simp, r⟩
  · rcases cs e1 with ⟨h, e1⟩ | ⟨_, rfl⟩
    · rcases cs e2 with ⟨g, e2⟩ | ⟨_, rfl⟩
      · rw [up h] at v1; rw [up g] at v2
        exact s.inj i j u w p e1 e2 o1 o2 v1 v2
      · exact o2.elim
    · exact o1.elim
theorem Fs.pad (s : Fs K C F H σ ρ) : ∀ n : Nat, Fs K C F H (σ ++ List.replicate n none) (ρ ++ List.replicate n .no)
  | 0 => by simpa using s
  | n + 1 => by
    have hl := s.len
    have cs : ∀ {j : Nat} {u : Slot}, (ρ ++ List.replicate (n + 1) Slot.no)[j]? = some u → (j < ρ.length ∧ ρ[j]? = some u) ∨ u = .no := fun {j u} e => by
      by_cases hj : j < ρ.length
      · rw [List.getElem?_append_left hj] at e; exact .inl ⟨hj, e⟩
      · rw [List.getElem?_append_right (by omega), List.getElem?_replicate] at e
        split at e
        · exact .inr (Option.some.inj e).symm
        · cases e
    have up : ∀ {j : Nat}, j < ρ.length → (σ ++ List.replicate (n + 1) none)[j]? = σ[j]? := fun {j} h => List.getElem?_append_left (by omega)
    refine ⟨s.sub, s.old, s.frm, s.grow, by simp [hl], fun j u e => ?_, fun i j u w p e1 e2 o1 o2 v1 v2 => ?_⟩
    · rcases cs e with ⟨h, e⟩ | rfl
      · rw [up h]; exact s.slot j u e
      · trivial
    · rcases cs e1 with ⟨h, e1⟩ | rfl
      · rcases cs e2 with ⟨g, e2⟩ | rfl
        · rw [up h] at v1; rw [up g] at v2
          exact s.inj i j u w p e1 e2 o1 o2 v1 v2
        · exact o2.elim
      · exact o1.elim
end
/-- a function's body from its promise -/
theorem body_rd {K : PySem.W.Frag} {cl : Nat → Value} {Φ : SL.Fns} {d : SL.CDef} {N : List Str} {vs : List V} {H : Hp} {Q : VK} {E : XK} (hN : N.length = d.n) (h : SpF K cl (SL.runDef Φ d) vs H Q E) :
    vs.length = d.ps ∧ RdS E cl K (SL.exes Φ d.body) { nx := fun _ H' => Q .non H', rt := Q } (L2.start N vs) H := by
  obtain ⟨F, B, ss, s, o⟩ := h
  have hl : vs.length = ss.length := by have := s.len; simpa using this
  unfold SL.runDef at o
  by_cases hp : ss.length = d.ps
  case neg => rw [if_neg hp] at o; exact False.elim o
  rw [if_pos hp] at o
  refine ⟨by omega, callCfg F B vs, F, ss ++ List.replicate (d.n - d.ps) .no, ?_, ?_⟩
  · have z := s.pad (d.n - d.ps)
    unfold L2.start
    rw [hN, hl, hp]
    exact z
  · cases q : SL.exes Φ d.body (ss ++ List.replicate (d.n - d.ps) .no) with
    | stuck => rw [q] at o; exact False.elim o
    | exc k ρ =>
      rw [q] at o
      intro σ' F' H' sf f
      refine o F' H' ?_
      have z := (f.addSh (v := .non) (d := .non) .non).lentX f.len (ρ := ρ) .refl hl.symm ⟨fun _ e => (nomatch e), fun _ e => (nomatch e)⟩
      exact z.drop (by rw [List.length_map, lent_len]; exact hl)
    | ok fl ρ =>
      rw [q] at o
      cases fl with
      | nx =>
        intro σ' F' H' sf f
        exact o .non F' H' ((f.addSh (v := .non) (d := .non) .non).lentX f.len (ρ := ρ) .refl hl.symm ⟨fun _ e => (nomatch e), fun _ e => (nomatch e)⟩)
      | ret p =>
        intro v F' H' sf ⟨σ', ρ', hk, hh⟩
        refine o v F' H' ?_
        cases p with
        | slot i => exact hh.elim
        | sh e => exact (hh.1.addSh hh.2).lentX hh.1.len hk hl.symm ⟨fun _ e => (nomatch e), fun _ e => (nomatch e)⟩
        | mu e => exact hh.2.lentX hh.1 hk hl.symm ⟨fun _ e => (nomatch e), fun _ e => (nomatch e)⟩
end SLS

/-! ## S24 -/
set_option Elab.async false
set_option linter.all false
set_option autoImplicit false
set_option maxRecDepth 100000
set_option maxHeartbeats 400000
/-! Soundness 24: a text's functions. -/
namespace SLS
open PySem PySem.Spec PyProof.Rows L2
open SL (D Slot PV Res Ag Tgt CE CS)
/-- what the written part says of an exception's class -/
structure ExcK (K : PySem.W.Frag) (mg : Str → Option Value) (cl : Nat → Value) (k : Nat) (x : Str) : Prop where
  ex : ∃ C, cl k = .ref C ∧ PySem.W.excIn K C [.type "ValueError", .type "Exception", .type "BaseException", .type "object"] "ValueError.__new__" = true ∧ mg x = some (.ref C) ∧ PySem.W.keepIn K (.ref C) = true ∧ PySem.W.subIn K (.ref C) (.type "BaseException") = some true ∧ PySem.W.typeIn K (.ref C) = some (.type "type")
/-- a function of the text, checked -/
structure FnK (K : PySem.W.Frag) (mg : Str → Option Value) (Γ : Nat → Option SL.CDef) (nm : Nat → Option Str) (gc : Str → Option D) (ex : Nat → Option Str) (i : Nat) (x : Str) : Prop where
  ex : ∃ (st : Stmt) (f : Addr) (fd : FuncData) (d : SL.CDef) (N ps : List Str), Γ i = some d ∧ L2.Fun K x x st f fd ∧ mg x = some (.ref f) ∧ L2.Binds K fd ps [] ∧ FnScope N ps (defScope st) ∧ N.length = d.n ∧ ps.length = d.ps ∧ chkSs ⟨N, defScope st, none, nm, gc, ex⟩ d.body (defBody st) = true
structure Txt (K : PySem.W.Frag) (mg : Str → Option Value) (cl : Nat → Value) (Γ : Nat → Option SL.CDef) (nm : Nat → Option Str) (gc : Str → Option D) (ex : Nat → Option Str) : Prop where
  fn : ∀ i x, nm i = some x → FnK K mg Γ nm gc ex i x
  bm : ∀ x ∈ bnames, mg x = none
  gl : ∀ x d, gc x = some d → ∃ v u, mg x = some u ∧ RelV v u ∧ ∀ F, Rp K F v d
  exs : ∀ k x, ex k = some x → ExcK K mg cl k x
/-- a function at a level -/
def AtL (P : Program) (w : World) (K : PySem.W.Frag) (mg : Str → Option Value) (base : Heap) (cl : Nat → Value) (Γ : Nat → Option SL.CDef) (n i : Nat) (x : Str) : Prop :=
  ∃ (f : Addr) (fd : FuncData) (ps : List Str), FnOk P w K mg base (L2.CX P w) n f fd ps (SpF K cl (SL.run Γ n i)) ∧ mg x = some (.ref f) ∧ PySem.W.keepIn K (.ref f) = true ∧ L2.Binds K fd ps []
theorem tab_ok {P : Program} {w : World} {K : PySem.W.Frag} {mg : Str → Option Value} {base : Heap} {cl : Nat → Value} {Γ : Nat → Option SL.CDef} {nm : Nat → Option Str} {gc : Str → Option D} {ex : Nat → Option Str} (T : Txt K mg cl Γ nm gc ex) :
    ∀ (n i : Nat) (x : Str), nm i = some x → AtL P w K mg base cl Γ n i x
  | 0, i, x, h => by
    obtain ⟨st, f, fd, d, N, ps, _, F, hm, hb, _⟩ := (T.fn i x h).ex
    have no : ∀ vs H Q E, SpF K cl (SL.run Γ 0 i) vs H Q E → False := fun vs H Q E ⟨_, _, _, _, z⟩ => z
    exact ⟨f, fd, ps, ⟨fun vs H Q E z => (no vs H Q E z).elim, fun A outer s H args us vs Q E _ _ _ _ z => (no vs H Q E z).elim⟩, hm, F.kp, hb⟩
  | n + 1, i, x, h => by
    obtain ⟨st, f, fd, d, N, ps, hd, F, hm, hb, S, hN, hps, hc⟩ := (T.fn i x h).ex
    have er : SL.run Γ (n + 1) i = SL.runDef (SL.run Γ n) d := by
      funext as
      show (match Γ i with | some c => SL.runDef (SL.run Γ n) c as | none => .stuck) = _
      rw [hd]
    refine ⟨f, fd, ps, ?_, hm, F.kp, hb⟩
    rw [er]
    refine F.okX S (fun vs H Q E z => (body_rd hN z).1.trans hps.symm) (fun cdv A outer s H vs Q E hr z => ⟨RdS E cl K (SL.exes (SL.run Γ n) d.body), ?_, (body_rd hN z).2⟩)
    have tk : Takes (cxOf (L2.CX P w) P w K mg base N x (defScope st) f cdv A outer s H E) (fun cls dd _ H => E cls dd H) := takes_of rfl rfl rfl rfl
    have G : GoodS ⟨N, defScope st, none, nm, gc, ex⟩ (SL.run Γ n) cl (cxOf (L2.CX P w) P w K mg base N x (defScope st) f cdv A outer s H E) E :=
      { g := { n := rfl, nd := S.nd, sc := rfl, kind := S.kind, fn := rfl, calm := rfl
               un := by have := hr.un; show (A.deeper _).units + 100 < cLine; omega
               bm := T.bm
               fns := fun j y hj => by
                 obtain ⟨a, fd', ps', h1, h2, h3, h4⟩ := tab_ok T n j y hj
                 exact ⟨a, fd', ps', n, h1, hr, h2, h3, h4⟩
               pass := passes_call tk fun _ _ _ _ z => z
               gl := T.gl }
        own := passes_of rfl
        tk := tk
        exs := fun k y hk => by
          obtain ⟨C, e1, e2, e3, e4, e5, e6⟩ := (T.exs k y hk).ex
          exact ⟨C, e1, e2, e3, e4, raises_own e5 e6⟩ }
    exact sSs d.body hc G
end SLS

/-! ## S25 -/
set_option Elab.async false
set_option linter.all false
set_option autoImplicit false
set_option maxRecDepth 100000
set_option maxHeartbeats 400000
/-! Soundness 25: a law's head. -/
namespace SLS
open PySem PySem.Spec PyProof.Rows L2
open SL (D Slot PV Res Ag Tgt CE CS)
/-- the law's promise at the script -/
theorem law_sp {K : PySem.W.Frag} {cl : Nat → Value} {f : List Slot → SL.Out} {l : List Slot} {H : Hp} {a : Addr} {ns : List Int} (h : f [.sh (.lst (ns.map .int))] = .ret (.sh (.bl true)) l) (hS : SqL K H a (ns.map V.int)) :
    SpF K cl f [.ref a] H (fun v _ => v = .bl true) fun _ _ _ => False := by
  refine ⟨H, H, _, args_fs0 (vs := [.ref a]) (ds := [.lst (ns.map .int)]) (.cons (.lst hS (Rps.of_map (f := V.int) (g := D.int) (fun i => .int i) ns)) .nil) (Same.refl H), ?_⟩
  have e : f ([D.lst (ns.map .int)].map Slot.sh) = .ret (.sh (.bl true)) l := h
  rw [e]
  intro v F' H' c
  obtain ⟨_, q⟩ := c.last
  obtain ⟨x, ex, r⟩ := q
  cases ex
  cases r
  rfl
/-- the promise of a law: true at every script of so many numbers -/
def spLaw (K : PySem.W.Frag) : Sp := fun vs H Q _ => ∃ (a : Addr) (ns : List Int), vs = [.ref a] ∧ SqL K H a (ns.map V.int) ∧ ns.length ≤ 63 ∧ (∀ z ∈ ns, Builtin.Int.intBits z ≤ 1048576) ∧ ∀ H', Q (.bl true) H'
theorem law_imp {K : PySem.W.Frag} {cl : Nat → Value} {f : List Slot → SL.Out} (h : ∀ ns : List Int, ns.length ≤ 63 → (∀ z ∈ ns, Builtin.Int.intBits z ≤ 1048576) → ∃ l, f [.sh (.lst (ns.map .int))] = .ret (.sh (.bl true)) l) (vs : List V) (H : Hp) (Q : VK) (E : XK) (z : spLaw K vs H Q E) : SpF K cl f vs H Q E := by
  obtain ⟨a, ns, rfl, hS, h63, hb, q⟩ := z
  obtain ⟨l, h⟩ := h ns h63 hb
  refine ⟨H, H, _, args_fs0 (vs := [.ref a]) (ds := [.lst (ns.map .int)]) (.cons (.lst hS (Rps.of_map (f := V.int) (g := D.int) (fun i => .int i) ns)) .nil) (Same.refl H), ?_⟩
  have e : f ([D.lst (ns.map .int)].map Slot.sh) = .ret (.sh (.bl true)) l := h
  rw [e]
  intro v F' H' c
  obtain ⟨_, q2⟩ := c.last
  obtain ⟨x, ex, r⟩ := q2
  cases ex
  cases r
  exact q H'
/-- the law's def from the table -/
theorem law_def {P : Program} {w : World} {K : PySem.W.Frag} {mg : Str → Option Value} {cl : Nat → Value} {Γ : Nat → Option SL.CDef} {nm : Nat → Option Str} {gc : Str → Option D} {ex : Nat → Option Str} (T : Txt K mg cl Γ nm gc ex) {i n : Nat} {st : Stmt} {f : Addr} {fd : FuncData} {d : SL.CDef} {N : List Str} {s : Str}
    (hd : Γ i = some d) (F : L2.Fun K "law" "law" st f fd) (S : FnScope N [s] (defScope st)) (hN : N.length = d.n) (hps : 1 = d.ps) (hc : chkSs ⟨N, defScope st, none, nm, gc, ex⟩ d.body (defBody st) = true) (base : Heap) :
    FnOk P w K mg base (L2.CX P w) (n + 1) f fd [s] (SpF K cl (SL.run Γ (n + 1) i)) := by
  have er : SL.run Γ (n + 1) i = SL.runDef (SL.run Γ n) d := by
    funext as
    show (match Γ i with | some c => SL.runDef (SL.run Γ n) c as | none => .stuck) = _
    rw [hd]
  rw [er]
  refine F.okX S (fun vs H Q E z => (body_rd hN z).1.trans hps.symm) (fun cdv A outer s' H vs Q E hr z => ⟨RdS E cl K (SL.exes (SL.run Γ n) d.body), ?_, (body_rd hN z).2⟩)
  have tk : Takes (cxOf (L2.CX P w) P w K mg base N "law" (defScope st) f cdv A outer s' H E) (fun cls dd _ H => E cls dd H) := takes_of rfl rfl rfl rfl
  have G : GoodS ⟨N, defScope st, none, nm, gc, ex⟩ (SL.run Γ n) cl (cxOf (L2.CX P w) P w K mg base N "law" (defScope st) f cdv A outer s' H E) E :=
    { g := { n := rfl, nd := S.nd, sc := rfl, kind := S.kind, fn := rfl, calm := rfl
             un := by have := hr.un; show (A.deeper _).units + 100 < cLine; omega
             bm := T.bm
             fns := fun j y hj => by
               obtain ⟨a, fd', ps', h1, h2, h3, h4⟩ := tab_ok T n j y hj
               exact ⟨a, fd', ps', n, h1, hr, h2, h3, h4⟩
             pass := passes_call tk fun _ _ _ _ z => z
             gl := T.gl }
      own := passes_of rfl
      tk := tk
      exs := fun k y hk => by
        obtain ⟨C, e1, e2, e3, e4, e5, e6⟩ := (T.exs k y hk).ex
        exact ⟨C, e1, e2, e3, e4, raises_own e5 e6⟩ }
  exact sSs d.body hc G
/-- nothing is let out of a law -/
theorem cx_none {P : Program} {w : World} {H : Hp} {s : Shared} {e : Value} {s' : Shared} (h : L2.CX P w [] H s (fun _ _ _ => False) e s') : False := by
  obtain ⟨_, _, _, _, _, _, _, _, _, _, _, _, z⟩ := h
  exact z
end SLS

/-! ## P0 -/
set_option maxRecDepth 100000
set_option linter.all false
set_option autoImplicit false
namespace SL
theorem run_succ {Γ : Nat → Option CDef} {n f : Nat} {c : CDef} (h : Γ f = some c) (as : List Slot) : run Γ (n + 1) f as = runDef (run Γ n) c as := by
  show (match Γ f with | some c => runDef (run Γ n) c as | none => .stuck) = _
  rw [h]
section
variable {α β γ : Type}
/-- bind, of which a rewriting leaves the second part alone -/
inductive Tag {γ : Type} (a : γ) : Type where | mk
def Res.bt (r : Res α) (f : α → Env → Res β) (t : Tag f := .mk) : Res β := r.bind f
theorem bt_ok (a : α) (ρ : Env) (f : α → Env → Res β) (t : Tag f) : (Res.ok a ρ).bt f t = f a ρ := rfl
theorem bt_exc (k : Nat) (ρ : Env) (f : α → Env → Res β) (t : Tag f) : (Res.exc k ρ : Res α).bt f t = .exc k ρ := rfl
theorem bt_stuck (f : α → Env → Res β) (t : Tag f) : (Res.stuck : Res α).bt f t = .stuck := rfl
@[scoped simp] theorem bind_ok (a : α) (ρ : Env) (f : α → Env → Res β) : (Res.ok a ρ).bind f = f a ρ := rfl
@[scoped simp] theorem bind_exc (k : Nat) (ρ : Env) (f : α → Env → Res β) : (Res.exc k ρ).bind f = .exc k ρ := rfl
@[scoped simp] theorem bind_stuck (f : α → Env → Res β) : (Res.stuck).bind f = .stuck := rfl
@[scoped simp] theorem lift_some (a : α) (ρ : Env) : lift (some a) ρ = .ok a ρ := rfl
@[scoped simp] theorem liftE_some (ρ : Env) : liftE (some ρ) = .ok () ρ := rfl
@[scoped simp] theorem calm_ok (a : α) (ρ : Env) : (Res.ok a ρ).calm = .ok a ρ := rfl
/-! ### loops -/
/-- a for loop: every turn goes on, or one returns -/
theorem forD_inv {t : Tgt} {b : Env → Res Flow} {g : α → D} (Inv : List α → Env → Prop) (R : PV → Env → Prop) :
    ∀ (ys done : List α) (ρ : Env), Inv done ρ →
      (∀ d x rest ρ, d ++ x :: rest = done ++ ys → Inv d ρ → ∃ ρ1, setT ρ t (g x) = some ρ1 ∧ ((∃ ρ2, b ρ1 = .ok .nx ρ2 ∧ Inv (d ++ [x]) ρ2) ∨ ∃ r ρ2, b ρ1 = .ok (.ret r) ρ2 ∧ R r ρ2)) →
      (∃ ρ', forD t b (ys.map g) ρ = .ok .nx ρ' ∧ Inv (done ++ ys) ρ') ∨ ∃ r ρ', forD t b (ys.map g) ρ = .ok (.ret r) ρ' ∧ R r ρ'
  | [], done, ρ, h0, _ => .inl ⟨ρ, rfl, by simpa using h0⟩
  | y :: ys, done, ρ, h0, hs => by
    obtain ⟨ρ1, e1, h⟩ := hs done y ys ρ rfl h0
    rcases h with ⟨ρ2, e2, h2⟩ | ⟨r, ρ2, e2, h2⟩
    · have := forD_inv Inv R ys (done ++ [y]) ρ2 h2 (fun d x rest ρ e hi => hs d x rest ρ (by simpa using e) hi)
      simp only [List.map_cons, forD, e1, e2, bind_ok]
      simpa using this
    · refine .inr ⟨r, ρ2, ?_, h2⟩
      simp only [List.map_cons, forD, e1, e2, bind_ok]
theorem forD_nx {t : Tgt} {b : Env → Res Flow} {g : α → D} {ys : List α} {ρ : Env} (Inv : List α → Env → Prop) (h0 : Inv [] ρ)
    (hs : ∀ d x rest ρ, d ++ x :: rest = ys → Inv d ρ → ∃ ρ1, setT ρ t (g x) = some ρ1 ∧ ∃ ρ2, b ρ1 = .ok .nx ρ2 ∧ Inv (d ++ [x]) ρ2) :
    ∃ ρ', forD t b (ys.map g) ρ = .ok .nx ρ' ∧ Inv ys ρ' := by
  rcases forD_inv (g := g) Inv (fun _ _ => False) ys [] ρ h0 (fun d x rest ρ e hi => by
    obtain ⟨ρ1, e1, h⟩ := hs d x rest ρ (by simpa using e) hi
    exact ⟨ρ1, e1, .inl h⟩) with h | ⟨_, _, _, h⟩
  · simpa using h
  · exact h.elim
theorem whileD_inv {c : Env → Res Bool} {b : Env → Res Flow} (Inv : Env → Prop) (Post : Env → Prop) (R : PV → Env → Prop) (μ : Env → Nat)
    (hs : ∀ ρ, Inv ρ → (∃ ρ1, c ρ = .ok false ρ1 ∧ Post ρ1) ∨ (∃ ρ1, c ρ = .ok true ρ1 ∧ ((∃ ρ2, b ρ1 = .ok .nx ρ2 ∧ Inv ρ2 ∧ μ ρ2 < μ ρ) ∨ ∃ r ρ2, b ρ1 = .ok (.ret r) ρ2 ∧ R r ρ2))) :
    ∀ (n : Nat) (ρ : Env), Inv ρ → μ ρ < n → (∃ ρ', whileD c b n ρ = .ok .nx ρ' ∧ Post ρ') ∨ ∃ r ρ', whileD c b n ρ = .ok (.ret r) ρ' ∧ R r ρ'
  | 0, _, _, h => absurd h (Nat.not_lt_zero _)
  | n + 1, ρ, hi, hn => by
    rcases hs ρ hi with ⟨ρ1, e, hp⟩ | ⟨ρ1, e, h⟩
    · exact .inl ⟨ρ1, by simp only [whileD, e, bind_ok]; rfl, hp⟩
    · rcases h with ⟨ρ2, e2, h2, hm⟩ | ⟨r, ρ2, e2, h2⟩
      · have := whileD_inv Inv Post R μ hs n ρ2 h2 (by omega)
        simpa only [whileD, e, e2, bind_ok, if_true] using this
      · exact .inr ⟨r, ρ2, by simp only [whileD, e, e2, bind_ok, if_true], h2⟩
theorem whileD_nx {c : Env → Res Bool} {b : Env → Res Flow} {n : Nat} {ρ : Env} (Inv : Env → Prop) (Post : Env → Prop) (μ : Env → Nat) (h0 : Inv ρ) (hn : μ ρ < n)
    (hs : ∀ ρ, Inv ρ → (∃ ρ1, c ρ = .ok false ρ1 ∧ Post ρ1) ∨ (∃ ρ1, c ρ = .ok true ρ1 ∧ (∃ ρ2, b ρ1 = .ok .nx ρ2 ∧ Inv ρ2 ∧ μ ρ2 < μ ρ))) :
    ∃ ρ', whileD c b n ρ = .ok .nx ρ' ∧ Post ρ' := by
  rcases whileD_inv Inv Post (fun _ _ => False) μ (fun ρ hi => by
    rcases hs ρ hi with h | ⟨ρ1, e, h⟩
    · exact .inl h
    · exact .inr ⟨ρ1, e, .inl h⟩) n ρ h0 hn with h | ⟨_, _, _, h⟩
  · exact h
  · exact h.elim
/-- a comprehension's turns, with an invariant -/
theorem turns_inv {o : Option Nat} {own : List Nat} {t : Tgt} {body : Env → List D → Res (List D)} {g : α → D} (Inv : List α → List D → Env → Prop) :
    ∀ (ys done : List α) (acc : List D) (ρ : Env), Inv done acc ρ → (∀ d a ρ, Inv d a ρ → guard o ρ = true) →
      (∀ d x rest a ρ, d ++ x :: rest = done ++ ys → Inv d a ρ → ∃ ρ1, setT (wipe ρ own) t (g x) = some ρ1 ∧ ∃ a2 ρ2, body ρ1 a = .ok a2 ρ2 ∧ Inv (d ++ [x]) a2 ρ2) →
      ∃ a' ρ', turns o own t body (ys.map g) acc ρ = .ok a' ρ' ∧ Inv (done ++ ys) a' ρ'
  | [], done, acc, ρ, h0, hg, _ => ⟨acc, ρ, by simp only [List.map_nil, turns, hg _ _ _ h0, if_true], by simpa using h0⟩
  | y :: ys, done, acc, ρ, h0, hg, hs => by
    obtain ⟨ρ1, e1, a2, ρ2, e2, h2⟩ := hs done y ys acc ρ rfl h0
    have := turns_inv Inv ys (done ++ [y]) a2 ρ2 h2 hg (fun d x rest a ρ e hi => hs d x rest a ρ (by simpa using e) hi)
    simp only [List.map_cons, turns, hg _ _ _ h0, if_true, e1, e2, calm_ok, bind_ok]
    simpa using this
/-- turns that leave the names as they are -/
theorem turns_map {o : Option Nat} {own : List Nat} {t : Tgt} {body : Env → List D → Res (List D)} {g : α → D} (f : α → List D) (env : α → Env) (W : Env) :
    ∀ (ys : List α) (acc : List D) (ρ : Env), wipe ρ own = W → guard o ρ = true →
      (∀ x ∈ ys, setT W t (g x) = some (env x) ∧ (∀ acc, body (env x) acc = .ok (acc ++ f x) (env x)) ∧ wipe (env x) own = W ∧ guard o (env x) = true) →
      ∃ ρ', turns o own t body (ys.map g) acc ρ = .ok (acc ++ ys.flatMap f) ρ' ∧ (ρ' = ρ ∨ ∃ x ∈ ys, ρ' = env x)
  | [], acc, ρ, hw, hg, _ => ⟨ρ, by simp only [List.map_nil, turns, hg, if_true, List.flatMap_nil, List.append_nil], .inl rfl⟩
  | y :: ys, acc, ρ, hw, hg, hs => by
    obtain ⟨e1, e2, e3, e4⟩ := hs y (List.mem_cons_self ..)
    obtain ⟨ρ', h1, h2⟩ := turns_map f env W ys (acc ++ f y) (env y) e3 e4 (fun x hx => hs x (List.mem_cons_of_mem _ hx))
    refine ⟨ρ', ?_, .inr ?_⟩
    · simp only [List.map_cons, turns, hg, if_true, hw, e1, e2, calm_ok, bind_ok, h1, List.flatMap_cons, List.append_assoc]
    · rcases h2 with rfl | ⟨x, hx, rfl⟩
      · exact ⟨y, List.mem_cons_self .., rfl⟩
      · exact ⟨x, List.mem_cons_of_mem _ hx, rfl⟩
/-- what is walked, locked -/
def lockE (p : PV) (ρ : Env) : Env := match p with
  | .slot i => match look ρ i with
    | .mu d => ρ.set i (.lk d)
    | _ => ρ
  | _ => ρ
def lockO (p : PV) (ρ : Env) : Option Nat := match p with
  | .slot i => match look ρ i with
    | .mu _ => some i
    | .lk _ => some i
    | _ => none
  | _ => none
def walkable (p : PV) (ρ : Env) : Bool := match p with
  | .slot i => match look ρ i with
    | .br _ => false
    | .no => false
    | _ => true
  | _ => true
def unlockE (p : PV) (ρ ρ' : Env) : Option Env := match p with
  | .slot i => match look ρ i with
    | .mu _ => match look ρ' i with
      | .lk e => some (ρ'.set i (.mu e))
      | _ => none
    | _ => some ρ'
  | _ => some ρ'
theorem block_eq {own : List Nat} {p : PV} {ρ ρ2 ρ3 : Env} {run : Option Nat → Env → Res (List D)} {A : List D} (hs : still ρ own = true) (hw : walkable p ρ = true)
    (hr : run (lockO p ρ) (lockE p ρ) = .ok A ρ2) (hu : unlockE p ρ (unwipe ρ ρ2 own) = some ρ3) : block own p ρ run = .ok A ρ3 := by
  unfold block
  rw [if_pos hs]
  cases p with
  | slot i =>
    cases h : look ρ i with
    | no => simp [walkable, h] at hw
    | br d => simp [walkable, h] at hw
    | sh d => simp only [lockO, lockE, unlockE, h] at hr hu; simp only [h, hr, bind_ok]; cases hu; rfl
    | lk d => simp only [lockO, lockE, unlockE, h] at hr hu; simp only [h, hr, bind_ok]; cases hu; rfl
    | mu d =>
      simp only [lockO, lockE, unlockE, h] at hr hu
      simp only [h, hr, bind_ok]
      split at hu
      · rename_i e e2; first | (rw [e2]; cases hu; rfl) | (cases hu; rfl)
      · cases hu
  | sh d => simp only [lockO, lockE, unlockE] at hr hu; simp only [hr, bind_ok]; cases hu; rfl
  | mu d => simp only [lockO, lockE, unlockE] at hr hu; simp only [hr, bind_ok]; cases hu; rfl
section
variable {Φ : Fns}
/-- a comprehension that leaves all names as they are -/
theorem ev_comp {own : List Nat} {t : Tgt} {it : CE} {cs : List CE} {elt : CE} {ρ ρ1 : Env} {p : PV} {ys : List α} {g : α → D} (f : α → List D) (env : α → Env)
    (hit : asIt (ev Φ it ρ) = .ok (p, ys.map g) ρ1) (hl : ys.length ≤ lim) (hs : still ρ1 own = true) (hw : walkable p ρ1 = true) (hg : guard (lockO p ρ1) (lockE p ρ1) = true)
    (hx : ∀ x ∈ ys, setT (wipe (lockE p ρ1) own) t (g x) = some (env x) ∧
      (∀ acc, ((evAnd Φ cs (env x)).bt fun b ρ4 => if b then (frzR (ev Φ elt ρ4)).bt fun d ρ5 => .ok (acc ++ [d]) ρ5 else .ok acc ρ4) = .ok (acc ++ f x) (env x)) ∧
      wipe (env x) own = wipe (lockE p ρ1) own ∧ guard (lockO p ρ1) (env x) = true ∧ unlockE p ρ1 (unwipe ρ1 (env x) own) = some ρ1)
    (h0 : unlockE p ρ1 (unwipe ρ1 (lockE p ρ1) own) = some ρ1) :
    ev Φ (.comp own t it cs elt) ρ = .ok (.mu (.lst (ys.flatMap f))) ρ1 := by
  obtain ⟨ρ', h1, h2⟩ := turns_map (t := t) (g := g) (own := own) (o := lockO p ρ1) (body := fun ρ3 acc => (evAnd Φ cs ρ3).bind fun b ρ4 => if b then (frzR (ev Φ elt ρ4)).bind fun d ρ5 => .ok (acc ++ [d]) ρ5 else .ok acc ρ4) f env _ ys [] (lockE p ρ1) rfl hg (fun x h => by
    obtain ⟨a, b, c, d, _⟩ := hx x h
    exact ⟨a, b, c, d⟩)
  have hu : unlockE p ρ1 (unwipe ρ1 ρ' own) = some ρ1 := by
    rcases h2 with rfl | ⟨x, h, rfl⟩
    · exact h0
    · exact (hx x h).2.2.2.2
  have hb := block_eq (run := fun o ρ2 => turns o own t (fun ρ3 acc => (evAnd Φ cs ρ3).bind fun b ρ4 => if b then (frzR (ev Φ elt ρ4)).bind fun d ρ5 => .ok (acc ++ [d]) ρ5 else .ok acc ρ4) (ys.map g) [] ρ2) hs hw h1 hu
  rw [ev, hit]
  simp only [bind_ok, List.length_map, hl, if_true, hb, List.nil_append]
/-- one that changes what is lent: an invariant -/
theorem ev_comp_inv {own : List Nat} {t : Tgt} {it : CE} {cs : List CE} {elt : CE} {ρ ρ1 : Env} {d : D} {ys : List α} {g : α → D} (Inv : List α → List D → Env → Prop)
    (hit : asIt (ev Φ it ρ) = .ok (.sh d, ys.map g) ρ1) (hl : ys.length ≤ lim) (hs : still ρ1 own = true) (hi : Inv [] [] ρ1)
    (hx : ∀ d x rest a ρ, d ++ x :: rest = ys → Inv d a ρ → ∃ ρ1, setT (wipe ρ own) t (g x) = some ρ1 ∧ ∃ a2 ρ2, ((evAnd Φ cs ρ1).bt fun b ρ4 => if b then (frzR (ev Φ elt ρ4)).bt fun d ρ5 => .ok (a ++ [d]) ρ5 else .ok a ρ4) = .ok a2 ρ2 ∧ Inv (d ++ [x]) a2 ρ2) :
    ∃ a ρ2, ev Φ (.comp own t it cs elt) ρ = .ok (.mu (.lst a)) (unwipe ρ1 ρ2 own) ∧ Inv ys a ρ2 := by
  obtain ⟨a, ρ', h1, h2⟩ := turns_inv (t := t) (g := g) (own := own) (o := none) (body := fun ρ3 acc => (evAnd Φ cs ρ3).bind fun b ρ4 => if b then (frzR (ev Φ elt ρ4)).bind fun d ρ5 => .ok (acc ++ [d]) ρ5 else .ok acc ρ4) Inv ys [] [] ρ1 hi (fun _ _ _ _ => rfl) (fun d x rest a ρ e h => hx d x rest a ρ (by simpa using e) h)
  have hb := block_eq (p := .sh d) (run := fun o ρ2 => turns o own t (fun ρ3 acc => (evAnd Φ cs ρ3).bind fun b ρ4 => if b then (frzR (ev Φ elt ρ4)).bind fun d ρ5 => .ok (acc ++ [d]) ρ5 else .ok acc ρ4) (ys.map g) [] ρ2) hs rfl h1 rfl
  refine ⟨a, ρ', ?_, by simpa using h2⟩
  rw [ev, hit]
  simp only [bind_ok, List.length_map, hl, if_true, hb]
end
end

/-! ### values by lemmas -/
theorem evAnd_one (Φ : Fns) (e : CE) (ρ : Env) : evAnd Φ [e] ρ = asB (ev Φ e ρ) := by
  rw [evAnd]; cases h : asB (ev Φ e ρ) with
  | ok b ρ1 => cases b <;> simp [evAnd]
  | exc k ρ1 => rfl
  | stuck => rfl
theorem evOr_one (Φ : Fns) (e : CE) (ρ : Env) : evOr Φ [e] ρ = asB (ev Φ e ρ) := by
  rw [evOr]; cases h : asB (ev Φ e ρ) with
  | ok b ρ1 => cases b <;> simp [evOr]
  | exc k ρ1 => rfl
  | stuck => rfl
section
theorem cmp_eq_i (i j : Int) : cmpop .eq (.int i) (.int j) = some (decide (i = j)) := by
  by_cases h : i = j <;> simp [cmpop, D.fine, D.plain, D.depth, D.eqv, h]
theorem cmp_ne_i (i j : Int) : cmpop .ne (.int i) (.int j) = some (decide (i ≠ j)) := by
  by_cases h : i = j <;> simp [cmpop, D.fine, D.plain, D.depth, D.eqv, h]
theorem cmp_lt_i (i j : Int) : cmpop .lt (.int i) (.int j) = some (decide (i < j)) := by
  simp [cmpop, D.fine, D.plain, D.depth, D.like, D.lt]
theorem cmp_le_i (i j : Int) : cmpop .le (.int i) (.int j) = some (decide (i ≤ j)) := rfl
theorem cmp_gt_i (i j : Int) : cmpop .gt (.int i) (.int j) = some (decide (j < i)) := rfl
theorem cmp_ge_i (i j : Int) : cmpop .ge (.int i) (.int j) = some (decide (j ≤ i)) := rfl
theorem cmp_is_non (a : D) : cmpop .is a .non = some (match a with | .non => true | _ => false) := by cases a <;> rfl
theorem cmp_isnot_non (a : D) : cmpop .isnot a .non = some (match a with | .non => false | _ => true) := by cases a <;> rfl
theorem cmp_is_b (a b : Bool) : cmpop .is (.bl a) (.bl b) = some (a == b) := rfl
theorem cmp_isnot_b (a b : Bool) : cmpop .isnot (.bl a) (.bl b) = some (!(a == b)) := rfl
theorem bin_add_i (i j : Int) : binop .add (.int i) (.int j) = some (.sh (.int (i + j))) := rfl
theorem bin_sub_i (i j : Int) : binop .sub (.int i) (.int j) = some (.sh (.int (i - j))) := rfl
theorem bin_mul_i {i j : Int} (h : mulOk i j = true) : binop .mul (.int i) (.int j) = some (.sh (.int (i * j))) := by simp [binop, h]
theorem bin_mod_i {i j : Int} (h : 0 < j) : binop .mod (.int i) (.int j) = some (.sh (.int (i % j))) := by simp [binop, h]
theorem bin_fdiv_i {i j : Int} (h : divOk i j = true) : binop .fdiv (.int i) (.int j) = some (.sh (.int (i / j))) := by simp [binop, h]
theorem mulOk_l {i j : Int} (h : i.natAbs < 2 ^ 64) : mulOk i j = true := by unfold mulOk; simp only [decide_eq_true h, Bool.true_or]
theorem mulOk_r {i j : Int} (h : j.natAbs < 2 ^ 64) : mulOk i j = true := by unfold mulOk; simp only [decide_eq_true h, Bool.true_or, Bool.or_true]
theorem divOk_s {i j : Int} (h : 0 < j) (h2 : j < 2 ^ 64) : divOk i j = true := by
  unfold divOk digs
  have h3 : j.natAbs.log2 < 64 := by
    rw [Nat.log2_lt (by omega)]; omega
  have : ¬ (300 < (if (j == 0) = true then 0 else j.natAbs.log2 / 30 + 1)) := by
    split
    · omega
    · omega
  simp only [decide_eq_true h, decide_eq_false this, Bool.false_and, Bool.not_false, Bool.and_self]
end
end SL

/-! ## P0r -/
set_option maxRecDepth 100000
set_option linter.all false
set_option autoImplicit false
namespace SL
/-! ### the evaluator by rules: each match has a name -/
section
variable (Φ : Fns)
def kVar : Slot → Nat → Env → Res PV
  | .no, _, _ => .stuck
  | .sh _, i, ρ => .ok (.slot i) ρ
  | .mu _, i, ρ => .ok (.slot i) ρ
  | .br _, i, ρ => .ok (.slot i) ρ
  | .lk _, i, ρ => .ok (.slot i) ρ
theorem r_var (i : Nat) (ρ : Env) : ev Φ (.var i) ρ = kVar (look ρ i) i ρ := by
  rw [ev]; cases look ρ i <;> rfl
theorem kVar_sh (d : D) (i : Nat) (ρ : Env) : kVar (.sh d) i ρ = .ok (.slot i) ρ := rfl
theorem kVar_mu (d : D) (i : Nat) (ρ : Env) : kVar (.mu d) i ρ = .ok (.slot i) ρ := rfl
theorem kVar_br (d : D) (i : Nat) (ρ : Env) : kVar (.br d) i ρ = .ok (.slot i) ρ := rfl
theorem kVar_lk (d : D) (i : Nat) (ρ : Env) : kVar (.lk d) i ρ = .ok (.slot i) ρ := rfl
theorem r_look0 (a : Slot) (ρ : Env) : look (a :: ρ) 0 = a := rfl
theorem r_look1 (a : Slot) (ρ : Env) (k : Nat) : look (a :: ρ) (k + 1) = look ρ k := rfl
theorem r_set0 (a b : Slot) (ρ : Env) : List.set (a :: ρ) 0 b = b :: ρ := rfl
theorem r_set1 (a b : Slot) (ρ : Env) (k : Nat) : List.set (a :: ρ) (k + 1) b = a :: List.set ρ k b := rfl
theorem cont_sh (d : D) : cont (.sh d) = some d := rfl
theorem cont_mu (d : D) : cont (.mu d) = some d := rfl
theorem cont_br (d : D) : cont (.br d) = some d := rfl
theorem cont_lk (d : D) : cont (.lk d) = some d := rfl
theorem peek_slot (ρ : Env) (i : Nat) : peek ρ (.slot i) = cont (look ρ i) := rfl
theorem peek_sh (ρ : Env) (d : D) : peek ρ (.sh d) = some d := rfl
theorem peek_mu (ρ : Env) (d : D) : peek ρ (.mu d) = some d := rfl
def kFrz : Slot → Nat → Env → Option (D × Env)
  | .sh d, _, ρ => some (d, ρ)
  | .mu d, i, ρ => some (d, ρ.set i (.sh d))
  | _, _, _ => none
theorem frz_slot (ρ : Env) (i : Nat) : frz ρ (.slot i) = kFrz (look ρ i) i ρ := by
  unfold frz; dsimp only; cases look ρ i <;> rfl
theorem frz_sh (ρ : Env) (d : D) : frz ρ (.sh d) = some (d, ρ) := rfl
theorem frz_mu (ρ : Env) (d : D) : frz ρ (.mu d) = some (d, ρ) := rfl
theorem kFrz_sh (d : D) (i : Nat) (ρ : Env) : kFrz (.sh d) i ρ = some (d, ρ) := rfl
theorem kFrz_mu (d : D) (i : Nat) (ρ : Env) : kFrz (.mu d) i ρ = some (d, ρ.set i (.sh d)) := rfl
def kO {α : Type} : Option (α × Env) → Res α
  | some (d, ρ) => .ok d ρ
  | none => .stuck
theorem kO_some {α : Type} (d : α) (ρ : Env) : kO (some (d, ρ)) = .ok d ρ := rfl
theorem r_frzR_bb (r : Res PV) : frzR r = r.bind fun p ρ => kO (frz ρ p) := by
  unfold frzR; congr 1; funext p ρ; cases frz ρ p <;> rfl
theorem r_frzR (r : Res PV) : frzR r = r.bt fun p ρ => kO (frz ρ p) := r_frzR_bb ..
theorem r_cst (d : D) (ρ : Env) : ev Φ (.cst d) ρ = .ok (.sh d) ρ := by rw [ev]
theorem r_glb (x : String) (d : D) (ρ : Env) : ev Φ (.glb x d) ρ = .ok (.sh d) ρ := by rw [ev]
theorem r_tup_bb (es : List CE) (ρ : Env) : ev Φ (.tup es) ρ = (evs Φ es ρ).bind fun ds ρ' => .ok (.sh (.tup ds)) ρ' := by rw [ev]
theorem r_tup (es : List CE) (ρ : Env) : ev Φ (.tup es) ρ = (evs Φ es ρ).bt fun ds ρ' => .ok (.sh (.tup ds)) ρ' := r_tup_bb ..
theorem r_lst_bb (es : List CE) (ρ : Env) : ev Φ (.lst es) ρ = (evs Φ es ρ).bind fun ds ρ' => .ok (.mu (.lst ds)) ρ' := by rw [ev]
theorem r_lst (es : List CE) (ρ : Env) : ev Φ (.lst es) ρ = (evs Φ es ρ).bt fun ds ρ' => .ok (.mu (.lst ds)) ρ' := r_lst_bb ..
theorem r_dnew (ρ : Env) : ev Φ .dnew ρ = .ok (.mu (.dct true [] [])) ρ := by rw [ev]
def kBin (o : Op) : Option D → Option D → Env → Res PV
  | some x, some y, ρ => lift (binop o x y) ρ
  | _, _, _ => .stuck
theorem kBin_some (o : Op) (x y : D) (ρ : Env) : kBin o (some x) (some y) ρ = lift (binop o x y) ρ := rfl
theorem r_bin_bb (o : Op) (a b : CE) (ρ : Env) : ev Φ (.bin o a b) ρ = (ev Φ a ρ).bind fun p ρ1 => (ev Φ b ρ1).bind fun q ρ2 => kBin o (peek ρ2 p) (peek ρ2 q) ρ2 := by
  rw [ev]; congr 1; funext p ρ1; congr 1; funext q ρ2; cases peek ρ2 p <;> cases peek ρ2 q <;> rfl
theorem r_bin (o : Op) (a b : CE) (ρ : Env) : ev Φ (.bin o a b) ρ = (ev Φ a ρ).bt fun p ρ1 => (ev Φ b ρ1).bt fun q ρ2 => kBin o (peek ρ2 p) (peek ρ2 q) ρ2 := r_bin_bb ..
def kRep (ds : List D) : Option D → Env → Res PV
  | some (.int n), ρ => if ds.length ≤ 1000 ∧ 0 ≤ n ∧ n ≤ 1000 then .ok (.mu (.lst (rep n.toNat ds))) ρ else .stuck
  | _, _ => .stuck
theorem kRep_some {ds : List D} {n : Int} {ρ : Env} (h1 : ds.length ≤ 1000) (h2 : 0 ≤ n) (h3 : n ≤ 1000) : kRep ds (some (.int n)) ρ = .ok (.mu (.lst (rep n.toNat ds))) ρ := if_pos ⟨h1, h2, h3⟩
theorem r_lrep_bb (es : List CE) (k : CE) (ρ : Env) : ev Φ (.lrep es k) ρ = (evs Φ es ρ).bind fun ds ρ1 => (ev Φ k ρ1).bind fun p ρ2 => kRep ds (peek ρ2 p) ρ2 := by
  rw [ev]; congr 1; funext p ρ1; congr 1; funext q ρ2; cases peek ρ2 q with
  | none => rfl
  | some d => cases d <;> rfl
theorem r_lrep (es : List CE) (k : CE) (ρ : Env) : ev Φ (.lrep es k) ρ = (evs Φ es ρ).bt fun ds ρ1 => (ev Φ k ρ1).bt fun p ρ2 => kRep ds (peek ρ2 p) ρ2 := r_lrep_bb ..
def kNeg : Option D → Env → Res PV
  | some (.int i), ρ => .ok (.sh (.int (-i))) ρ
  | _, _ => .stuck
theorem kNeg_i (i : Int) (ρ : Env) : kNeg (some (.int i)) ρ = .ok (.sh (.int (-i))) ρ := rfl
theorem r_neg_bb (a : CE) (ρ : Env) : ev Φ (.neg a) ρ = (ev Φ a ρ).bind fun p ρ1 => kNeg (peek ρ1 p) ρ1 := by
  rw [ev]; congr 1; funext q ρ2; cases peek ρ2 q with
  | none => rfl
  | some d => cases d <;> rfl
theorem r_neg (a : CE) (ρ : Env) : ev Φ (.neg a) ρ = (ev Φ a ρ).bt fun p ρ1 => kNeg (peek ρ1 p) ρ1 := r_neg_bb ..
def kB : Option D → Env → Res Bool
  | some (.bl b), ρ => .ok b ρ
  | _, _ => .stuck
theorem kB_b (b : Bool) (ρ : Env) : kB (some (.bl b)) ρ = .ok b ρ := rfl
theorem r_asB_bb (r : Res PV) : asB r = r.bind fun p ρ1 => kB (peek ρ1 p) ρ1 := by
  unfold asB; congr 1; funext q ρ2; cases peek ρ2 q with
  | none => rfl
  | some d => cases d <;> rfl
theorem r_asB (r : Res PV) : asB r = r.bt fun p ρ1 => kB (peek ρ1 p) ρ1 := r_asB_bb ..
theorem r_not_bb (a : CE) (ρ : Env) : ev Φ (.not a) ρ = (asB (ev Φ a ρ)).bind fun b ρ1 => .ok (.sh (.bl (!b))) ρ1 := by rw [ev]
theorem r_not (a : CE) (ρ : Env) : ev Φ (.not a) ρ = (asB (ev Φ a ρ)).bt fun b ρ1 => .ok (.sh (.bl (!b))) ρ1 := r_not_bb ..
theorem r_and_bb (es : List CE) (ρ : Env) : ev Φ (.and es) ρ = (evAnd Φ es ρ).bind fun b ρ1 => .ok (.sh (.bl b)) ρ1 := by rw [ev]
theorem r_and (es : List CE) (ρ : Env) : ev Φ (.and es) ρ = (evAnd Φ es ρ).bt fun b ρ1 => .ok (.sh (.bl b)) ρ1 := r_and_bb ..
theorem r_or_bb (es : List CE) (ρ : Env) : ev Φ (.or es) ρ = (evOr Φ es ρ).bind fun b ρ1 => .ok (.sh (.bl b)) ρ1 := by rw [ev]
theorem r_or (es : List CE) (ρ : Env) : ev Φ (.or es) ρ = (evOr Φ es ρ).bt fun b ρ1 => .ok (.sh (.bl b)) ρ1 := r_or_bb ..
def kCmpR : Option Bool → Env → Res PV
  | some b, ρ => .ok (.sh (.bl b)) ρ
  | none, _ => .stuck
theorem kCmpR_some (b : Bool) (ρ : Env) : kCmpR (some b) ρ = .ok (.sh (.bl b)) ρ := rfl
def kCmp (o : Cmp) : Option D → Option D → Env → Res PV
  | some x, some y, ρ => kCmpR (cmpop o x y) ρ
  | _, _, _ => .stuck
theorem kCmp_some (o : Cmp) (x y : D) (ρ : Env) : kCmp o (some x) (some y) ρ = kCmpR (cmpop o x y) ρ := rfl
theorem r_cmp_bb (o : Cmp) (a b : CE) (ρ : Env) : ev Φ (.cmp o a b) ρ = (ev Φ a ρ).bind fun p ρ1 => (ev Φ b ρ1).bind fun q ρ2 => kCmp o (peek ρ2 p) (peek ρ2 q) ρ2 := by
  rw [ev]; congr 1; funext p ρ1; congr 1; funext q ρ2; cases peek ρ2 p <;> cases peek ρ2 q <;> try rfl
  rename_i x y; simp only [kCmp]; cases cmpop o x y <;> rfl
theorem r_cmp (o : Cmp) (a b : CE) (ρ : Env) : ev Φ (.cmp o a b) ρ = (ev Φ a ρ).bt fun p ρ1 => (ev Φ b ρ1).bt fun q ρ2 => kCmp o (peek ρ2 p) (peek ρ2 q) ρ2 := r_cmp_bb ..
def kCh2 (b : Option Bool) (ρ2 : Env) (f : Env → Res PV) : Res PV :=
  match b with
  | some b => if b then f ρ2 else .ok (.sh (.bl false)) ρ2
  | none => .stuck
theorem kCh2_some (b : Bool) (ρ : Env) (f : Env → Res PV) : kCh2 (some b) ρ f = if b then f ρ else .ok (.sh (.bl false)) ρ := rfl
def kCh (o : Cmp) (x y : Option D) (ρ2 : Env) (f : Env → Res PV) : Res PV :=
  match x, y with
  | some x, some y => kCh2 (cmpop o x y) ρ2 f
  | _, _ => .stuck
theorem kCh_some (o : Cmp) (x y : D) (ρ : Env) (f : Env → Res PV) : kCh o (some x) (some y) ρ f = kCh2 (cmpop o x y) ρ f := rfl
theorem r_chain_bb (o1 o2 : Cmp) (a b c : CE) (ρ : Env) : ev Φ (.chain o1 o2 a b c) ρ = (ev Φ a ρ).bind fun p ρ1 => (ev Φ b ρ1).bind fun q ρ2 => kCh o1 (peek ρ2 p) (peek ρ2 q) ρ2 fun ρ2 => (ev Φ c ρ2).bind fun r ρ3 => kCmp o2 (peek ρ3 q) (peek ρ3 r) ρ3 := by
  rw [ev]; congr 1; funext p ρ1; congr 1; funext q ρ2; cases peek ρ2 p <;> cases peek ρ2 q <;> try rfl
  rename_i x y; simp only [kCh]; cases cmpop o1 x y with
  | none => rfl
  | some t => cases t with
    | false => rfl
    | true =>
      simp only [kCh2, if_true]; congr 1; funext r ρ3; cases peek ρ3 q <;> cases peek ρ3 r <;> try rfl
      rename_i y z; simp only [kCmp]; cases cmpop o2 y z <;> rfl
theorem r_chain (o1 o2 : Cmp) (a b c : CE) (ρ : Env) : ev Φ (.chain o1 o2 a b c) ρ = (ev Φ a ρ).bt fun p ρ1 => (ev Φ b ρ1).bt fun q ρ2 => kCh o1 (peek ρ2 p) (peek ρ2 q) ρ2 fun ρ2 => (ev Φ c ρ2).bt fun r ρ3 => kCmp o2 (peek ρ3 q) (peek ρ3 r) ρ3 := r_chain_bb ..
theorem bind_ret {α : Type} (r : Res α) : (r.bind fun p ρ => .ok p ρ) = r := by cases r <;> rfl
theorem r_ite_bb (c a b : CE) (ρ : Env) : ev Φ (.ite c a b) ρ = (asB (ev Φ c ρ)).bind fun t ρ1 => if t then ev Φ a ρ1 else ev Φ b ρ1 := by
  rw [ev]; simp only [bind_ret]
theorem r_ite (c a b : CE) (ρ : Env) : ev Φ (.ite c a b) ρ = (asB (ev Φ c ρ)).bt fun t ρ1 => if t then ev Φ a ρ1 else ev Φ b ρ1 := r_ite_bb ..
def kOut : Out → List Ag → Env → Res PV
  | .ret (.sh d) l, as, ρ => (liftE (back as l ρ)).bind fun _ ρ' => .ok (.sh d) ρ'
  | .ret (.mu d) l, as, ρ => (liftE (back as l ρ)).bind fun _ ρ' => .ok (.mu d) ρ'
  | .exc k l, as, ρ => (liftE (back as l ρ)).bind fun _ ρ' => .exc k ρ'
  | _, _, _ => .stuck
theorem kOut_sh_bb (d : D) (l : List Slot) (as : List Ag) (ρ : Env) : kOut (.ret (.sh d) l) as ρ = (liftE (back as l ρ)).bind fun _ ρ' => .ok (.sh d) ρ' := rfl
theorem kOut_sh (d : D) (l : List Slot) (as : List Ag) (ρ : Env) : kOut (.ret (.sh d) l) as ρ = (liftE (back as l ρ)).bt fun _ ρ' => .ok (.sh d) ρ' := kOut_sh_bb ..
theorem kOut_mu_bb (d : D) (l : List Slot) (as : List Ag) (ρ : Env) : kOut (.ret (.mu d) l) as ρ = (liftE (back as l ρ)).bind fun _ ρ' => .ok (.mu d) ρ' := rfl
theorem kOut_mu (d : D) (l : List Slot) (as : List Ag) (ρ : Env) : kOut (.ret (.mu d) l) as ρ = (liftE (back as l ρ)).bt fun _ ρ' => .ok (.mu d) ρ' := kOut_mu_bb ..
theorem kOut_exc_bb (k : Nat) (l : List Slot) (as : List Ag) (ρ : Env) : kOut (.exc k l) as ρ = (liftE (back as l ρ)).bind fun _ ρ' => .exc k ρ' := rfl
theorem kOut_exc (k : Nat) (l : List Slot) (as : List Ag) (ρ : Env) : kOut (.exc k l) as ρ = (liftE (back as l ρ)).bt fun _ ρ' => .exc k ρ' := kOut_exc_bb ..
def kCall (f : Nat) : Option (List Slot) → List Ag → Env → Res PV
  | some ss, as, ρ => kOut (Φ f ss) as ρ
  | none, _, _ => .stuck
theorem kCall_some (f : Nat) (ss : List Slot) (as : List Ag) (ρ : Env) : kCall Φ f (some ss) as ρ = kOut (Φ f ss) as ρ := rfl
theorem r_call_bb (f : Nat) (ks : List Bool) (es : List CE) (ρ : Env) : ev Φ (.call f ks es) ρ = (evArgs Φ ks es ρ).bind fun as ρ1 => if lends as ≤ 1 then kCall Φ f (slotsOf ρ1 as) as ρ1 else .stuck := by
  rw [ev]; congr 1; funext as ρ1; unfold called
  by_cases h : lends as ≤ 1
  · rw [if_pos h, if_pos h]
    cases slotsOf ρ1 as with
    | none => rfl
    | some ss =>
      simp only [kCall]
      cases Φ f ss with
      | stuck => rfl
      | exc k l => simp only [kOut]; cases back as l ρ1 <;> rfl
      | ret r l => cases r <;> simp only [kOut] <;> cases back as l ρ1 <;> rfl
  · rw [if_neg h, if_neg h]
theorem r_call (f : Nat) (ks : List Bool) (es : List CE) (ρ : Env) : ev Φ (.call f ks es) ρ = (evArgs Φ ks es ρ).bt fun as ρ1 => if lends as ≤ 1 then kCall Φ f (slotsOf ρ1 as) as ρ1 else .stuck := r_call_bb ..
theorem lends_nil : lends [] = 0 := rfl
theorem lends_val (d : D) (as : List Ag) : lends (.val d :: as) = lends as := rfl
theorem lends_len (i : Nat) (as : List Ag) : lends (.len i :: as) = lends as + 1 := rfl
theorem lends_mov (d : D) (as : List Ag) : lends (.mov d :: as) = lends as + 1 := rfl
def kSl (s : Slot) : Option (List Slot) → Option (List Slot)
  | some ss => some (s :: ss)
  | none => none
theorem kSl_some (s : Slot) (ss : List Slot) : kSl s (some ss) = some (s :: ss) := rfl
def kOw : Option D → Option (List Slot) → Option (List Slot)
  | some d, some ss => some (.br d :: ss)
  | _, _ => none
theorem kOw_some (d : D) (ss : List Slot) : kOw (some d) (some ss) = some (.br d :: ss) := rfl
theorem sl_nil (ρ : Env) : slotsOf ρ [] = some [] := rfl
theorem sl_val (ρ : Env) (d : D) (as : List Ag) : slotsOf ρ (.val d :: as) = kSl (.sh d) (slotsOf ρ as) := by rw [slotsOf]; cases slotsOf ρ as <;> rfl
theorem sl_mov (ρ : Env) (d : D) (as : List Ag) : slotsOf ρ (.mov d :: as) = kSl (.mu d) (slotsOf ρ as) := by rw [slotsOf]; cases slotsOf ρ as <;> rfl
theorem sl_len (ρ : Env) (i : Nat) (as : List Ag) : slotsOf ρ (.len i :: as) = kOw (own ρ i) (slotsOf ρ as) := by rw [slotsOf]; cases own ρ i <;> cases slotsOf ρ as <;> rfl
def kOwn : Slot → Option D
  | .mu d => some d
  | .br d => some d
  | _ => none
theorem r_own (ρ : Env) (i : Nat) : own ρ i = kOwn (look ρ i) := by unfold own; cases look ρ i <;> rfl
theorem kOwn_mu (d : D) : kOwn (.mu d) = some d := rfl
theorem kOwn_br (d : D) : kOwn (.br d) = some d := rfl
theorem bk_nil (ρ : Env) : back [] [] ρ = some ρ := rfl
theorem bk_val (d : D) (as : List Ag) (s : Slot) (ss : List Slot) (ρ : Env) : back (.val d :: as) (s :: ss) ρ = back as ss ρ := by cases s <;> rfl
theorem bk_mov (d : D) (as : List Ag) (s : Slot) (ss : List Slot) (ρ : Env) : back (.mov d :: as) (s :: ss) ρ = back as ss ρ := by cases s <;> rfl
def kBk (as : List Ag) (ss : List Slot) : Option Env → Option Env
  | some ρ => back as ss ρ
  | none => none
theorem kBk_some (as : List Ag) (ss : List Slot) (ρ : Env) : kBk as ss (some ρ) = back as ss ρ := rfl
theorem bk_len (i : Nat) (as : List Ag) (d : D) (ss : List Slot) (ρ : Env) : back (.len i :: as) (.br d :: ss) ρ = kBk as ss (upd ρ i d) := by rw [back]; cases upd ρ i d <;> rfl
def kUpd : Slot → Env → Nat → D → Option Env
  | .mu _, ρ, i, d => some (ρ.set i (.mu d))
  | .br _, ρ, i, d => some (ρ.set i (.br d))
  | _, _, _, _ => none
theorem r_upd (ρ : Env) (i : Nat) (d : D) : upd ρ i d = kUpd (look ρ i) ρ i d := by unfold upd; cases look ρ i <;> rfl
theorem kUpd_mu (e : D) (ρ : Env) (i : Nat) (d : D) : kUpd (.mu e) ρ i d = some (ρ.set i (.mu d)) := rfl
theorem kUpd_br (e : D) (ρ : Env) (i : Nat) (d : D) : kUpd (.br e) ρ i d = some (ρ.set i (.br d)) := rfl
/-! arguments -/
def kLend : Slot → Nat → Env → Option (Ag × Env)
  | .mu _, i, ρ => some (.len i, ρ)
  | .br _, i, ρ => some (.len i, ρ)
  | _, _, _ => none
theorem kLend_mu (d : D) (i : Nat) (ρ : Env) : kLend (.mu d) i ρ = some (.len i, ρ) := rfl
theorem kLend_br (d : D) (i : Nat) (ρ : Env) : kLend (.br d) i ρ = some (.len i, ρ) := rfl
theorem arg_lend (i : Nat) (ρ : Env) : argOf true (.slot i) ρ = kLend (look ρ i) i ρ := by unfold argOf own; simp only [if_true]; cases look ρ i <;> rfl
theorem arg_mov (d : D) (ρ : Env) : argOf true (.mu d) ρ = some (.mov d, ρ) := rfl
def kVal : Option (D × Env) → Option (Ag × Env)
  | some (d, ρ) => some (.val d, ρ)
  | none => none
theorem kVal_some (d : D) (ρ : Env) : kVal (some (d, ρ)) = some (.val d, ρ) := rfl
theorem arg_val (p : PV) (ρ : Env) : argOf false p ρ = kVal (frz ρ p) := by unfold argOf; simp only [Bool.false_eq_true, if_false]; cases frz ρ p <;> rfl
theorem arg_nil (ks : List Bool) (ρ : Env) : evArgs Φ ks [] ρ = .ok [] ρ := by cases ks <;> rw [evArgs]
theorem arg_cons0_bb (e : CE) (es : List CE) (ρ : Env) : evArgs Φ [] (e :: es) ρ = (ev Φ e ρ).bind fun p ρ1 => (kO (argOf false p ρ1)).bind fun a ρ2 => (evArgs Φ [] es ρ2).bind fun as ρ3 => .ok (a :: as) ρ3 := by
  rw [evArgs]; congr 1; funext p ρ1; simp only [List.headD_nil, List.tail_nil]; cases argOf false p ρ1 <;> rfl
theorem arg_cons0 (e : CE) (es : List CE) (ρ : Env) : evArgs Φ [] (e :: es) ρ = (ev Φ e ρ).bt fun p ρ1 => (kO (argOf false p ρ1)).bt fun a ρ2 => (evArgs Φ [] es ρ2).bt fun as ρ3 => .ok (a :: as) ρ3 := arg_cons0_bb ..
theorem arg_cons_bb (k : Bool) (ks : List Bool) (e : CE) (es : List CE) (ρ : Env) : evArgs Φ (k :: ks) (e :: es) ρ = (ev Φ e ρ).bind fun p ρ1 => (kO (argOf k p ρ1)).bind fun a ρ2 => (evArgs Φ ks es ρ2).bind fun as ρ3 => .ok (a :: as) ρ3 := by
  rw [evArgs]; congr 1; funext p ρ1; simp only [List.headD_cons, List.tail_cons]; cases argOf k p ρ1 <;> rfl
theorem arg_cons (k : Bool) (ks : List Bool) (e : CE) (es : List CE) (ρ : Env) : evArgs Φ (k :: ks) (e :: es) ρ = (ev Φ e ρ).bt fun p ρ1 => (kO (argOf k p ρ1)).bt fun a ρ2 => (evArgs Φ ks es ρ2).bt fun as ρ3 => .ok (a :: as) ρ3 := arg_cons_bb ..
theorem evs_nil (ρ : Env) : evs Φ [] ρ = .ok [] ρ := by rw [evs]
theorem evs_cons_bb (e : CE) (es : List CE) (ρ : Env) : evs Φ (e :: es) ρ = (frzR (ev Φ e ρ)).bind fun d ρ1 => (evs Φ es ρ1).bind fun ds ρ2 => .ok (d :: ds) ρ2 := by rw [evs]
theorem evs_cons (e : CE) (es : List CE) (ρ : Env) : evs Φ (e :: es) ρ = (frzR (ev Φ e ρ)).bt fun d ρ1 => (evs Φ es ρ1).bt fun ds ρ2 => .ok (d :: ds) ρ2 := evs_cons_bb ..
theorem evAnd_cons_bb (e : CE) (es : List CE) (ρ : Env) : evAnd Φ (e :: es) ρ = (asB (ev Φ e ρ)).bind fun b ρ1 => if b then evAnd Φ es ρ1 else .ok false ρ1 := by rw [evAnd]
theorem evAnd_cons (e : CE) (es : List CE) (ρ : Env) : evAnd Φ (e :: es) ρ = (asB (ev Φ e ρ)).bt fun b ρ1 => if b then evAnd Φ es ρ1 else .ok false ρ1 := evAnd_cons_bb ..
theorem evOr_cons_bb (e : CE) (es : List CE) (ρ : Env) : evOr Φ (e :: es) ρ = (asB (ev Φ e ρ)).bind fun b ρ1 => if b then .ok true ρ1 else evOr Φ es ρ1 := by rw [evOr]
theorem evOr_cons (e : CE) (es : List CE) (ρ : Env) : evOr Φ (e :: es) ρ = (asB (ev Φ e ρ)).bt fun b ρ1 => if b then .ok true ρ1 else evOr Φ es ρ1 := evOr_cons_bb ..
theorem evAnd_nil (ρ : Env) : evAnd Φ [] ρ = .ok true ρ := by rw [evAnd]
/-! booleans together -/
theorem b_and (b t : Bool) (ρ : Env) : (if b = true then Res.ok t ρ else Res.ok false ρ) = Res.ok (b && t) ρ := by cases b <;> rfl
theorem b_or (b t : Bool) (ρ : Env) : (if b = true then Res.ok true ρ else Res.ok t ρ) = Res.ok (b || t) ρ := by cases b <;> rfl
theorem b_andP (b t : Bool) (ρ : Env) : (if b = true then Res.ok (PV.sh (D.bl t)) ρ else Res.ok (PV.sh (D.bl false)) ρ) = Res.ok (PV.sh (D.bl (b && t))) ρ := by cases b <;> rfl
theorem if_tt {α : Type} (x y : α) : (if true = true then x else y) = x := rfl
theorem if_ff {α : Type} (x y : α) : (if false = true then x else y) = y := rfl
/-! builtins -/
def kBi1 (b : Bi) : Option D → Env → Res PV
  | some d, ρ => lift (bi1 b d) ρ
  | none, _ => .stuck
def kBi2 (b : Bi) : Option D → Option D → Env → Res PV
  | some d, some e, ρ => lift (bi2 b d e) ρ
  | _, _, _ => .stuck
theorem kBi1_some (b : Bi) (d : D) (ρ : Env) : kBi1 b (some d) ρ = lift (bi1 b d) ρ := rfl
theorem kBi2_some (b : Bi) (d e : D) (ρ : Env) : kBi2 b (some d) (some e) ρ = lift (bi2 b d e) ρ := rfl
theorem r_bi1_bb (b : Bi) (e : CE) (ρ : Env) : ev Φ (.bi b [e]) ρ = (ev Φ e ρ).bind fun p ρ1 => kBi1 b (peek ρ1 p) ρ1 := by
  rw [ev, evp]; cases ev Φ e ρ with
  | ok p ρ1 => simp only [bind_ok, evp]; simp only [List.mapM_cons, List.mapM_nil]; cases peek ρ1 p <;> rfl
  | exc k ρ1 => rfl
  | stuck => rfl
theorem r_bi1 (b : Bi) (e : CE) (ρ : Env) : ev Φ (.bi b [e]) ρ = (ev Φ e ρ).bt fun p ρ1 => kBi1 b (peek ρ1 p) ρ1 := r_bi1_bb ..
theorem r_bi2_bb (b : Bi) (e f : CE) (ρ : Env) : ev Φ (.bi b [e, f]) ρ = (ev Φ e ρ).bind fun p ρ1 => (ev Φ f ρ1).bind fun q ρ2 => kBi2 b (peek ρ2 p) (peek ρ2 q) ρ2 := by
  rw [ev, evp]; cases ev Φ e ρ with
  | ok p ρ1 =>
    simp only [bind_ok]; rw [evp]
    cases ev Φ f ρ1 with
    | ok q ρ2 => simp only [bind_ok, evp]; simp only [List.mapM_cons, List.mapM_nil]; cases peek ρ2 p <;> cases peek ρ2 q <;> rfl
    | exc k ρ1 => rfl
    | stuck => rfl
  | exc k ρ1 => rfl
  | stuck => rfl
theorem r_bi2 (b : Bi) (e f : CE) (ρ : Env) : ev Φ (.bi b [e, f]) ρ = (ev Φ e ρ).bt fun p ρ1 => (ev Φ f ρ1).bt fun q ρ2 => kBi2 b (peek ρ2 p) (peek ρ2 q) ρ2 := r_bi2_bb ..
def kIsi (t : Ty) : Option D → Env → Res PV
  | some (.dct _ _ _), _ => .stuck
  | some d, ρ => .ok (.sh (.bl (isTy t d))) ρ
  | none, _ => .stuck
theorem r_isi_bb (t : Ty) (e : CE) (ρ : Env) : ev Φ (.isi t e) ρ = (ev Φ e ρ).bind fun p ρ1 => kIsi t (peek ρ1 p) ρ1 := by
  rw [ev]; congr 1; funext q ρ2; cases peek ρ2 q with
  | none => rfl
  | some d => cases d <;> rfl
theorem r_isi (t : Ty) (e : CE) (ρ : Env) : ev Φ (.isi t e) ρ = (ev Φ e ρ).bt fun p ρ1 => kIsi t (peek ρ1 p) ρ1 := r_isi_bb ..
theorem kIsi_non (t : Ty) (ρ : Env) : kIsi t (some .non) ρ = .ok (.sh (.bl (isTy t .non))) ρ := rfl
theorem kIsi_bl (t : Ty) (b : Bool) (ρ : Env) : kIsi t (some (.bl b)) ρ = .ok (.sh (.bl (isTy t (.bl b)))) ρ := rfl
theorem kIsi_int (t : Ty) (b : Int) (ρ : Env) : kIsi t (some (.int b)) ρ = .ok (.sh (.bl (isTy t (.int b)))) ρ := rfl
theorem kIsi_str (t : Ty) (b : List Nat) (ρ : Env) : kIsi t (some (.str b)) ρ = .ok (.sh (.bl (isTy t (.str b)))) ρ := rfl
theorem kIsi_tup (t : Ty) (b : List D) (ρ : Env) : kIsi t (some (.tup b)) ρ = .ok (.sh (.bl (isTy t (.tup b)))) ρ := rfl
theorem kIsi_lst (t : Ty) (b : List D) (ρ : Env) : kIsi t (some (.lst b)) ρ = .ok (.sh (.bl (isTy t (.lst b)))) ρ := rfl
theorem kIsi_wr (t : Ty) (b : List D) (ρ : Env) : kIsi t (some (.wr b)) ρ = .ok (.sh (.bl (isTy t (.wr b)))) ρ := rfl
def kIt1 : Option D → Env → Res PV
  | some d, ρ => .ok (.sh d) ρ
  | none, _ => .stuck
theorem kIt1_some (d : D) (ρ : Env) : kIt1 (some d) ρ = .ok (.sh d) ρ := rfl
def kIdx : Option D → Option D → Env → Res PV
  | some x, some y, ρ => kIt1 (item x y) ρ
  | _, _, _ => .stuck
theorem kIdx_some (x y : D) (ρ : Env) : kIdx (some x) (some y) ρ = kIt1 (item x y) ρ := rfl
theorem r_idx_bb (o i : CE) (ρ : Env) : ev Φ (.idx o i) ρ = (ev Φ o ρ).bind fun p ρ1 => (ev Φ i ρ1).bind fun q ρ2 => kIdx (peek ρ2 p) (peek ρ2 q) ρ2 := by
  rw [ev]; congr 1; funext p ρ1; congr 1; funext q ρ2; cases peek ρ2 p <;> cases peek ρ2 q <;> try rfl
  rename_i x y; simp only [kIdx]; cases item x y <;> rfl
theorem r_idx (o i : CE) (ρ : Env) : ev Φ (.idx o i) ρ = (ev Φ o ρ).bt fun p ρ1 => (ev Φ i ρ1).bt fun q ρ2 => kIdx (peek ρ2 p) (peek ρ2 q) ρ2 := r_idx_bb ..
def kOI : Option D → Env → Res (Option Int)
  | some (.int i), ρ => .ok (some i) ρ
  | _, _ => .stuck
theorem kOI_i (i : Int) (ρ : Env) : kOI (some (.int i)) ρ = .ok (some i) ρ := rfl
theorem oi_nil (ρ : Env) : evOI Φ [] ρ = .ok none ρ := by rw [evOI]
theorem oi_one_bb (e : CE) (ρ : Env) : evOI Φ [e] ρ = (ev Φ e ρ).bind fun p ρ1 => kOI (peek ρ1 p) ρ1 := by
  rw [evOI]; congr 1; funext q ρ2; cases peek ρ2 q with
  | none => rfl
  | some d => cases d <;> rfl
theorem oi_one (e : CE) (ρ : Env) : evOI Φ [e] ρ = (ev Φ e ρ).bt fun p ρ1 => kOI (peek ρ1 p) ρ1 := oi_one_bb ..
def kSlc (a b : Option Int) : Option D → Env → Res PV
  | some x, ρ => lift (slice a b x) ρ
  | none, _ => .stuck
theorem kSlc_some (a b : Option Int) (x : D) (ρ : Env) : kSlc a b (some x) ρ = lift (slice a b x) ρ := rfl
theorem r_slc_bb (o : CE) (lo hi : List CE) (ρ : Env) : ev Φ (.slc o lo hi) ρ = (ev Φ o ρ).bind fun p ρ1 => (evOI Φ lo ρ1).bind fun a ρ2 => (evOI Φ hi ρ2).bind fun b ρ3 => kSlc a b (peek ρ3 p) ρ3 := by
  rw [ev]; congr 1; funext p ρ1; congr 1; funext a ρ2; congr 1; funext b ρ3; cases peek ρ3 p <;> rfl
theorem r_slc (o : CE) (lo hi : List CE) (ρ : Env) : ev Φ (.slc o lo hi) ρ = (ev Φ o ρ).bt fun p ρ1 => (evOI Φ lo ρ1).bt fun a ρ2 => (evOI Φ hi ρ2).bt fun b ρ3 => kSlc a b (peek ρ3 p) ρ3 := r_slc_bb ..
def kRev : Option D → Env → Res PV
  | some x, ρ => lift (revD x) ρ
  | none, _ => .stuck
theorem kRev_some (x : D) (ρ : Env) : kRev (some x) ρ = lift (revD x) ρ := rfl
theorem r_rev_bb (o : CE) (ρ : Env) : ev Φ (.rev o) ρ = (ev Φ o ρ).bind fun p ρ1 => kRev (peek ρ1 p) ρ1 := by
  rw [ev]; congr 1; funext q ρ2; cases peek ρ2 q <;> rfl
theorem r_rev (o : CE) (ρ : Env) : ev Φ (.rev o) ρ = (ev Φ o ρ).bt fun p ρ1 => kRev (peek ρ1 p) ρ1 := r_rev_bb ..
/-! iterables -/
def kIts (p : PV) : Option (List D) → Env → Res (PV × List D)
  | some ds, ρ => .ok (p, ds) ρ
  | none, _ => .stuck
theorem kIts_some (p : PV) (ds : List D) (ρ : Env) : kIts p (some ds) ρ = .ok (p, ds) ρ := rfl
def kAs (p : PV) : Option D → Env → Res (PV × List D)
  | some d, ρ => kIts p (items d) ρ
  | none, _ => .stuck
theorem kAs_some (p : PV) (d : D) (ρ : Env) : kAs p (some d) ρ = kIts p (items d) ρ := rfl
theorem r_asIt_bb (r : Res PV) : asIt r = r.bind fun p ρ1 => kAs p (peek ρ1 p) ρ1 := by
  unfold asIt; congr 1; funext p ρ; cases peek ρ p with
  | none => rfl
  | some d => simp only [kAs]; cases items d <;> rfl
theorem r_asIt (r : Res PV) : asIt r = r.bt fun p ρ1 => kAs p (peek ρ1 p) ρ1 := r_asIt_bb ..
theorem items_lst (ds : List D) : items (.lst ds) = some ds := rfl
theorem items_tup (ds : List D) : items (.tup ds) = some ds := rfl
theorem items_wr (ds : List D) : items (.wr ds) = some ds := rfl
def kRng (f : Int → PV) : Option D → Env → Res PV
  | some (.int n), ρ => if -(lim : Int) ≤ n ∧ n ≤ lim then .ok (f n) ρ else .stuck
  | _, _ => .stuck
theorem kRng_i {f : Int → PV} {n : Int} {ρ : Env} (h1 : -(lim : Int) ≤ n) (h2 : n ≤ lim) : kRng f (some (.int n)) ρ = .ok (f n) ρ := if_pos ⟨h1, h2⟩
theorem r_rng1_bb (a : CE) (ρ : Env) : ev Φ (.rng1 a) ρ = (ev Φ a ρ).bind fun p ρ1 => kRng (fun n => .sh (.lst (range 0 n))) (peek ρ1 p) ρ1 := by
  rw [ev]; congr 1; funext q ρ2; cases peek ρ2 q with
  | none => rfl
  | some d => cases d <;> rfl
theorem r_rng1 (a : CE) (ρ : Env) : ev Φ (.rng1 a) ρ = (ev Φ a ρ).bt fun p ρ1 => kRng (fun n => .sh (.lst (range 0 n))) (peek ρ1 p) ρ1 := r_rng1_bb ..
theorem r_listRng_bb (a : CE) (ρ : Env) : ev Φ (.listRng a) ρ = (ev Φ a ρ).bind fun p ρ1 => kRng (fun n => .mu (.lst (range 0 n))) (peek ρ1 p) ρ1 := by
  rw [ev]; congr 1; funext q ρ2; cases peek ρ2 q with
  | none => rfl
  | some d => cases d <;> rfl
theorem r_listRng (a : CE) (ρ : Env) : ev Φ (.listRng a) ρ = (ev Φ a ρ).bt fun p ρ1 => kRng (fun n => .mu (.lst (range 0 n))) (peek ρ1 p) ρ1 := r_listRng_bb ..
theorem r_tupRng_bb (a : CE) (ρ : Env) : ev Φ (.tupRng a) ρ = (ev Φ a ρ).bind fun p ρ1 => kRng (fun n => .sh (.tup (range 0 n))) (peek ρ1 p) ρ1 := by
  rw [ev]; congr 1; funext q ρ2; cases peek ρ2 q with
  | none => rfl
  | some d => cases d <;> rfl
theorem r_tupRng (a : CE) (ρ : Env) : ev Φ (.tupRng a) ρ = (ev Φ a ρ).bt fun p ρ1 => kRng (fun n => .sh (.tup (range 0 n))) (peek ρ1 p) ρ1 := r_tupRng_bb ..
def kRng2 : Option D → Option D → Env → Res PV
  | some (.int m), some (.int n), ρ => if (-(lim : Int) ≤ m ∧ m ≤ lim) ∧ -(lim : Int) ≤ n ∧ n ≤ lim then .ok (.sh (.lst (range m n))) ρ else .stuck
  | _, _, _ => .stuck
theorem kRng2_i {m n : Int} {ρ : Env} (h : (-(lim : Int) ≤ m ∧ m ≤ lim) ∧ -(lim : Int) ≤ n ∧ n ≤ lim) : kRng2 (some (.int m)) (some (.int n)) ρ = .ok (.sh (.lst (range m n))) ρ := if_pos h
theorem r_rng2_bb (a b : CE) (ρ : Env) : ev Φ (.rng2 a b) ρ = (ev Φ a ρ).bind fun p ρ1 => (ev Φ b ρ1).bind fun q ρ2 => kRng2 (peek ρ2 p) (peek ρ2 q) ρ2 := by
  rw [ev]; congr 1; funext p ρ1; congr 1; funext q ρ2; cases peek ρ2 p with
  | none => rfl
  | some d => cases peek ρ2 q with
    | none => cases d <;> rfl
    | some e => cases d <;> cases e <;> rfl
theorem r_rng2 (a b : CE) (ρ : Env) : ev Φ (.rng2 a b) ρ = (ev Φ a ρ).bt fun p ρ1 => (ev Φ b ρ1).bt fun q ρ2 => kRng2 (peek ρ2 p) (peek ρ2 q) ρ2 := r_rng2_bb ..
def kZip (f : List D → PV) : Option (List D) → Env → Res PV
  | some ds, ρ => .ok (f ds) ρ
  | none, _ => .stuck
theorem kZip_some (f : List D → PV) (ds : List D) (ρ : Env) : kZip f (some ds) ρ = .ok (f ds) ρ := rfl
theorem r_zip_bb (a b : CE) (ρ : Env) : ev Φ (.zip a b) ρ = (frzR (ev Φ a ρ)).bind fun x ρ1 => (frzR (ev Φ b ρ1)).bind fun y ρ2 => kZip (fun ds => .sh (.lst ds)) (zipD x y) ρ2 := by
  rw [ev]; congr 1; funext p ρ1; congr 1; funext q ρ2; cases zipD p q <;> rfl
theorem r_zip (a b : CE) (ρ : Env) : ev Φ (.zip a b) ρ = (frzR (ev Φ a ρ)).bt fun x ρ1 => (frzR (ev Φ b ρ1)).bt fun y ρ2 => kZip (fun ds => .sh (.lst ds)) (zipD x y) ρ2 := r_zip_bb ..
def kLz : Option D → Option D → Env → Res PV
  | some x, some y, ρ => kZip (fun ds => .mu (.lst ds)) (zipD x y) ρ
  | _, _, _ => .stuck
theorem kLz_some (x y : D) (ρ : Env) : kLz (some x) (some y) ρ = kZip (fun ds => .mu (.lst ds)) (zipD x y) ρ := rfl
theorem r_listZip_bb (a b : CE) (ρ : Env) : ev Φ (.listZip a b) ρ = (ev Φ a ρ).bind fun p ρ1 => (ev Φ b ρ1).bind fun q ρ2 => kLz (peek ρ2 p) (peek ρ2 q) ρ2 := by
  rw [ev]; congr 1; funext p ρ1; congr 1; funext q ρ2; cases peek ρ2 p <;> cases peek ρ2 q <;> try rfl
  rename_i x y; simp only [kLz]; cases zipD x y <;> rfl
theorem r_listZip (a b : CE) (ρ : Env) : ev Φ (.listZip a b) ρ = (ev Φ a ρ).bt fun p ρ1 => (ev Φ b ρ1).bt fun q ρ2 => kLz (peek ρ2 p) (peek ρ2 q) ρ2 := r_listZip_bb ..
def kEn : D → Env → Res PV
  | .lst ds, ρ => .ok (.sh (.lst (enumFrom 0 ds))) ρ
  | _, _ => .stuck
theorem kEn_lst (ds : List D) (ρ : Env) : kEn (.lst ds) ρ = .ok (.sh (.lst (enumFrom 0 ds))) ρ := rfl
theorem r_enum_bb (a : CE) (ρ : Env) : ev Φ (.enum a) ρ = (frzR (ev Φ a ρ)).bind fun x ρ1 => kEn x ρ1 := by
  rw [ev]; congr 1; funext x ρ1; cases x <;> rfl
theorem r_enum (a : CE) (ρ : Env) : ev Φ (.enum a) ρ = (frzR (ev Φ a ρ)).bt fun x ρ1 => kEn x ρ1 := r_enum_bb ..
/-! methods -/
def kApp (d : D) : Option D → Env → Nat → Res PV
  | some (.lst xs), ρ, i => if xs.length < lim then (liftE (upd ρ i (.lst (xs ++ [d])))).bind fun _ ρ2 => .ok (.sh .non) ρ2 else .stuck
  | _, _, _ => .stuck
theorem kApp_lst_bb {d : D} {xs : List D} {ρ : Env} {i : Nat} (h : xs.length < lim) : kApp d (some (.lst xs)) ρ i = (liftE (upd ρ i (.lst (xs ++ [d])))).bind fun _ ρ2 => .ok (.sh .non) ρ2 := if_pos h
theorem kApp_lst {d : D} {xs : List D} {ρ : Env} {i : Nat} (h : xs.length < lim) : kApp d (some (.lst xs)) ρ i = (liftE (upd ρ i (.lst (xs ++ [d])))).bt fun _ ρ2 => .ok (.sh .non) ρ2 := by first | exact kApp_lst_bb .. | exact kApp_lst_bb h | exact kApp_lst_bb h h2
def kIsL : Option D → Bool
  | some (.lst _) => true
  | _ => false
theorem kIsL_lst (xs : List D) : kIsL (some (.lst xs)) = true := rfl
theorem r_isL (ρ : Env) (i : Nat) : isL ρ i = kIsL (own ρ i) := by
  unfold isL; cases own ρ i with
  | none => rfl
  | some d => cases d <;> rfl
theorem r_app_bb (i : Nat) (e : CE) (ρ : Env) : ev Φ (.app i e) ρ = if isL ρ i then ((frzR (ev Φ e ρ)).bind fun d ρ1 => kApp d (own ρ1 i) ρ1 i) else .stuck := by
  rw [ev]; congr 1; congr 1; funext d ρ1; cases own ρ1 i with
  | none => rfl
  | some d => cases d <;> rfl
theorem r_app (i : Nat) (e : CE) (ρ : Env) : ev Φ (.app i e) ρ = if isL ρ i then ((frzR (ev Φ e ρ)).bt fun d ρ1 => kApp d (own ρ1 i) ρ1 i) else .stuck := r_app_bb ..
def kExt : PV → Option D → Env → Nat → Res PV
  | .mu (.lst ys), some (.lst xs), ρ1, i => if xs.length + ys.length ≤ lim then (liftE (upd ρ1 i (.lst (xs ++ ys)))).bind fun _ ρ2 => .ok (.sh .non) ρ2 else .stuck
  | _, _, _, _ => .stuck
theorem kExt_lst_bb {xs ys : List D} {ρ : Env} {i : Nat} (h : xs.length + ys.length ≤ lim) : kExt (.mu (.lst ys)) (some (.lst xs)) ρ i = (liftE (upd ρ i (.lst (xs ++ ys)))).bind fun _ ρ2 => .ok (.sh .non) ρ2 := if_pos h
theorem kExt_lst {xs ys : List D} {ρ : Env} {i : Nat} (h : xs.length + ys.length ≤ lim) : kExt (.mu (.lst ys)) (some (.lst xs)) ρ i = (liftE (upd ρ i (.lst (xs ++ ys)))).bt fun _ ρ2 => .ok (.sh .non) ρ2 := by first | exact kExt_lst_bb .. | exact kExt_lst_bb h | exact kExt_lst_bb h h2
theorem r_ext_bb (i : Nat) (e : CE) (ρ : Env) : ev Φ (.ext i e) ρ = if isL ρ i then ((ev Φ e ρ).bind fun p ρ1 => kExt p (own ρ1 i) ρ1 i) else .stuck := by
  rw [ev]; congr 1; congr 1; funext p ρ1; cases p with
  | slot i => rfl
  | sh d => rfl
  | mu d => cases own ρ1 i with
    | none => cases d <;> rfl
    | some e => cases d <;> cases e <;> rfl
theorem r_ext (i : Nat) (e : CE) (ρ : Env) : ev Φ (.ext i e) ρ = if isL ρ i then ((ev Φ e ρ).bt fun p ρ1 => kExt p (own ρ1 i) ρ1 i) else .stuck := r_ext_bb ..
def kPop : Option D → Env → Nat → Res PV
  | some (.lst xs), ρ, i => match xs.getLast? with
    | some d => (liftE (upd ρ i (.lst xs.dropLast))).bind fun _ ρ2 => .ok (.sh d) ρ2
    | none => .stuck
  | _, _, _ => .stuck
theorem kPop_lst_bb (xs : List D) (x : D) (ρ : Env) (i : Nat) : kPop (some (.lst (xs ++ [x]))) ρ i = (liftE (upd ρ i (.lst xs))).bind fun _ ρ2 => .ok (.sh x) ρ2 := by
  simp only [kPop, List.getLast?_concat, List.dropLast_concat]
theorem kPop_lst (xs : List D) (x : D) (ρ : Env) (i : Nat) : kPop (some (.lst (xs ++ [x]))) ρ i = (liftE (upd ρ i (.lst xs))).bt fun _ ρ2 => .ok (.sh x) ρ2 := kPop_lst_bb ..
theorem r_pop (i : Nat) (ρ : Env) : ev Φ (.pop i) ρ = kPop (own ρ i) ρ i := by
  rw [ev]; cases own ρ i with
  | none => rfl
  | some d => cases d <;> rfl
def kPopAt : Option D → Option D → Env → Nat → Res PV
  | some (.int k), some (.lst xs), ρ1, i => match (place xs.length k) with
        | some j => match xs[j]? with
          | some d => if xs.length ≤ lim then (liftE (upd ρ1 i (.lst (xs.eraseIdx j)))).bind fun _ ρ2 => .ok (.sh d) ρ2 else .stuck
          | none => .stuck
        | none => .stuck
  | _, _, _, _ => .stuck
theorem kPopAt_lst_bb {k : Nat} {xs : List D} {ρ : Env} {i : Nat} (h : k < xs.length) (h2 : xs.length ≤ lim) : kPopAt (some (.int k)) (some (.lst xs)) ρ i = (liftE (upd ρ i (.lst (xs.eraseIdx k)))).bind fun _ ρ2 => .ok (.sh (xs[k]'h)) ρ2 := by
  have e : place xs.length (k : Int) = some k := by unfold place; simp [h]
  simp only [kPopAt, e, List.getElem?_eq_getElem h, h2, if_true]
theorem kPopAt_lst {k : Nat} {xs : List D} {ρ : Env} {i : Nat} (h : k < xs.length) (h2 : xs.length ≤ lim) : kPopAt (some (.int k)) (some (.lst xs)) ρ i = (liftE (upd ρ i (.lst (xs.eraseIdx k)))).bt fun _ ρ2 => .ok (.sh (xs[k]'h)) ρ2 := by first | exact kPopAt_lst_bb .. | exact kPopAt_lst_bb h | exact kPopAt_lst_bb h h2
theorem r_popAt_bb (i : Nat) (e : CE) (ρ : Env) : ev Φ (.popAt i e) ρ = if isL ρ i then ((ev Φ e ρ).bind fun p ρ1 => kPopAt (peek ρ1 p) (own ρ1 i) ρ1 i) else .stuck := by
  rw [ev]; congr 1; congr 1; funext p ρ1; cases peek ρ1 p with
  | none => rfl
  | some d => cases own ρ1 i with
    | none => cases d <;> rfl
    | some e => cases d <;> cases e <;> rfl
theorem r_popAt (i : Nat) (e : CE) (ρ : Env) : ev Φ (.popAt i e) ρ = if isL ρ i then ((ev Φ e ρ).bt fun p ρ1 => kPopAt (peek ρ1 p) (own ρ1 i) ρ1 i) else .stuck := r_popAt_bb ..
/-! statements -/
theorem x_asg_bb (i : Nat) (e : CE) (ρ : Env) : exe Φ (.asg i e) ρ = (ev Φ e ρ).bind fun p ρ1 => (store ρ1 i p).bind fun _ ρ2 => .ok .nx ρ2 := by rw [exe]
theorem x_asg (i : Nat) (e : CE) (ρ : Env) : exe Φ (.asg i e) ρ = (ev Φ e ρ).bt fun p ρ1 => (store ρ1 i p).bt fun _ ρ2 => .ok .nx ρ2 := x_asg_bb ..
def kPut (s : Slot) (ρ : Env) (i : Nat) (t : Slot) : Option Env :=
  match s with
  | .br _ => none
  | .lk _ => none
  | _ => if i < ρ.length then some (ρ.set i t) else none
theorem kPut_no {ρ : Env} {i : Nat} {t : Slot} (h : i < ρ.length) : kPut .no ρ i t = some (ρ.set i t) := if_pos h
theorem kPut_sh {ρ : Env} {i : Nat} {t : Slot} {d : D} (h : i < ρ.length) : kPut (.sh d) ρ i t = some (ρ.set i t) := if_pos h
theorem kPut_mu {ρ : Env} {i : Nat} {t : Slot} {d : D} (h : i < ρ.length) : kPut (.mu d) ρ i t = some (ρ.set i t) := if_pos h
theorem r_put (ρ : Env) (i : Nat) (t : Slot) : put ρ i t = kPut (look ρ i) ρ i t := by
  unfold put free; cases look ρ i <;> simp [kPut]
theorem st_mu (ρ : Env) (i : Nat) (d : D) : store ρ i (.mu d) = liftE (put ρ i (.mu d)) := rfl
theorem st_sh (ρ : Env) (i : Nat) (d : D) : store ρ i (.sh d) = liftE (put ρ i (.sh d)) := rfl
theorem st_slot_bb (ρ : Env) (i j : Nat) : store ρ i (.slot j) = (kO (frz ρ (.slot j))).bind fun d ρ' => liftE (put ρ' i (.sh d)) := by
  unfold store; simp only; cases frz ρ (.slot j) <;> rfl
theorem st_slot (ρ : Env) (i j : Nat) : store ρ i (.slot j) = (kO (frz ρ (.slot j))).bt fun d ρ' => liftE (put ρ' i (.sh d)) := st_slot_bb ..
theorem sts_nil (ρ : Env) : stores [] [] ρ = .ok () ρ := rfl
theorem sts_cons_bb (i : Nat) (is : List Nat) (p : PV) (ps : List PV) (ρ : Env) : stores (i :: is) (p :: ps) ρ = (store ρ i p).bind fun _ ρ' => stores is ps ρ' := rfl
theorem sts_cons (i : Nat) (is : List Nat) (p : PV) (ps : List PV) (ρ : Env) : stores (i :: is) (p :: ps) ρ = (store ρ i p).bt fun _ ρ' => stores is ps ρ' := sts_cons_bb ..
theorem x_unp_bb (t : Tgt) (e : CE) (ρ : Env) : exe Φ (.unp t e) ρ = (frzR (ev Φ e ρ)).bind fun d ρ2 => (liftE (setT ρ2 t d)).bind fun _ ρ3 => .ok .nx ρ3 := by
  rw [exe]; cases ev Φ e ρ with
  | ok p ρ1 =>
    simp only [frzR, bind_ok]; cases frz ρ1 p with
    | none => rfl
    | some x => simp only [bind_ok]; cases setT x.2 t x.1 <;> rfl
  | exc k ρ1 => rfl
  | stuck => rfl
theorem x_unp (t : Tgt) (e : CE) (ρ : Env) : exe Φ (.unp t e) ρ = (frzR (ev Φ e ρ)).bt fun d ρ2 => (liftE (setT ρ2 t d)).bt fun _ ρ3 => .ok .nx ρ3 := x_unp_bb ..
theorem x_par_bb (is : List Nat) (es : List CE) (ρ : Env) : exe Φ (.par is es) ρ = (evps Φ es ρ).bind fun ps ρ1 => (stores is ps ρ1).bind fun _ ρ2 => .ok .nx ρ2 := by rw [exe]
theorem x_par (is : List Nat) (es : List CE) (ρ : Env) : exe Φ (.par is es) ρ = (evps Φ es ρ).bt fun ps ρ1 => (stores is ps ρ1).bt fun _ ρ2 => .ok .nx ρ2 := x_par_bb ..
theorem evps_nil (ρ : Env) : evps Φ [] ρ = .ok [] ρ := by rw [evps]
theorem evps_cons_bb (e : CE) (es : List CE) (ρ : Env) : evps Φ (e :: es) ρ = ((ev Φ e ρ).bind fun p ρ0 => settle ρ0 p).bind fun p ρ1 => (evps Φ es ρ1).bind fun ps ρ2 => .ok (p :: ps) ρ2 := by rw [evps]
theorem evps_cons (e : CE) (es : List CE) (ρ : Env) : evps Φ (e :: es) ρ = ((ev Φ e ρ).bt fun p ρ0 => settle ρ0 p).bt fun p ρ1 => (evps Φ es ρ1).bt fun ps ρ2 => .ok (p :: ps) ρ2 := evps_cons_bb ..
theorem settle_sh (ρ : Env) (d : D) : settle ρ (.sh d) = .ok (.sh d) ρ := rfl
theorem settle_mu (ρ : Env) (d : D) : settle ρ (.mu d) = .ok (.mu d) ρ := rfl
theorem settle_slot_bb (ρ : Env) (i : Nat) : settle ρ (.slot i) = (kO (frz ρ (.slot i))).bind fun d ρ' => .ok (.sh d) ρ' := by
  unfold settle; simp only; cases frz ρ (.slot i) <;> rfl
theorem settle_slot (ρ : Env) (i : Nat) : settle ρ (.slot i) = (kO (frz ρ (.slot i))).bt fun d ρ' => .ok (.sh d) ρ' := settle_slot_bb ..
theorem x_ex_bb (e : CE) (ρ : Env) : exe Φ (.ex e) ρ = (ev Φ e ρ).bind fun _ ρ1 => .ok .nx ρ1 := by rw [exe]
theorem x_ex (e : CE) (ρ : Env) : exe Φ (.ex e) ρ = (ev Φ e ρ).bt fun _ ρ1 => .ok .nx ρ1 := x_ex_bb ..
theorem x_ite_bb (c : CE) (t f : List CS) (ρ : Env) : exe Φ (.ite c t f) ρ = (asB (ev Φ c ρ)).bind fun b ρ1 => if b then exes Φ t ρ1 else exes Φ f ρ1 := by rw [exe]
theorem x_ite (c : CE) (t f : List CS) (ρ : Env) : exe Φ (.ite c t f) ρ = (asB (ev Φ c ρ)).bt fun b ρ1 => if b then exes Φ t ρ1 else exes Φ f ρ1 := x_ite_bb ..
theorem x_for_bb (t : Tgt) (it : CE) (b : List CS) (ρ : Env) : exe Φ (.for t it b) ρ = (asIt (ev Φ it ρ)).bind fun pi ρ1 => (kO (frz ρ1 pi.1)).bind fun _ ρ2 => forD t (exes Φ b) pi.2 ρ2 := by
  rw [exe]; congr 1; funext pi ρ1; cases frz ρ1 pi.1 <;> rfl
theorem x_for (t : Tgt) (it : CE) (b : List CS) (ρ : Env) : exe Φ (.for t it b) ρ = (asIt (ev Φ it ρ)).bt fun pi ρ1 => (kO (frz ρ1 pi.1)).bt fun _ ρ2 => forD t (exes Φ b) pi.2 ρ2 := x_for_bb ..
def whileC (c : CE) (b : List CS) (ρ : Env) : Res Flow := whileD (fun ρ' => asB (ev Φ c ρ')) (exes Φ b) WF ρ
theorem x_wh (c : CE) (b : List CS) (ρ : Env) : exe Φ (.wh c b) ρ = whileC Φ c b ρ := by rw [exe]; rfl
theorem whileC_nx {c : CE} {b : List CS} {ρ : Env} (Inv : Env → Prop) (Post : Env → Prop) (μ : Env → Nat) (h0 : Inv ρ) (hn : μ ρ < 1000000)
    (hs : ∀ ρ, Inv ρ → (∃ ρ1, asB (ev Φ c ρ) = .ok false ρ1 ∧ Post ρ1) ∨ (∃ ρ1, asB (ev Φ c ρ) = .ok true ρ1 ∧ (∃ ρ2, exes Φ b ρ1 = .ok .nx ρ2 ∧ Inv ρ2 ∧ μ ρ2 < μ ρ))) :
    ∃ ρ', whileC Φ c b ρ = .ok .nx ρ' ∧ Post ρ' := whileD_nx Inv Post μ h0 hn hs
def kRet : Slot → Env → Res Flow
  | .sh d, ρ => .ok (.ret (.sh d)) ρ
  | .mu d, ρ => .ok (.ret (.mu d)) ρ
  | _, _ => .stuck
def kRetP : PV → Env → Res Flow
  | .slot i, ρ => kRet (look ρ i) ρ
  | .sh d, ρ => .ok (.ret (.sh d)) ρ
  | .mu d, ρ => .ok (.ret (.mu d)) ρ
theorem kRet_sh (d : D) (ρ : Env) : kRet (.sh d) ρ = .ok (.ret (.sh d)) ρ := rfl
theorem kRet_mu (d : D) (ρ : Env) : kRet (.mu d) ρ = .ok (.ret (.mu d)) ρ := rfl
theorem kRetP_slot (i : Nat) (ρ : Env) : kRetP (.slot i) ρ = kRet (look ρ i) ρ := rfl
theorem kRetP_sh (d : D) (ρ : Env) : kRetP (.sh d) ρ = .ok (.ret (.sh d)) ρ := rfl
theorem kRetP_mu (d : D) (ρ : Env) : kRetP (.mu d) ρ = .ok (.ret (.mu d)) ρ := rfl
theorem x_ret_bb (e : CE) (ρ : Env) : exe Φ (.ret e) ρ = (ev Φ e ρ).bind fun p ρ1 => kRetP p ρ1 := by
  rw [exe]; congr 1; funext p ρ1; cases p with
  | slot i => simp only [kRetP]; cases look ρ1 i <;> rfl
  | sh d => rfl
  | mu d => rfl
theorem x_ret (e : CE) (ρ : Env) : exe Φ (.ret e) ρ = (ev Φ e ρ).bt fun p ρ1 => kRetP p ρ1 := x_ret_bb ..
theorem x_raise (k : Nat) (ρ : Env) : exe Φ (.raise k) ρ = .exc k ρ := by rw [exe]
theorem x_pass (ρ : Env) : exe Φ .pass ρ = .ok .nx ρ := by rw [exe]
def kSeq (ss : List CS) : Flow → Env → Res Flow
  | .nx, ρ1 => exes Φ ss ρ1
  | .ret r, ρ1 => .ok (.ret r) ρ1
theorem kSeq_nx (ss : List CS) (ρ : Env) : kSeq Φ ss .nx ρ = exes Φ ss ρ := rfl
theorem kSeq_ret (ss : List CS) (r : PV) (ρ : Env) : kSeq Φ ss (.ret r) ρ = .ok (.ret r) ρ := rfl
theorem xs_nil (ρ : Env) : exes Φ [] ρ = .ok .nx ρ := by rw [exes]
theorem xs_cons_bb (s : CS) (ss : List CS) (ρ : Env) : exes Φ (s :: ss) ρ = (exe Φ s ρ).bind fun f ρ1 => kSeq Φ ss f ρ1 := by
  rw [exes]; congr 1; funext f ρ1; cases f <;> rfl
theorem xs_cons (s : CS) (ss : List CS) (ρ : Env) : exes Φ (s :: ss) ρ = (exe Φ s ρ).bt fun f ρ1 => kSeq Φ ss f ρ1 := xs_cons_bb ..
def kSI (k d : D) : Option D → Env → Nat → Res Unit
  | some (.lst xs), ρ, i => match k with
    | .int n => match place xs.length n with
      | some j => liftE (upd ρ i (.lst (xs.set j d)))
      | none => .stuck
    | _ => .stuck
  | some (.dct t ks vs), ρ, i => if keyOk t k && decide (ks.length < lim) then liftE (upd ρ i (.dct t (dput ks vs k d).1 (dput ks vs k d).2)) else .stuck
  | _, _, _ => .stuck
theorem r_setItem (ρ : Env) (i : Nat) (k d : D) : setItem ρ i k d = kSI k d (own ρ i) ρ i := by
  unfold setItem; cases own ρ i with
  | none => rfl
  | some e => cases e <;> rfl
theorem kSI_lst {n : Nat} {d : D} {xs : List D} {ρ : Env} {i : Nat} (h : n < xs.length) : kSI (.int n) d (some (.lst xs)) ρ i = liftE (upd ρ i (.lst (xs.set n d))) := by
  have e : place xs.length (n : Int) = some n := by unfold place; simp [h]
  simp only [kSI, e]
theorem kSI_dct {t : Bool} {k d : D} {ks vs : List D} {ρ : Env} {i : Nat} (h : keyOk t k = true) (h2 : ks.length < lim) : kSI k d (some (.dct t ks vs)) ρ i = liftE (upd ρ i (.dct t (dput ks vs k d).1 (dput ks vs k d).2)) := by
  simp only [kSI, h, decide_eq_true h2, Bool.and_self, if_true]
theorem x_setI_bb (i : Nat) (k e : CE) (ρ : Env) : exe Φ (.setI i k e) ρ = (frzR (ev Φ e ρ)).bind fun d ρ1 => if (own ρ1 i).isSome then (frzR (ev Φ k ρ1)).bind fun x ρ2 => (setItem ρ2 i x d).bind fun _ ρ3 => .ok .nx ρ3 else .stuck := by rw [exe]
theorem x_setI (i : Nat) (k e : CE) (ρ : Env) : exe Φ (.setI i k e) ρ = (frzR (ev Φ e ρ)).bt fun d ρ1 => if (own ρ1 i).isSome then (frzR (ev Φ k ρ1)).bt fun x ρ2 => (setItem ρ2 i x d).bt fun _ ρ3 => .ok .nx ρ3 else .stuck := x_setI_bb ..
def kAug (o : Op) (m : Int) (i : Nat) : Option D → Env → Res Flow
  | some (.int n), ρ1 => match o with
        | .add => (liftE (put ρ1 i (.sh (.int (m + n))))).bind fun _ ρ2 => .ok .nx ρ2
        | .sub => (liftE (put ρ1 i (.sh (.int (m - n))))).bind fun _ ρ2 => .ok .nx ρ2
        | _ => .stuck
  | _, _ => .stuck
theorem kAug_add_bb (m n : Int) (i : Nat) (ρ : Env) : kAug .add m i (some (.int n)) ρ = (liftE (put ρ i (.sh (.int (m + n))))).bind fun _ ρ2 => .ok .nx ρ2 := rfl
theorem kAug_add (m n : Int) (i : Nat) (ρ : Env) : kAug .add m i (some (.int n)) ρ = (liftE (put ρ i (.sh (.int (m + n))))).bt fun _ ρ2 => .ok .nx ρ2 := kAug_add_bb ..
theorem kAug_sub_bb (m n : Int) (i : Nat) (ρ : Env) : kAug .sub m i (some (.int n)) ρ = (liftE (put ρ i (.sh (.int (m - n))))).bind fun _ ρ2 => .ok .nx ρ2 := rfl
theorem kAug_sub (m n : Int) (i : Nat) (ρ : Env) : kAug .sub m i (some (.int n)) ρ = (liftE (put ρ i (.sh (.int (m - n))))).bt fun _ ρ2 => .ok .nx ρ2 := kAug_sub_bb ..
def kAugS (o : Op) (i : Nat) (e : CE) : Slot → Env → Res Flow
  | .sh (.int m), ρ => (ev Φ e ρ).bind fun p ρ1 => kAug o m i (peek ρ1 p) ρ1
  | _, _ => .stuck
theorem kAugS_sh_bb (o : Op) (i : Nat) (e : CE) (m : Int) (ρ : Env) : kAugS Φ o i e (.sh (.int m)) ρ = (ev Φ e ρ).bind fun p ρ1 => kAug o m i (peek ρ1 p) ρ1 := rfl
theorem kAugS_sh (o : Op) (i : Nat) (e : CE) (m : Int) (ρ : Env) : kAugS Φ o i e (.sh (.int m)) ρ = (ev Φ e ρ).bt fun p ρ1 => kAug o m i (peek ρ1 p) ρ1 := kAugS_sh_bb ..
theorem x_aug (o : Op) (i : Nat) (e : CE) (ρ : Env) : exe Φ (.aug o i e) ρ = kAugS Φ o i e (look ρ i) ρ := by
  rw [exe]; cases look ρ i with
  | sh d => cases d with
    | int m =>
      simp only [kAugS]; congr 1; funext p ρ1; cases peek ρ1 p with
      | none => rfl
      | some e => cases e <;> cases o <;> rfl
    | _ => rfl
  | _ => rfl
/-! targets, functions -/
theorem t_nm (ρ : Env) (i : Nat) (d : D) : setT ρ (.nm i) d = put ρ i (.sh d) := by rw [setT]
theorem t_tp (ρ : Env) (ts : List Tgt) (ds : List D) : setT ρ (.tp ts) (.tup ds) = setTs ρ ts ds := by rw [setT]
def kTs (ts : List Tgt) (ds : List D) : Option Env → Option Env
  | some ρ => setTs ρ ts ds
  | none => none
theorem kTs_some (ts : List Tgt) (ds : List D) (ρ : Env) : kTs ts ds (some ρ) = setTs ρ ts ds := rfl
theorem ts_nil (ρ : Env) : setTs ρ [] [] = some ρ := by rw [setTs]
theorem ts_cons (ρ : Env) (t : Tgt) (ts : List Tgt) (d : D) (ds : List D) : setTs ρ (t :: ts) (d :: ds) = kTs ts ds (setT ρ t d) := by
  rw [setTs]; cases setT ρ t d <;> rfl
def kDef (as : List Slot) : Res Flow → Out
  | .ok (.ret r) ρ => .ret r (lent as ρ)
  | .ok .nx ρ => .ret (.sh .non) (lent as ρ)
  | .exc k ρ => .exc k (lent as ρ)
  | .stuck => .stuck
theorem kDef_ret (as : List Slot) (r : PV) (ρ : Env) : kDef as (.ok (.ret r) ρ) = .ret r (lent as ρ) := rfl
theorem kDef_nx (as : List Slot) (ρ : Env) : kDef as (.ok .nx ρ) = .ret (.sh .non) (lent as ρ) := rfl
theorem kDef_exc (as : List Slot) (k : Nat) (ρ : Env) : kDef as (.exc k ρ) = .exc k (lent as ρ) := rfl
theorem run_def {Γ : Nat → Option CDef} {n f ps m : Nat} {b : List CS} (h : Γ f = some ⟨ps, m, b⟩) {as : List Slot} (hl : as.length = ps) : run Γ (n + 1) f as = kDef as (exes (run Γ n) b (as ++ List.replicate (m - ps) .no)) := by
  rw [run_succ h]; unfold runDef; rw [if_pos hl]; rfl
theorem brOnly_br (d : D) : brOnly (.br d) = .br d := rfl
theorem brOnly_no : brOnly .no = .no := rfl
theorem brOnly_sh (d : D) : brOnly (.sh d) = .no := rfl
theorem brOnly_mu (d : D) : brOnly (.mu d) = .no := rfl
theorem lent1 (a : Slot) (ρ : Env) : lent [a] ρ = [brOnly (look ρ 0)] := rfl
theorem lent2 (a b : Slot) (ρ : Env) : lent [a, b] ρ = [brOnly (look ρ 0), brOnly (look ρ 1)] := rfl
theorem lent3 (a b c : Slot) (ρ : Env) : lent [a, b, c] ρ = [brOnly (look ρ 0), brOnly (look ρ 1), brOnly (look ρ 2)] := rfl
theorem lent4 (a b c d : Slot) (ρ : Env) : lent [a, b, c, d] ρ = [brOnly (look ρ 0), brOnly (look ρ 1), brOnly (look ρ 2), brOnly (look ρ 3)] := rfl
theorem lent5 (a b c d e : Slot) (ρ : Env) : lent [a, b, c, d, e] ρ = [brOnly (look ρ 0), brOnly (look ρ 1), brOnly (look ρ 2), brOnly (look ρ 3), brOnly (look ρ 4)] := rfl
end
/-! types -/
theorem ty_int_int (i : Int) : isTy .int (.int i) = true := rfl
theorem ty_bool_int (i : Int) : isTy .bool (.int i) = false := rfl
theorem ty_int_bl (i : Bool) : isTy .int (.bl i) = true := rfl
theorem ty_bool_bl (i : Bool) : isTy .bool (.bl i) = true := rfl
end SL

/-! ## P1 -/
set_option maxRecDepth 100000
set_option linter.all false
set_option autoImplicit false
namespace SL
/-! data -/
def tI (xs : List Int) : D := .tup (xs.map .int)
def tN (xs : List Nat) : D := .tup (xs.map fun k => .int (k : Nat))
def tT (L : List (List Int)) : D := .tup (L.map tI)
def lT (L : List (List Int)) : D := .lst (L.map tI)
section
variable {α β : Type}
theorem flat_one (ys : List α) (h : α → β) : (ys.flatMap fun x => [h x]) = ys.map h := by induction ys <;> simp_all
theorem bools_map (ys : List α) (b : α → Bool) : bools (ys.map fun x => D.bl (b x)) = some (ys.map b) := by
  unfold bools; induction ys <;> simp_all [asBool]
theorem ints_map (ys : List α) (b : α → Int) : intsD (ys.map fun x => D.int (b x)) = some (ys.map b) := by
  unfold intsD; induction ys <;> simp_all [asInt]
@[scoped simp] theorem items_tI (xs : List Int) : items (tI xs) = some (xs.map .int) := rfl
@[scoped simp] theorem items_tT (xs : List (List Int)) : items (tT xs) = some (xs.map tI) := rfl
@[scoped simp] theorem items_lT (xs : List (List Int)) : items (lT xs) = some (xs.map tI) := rfl
@[scoped simp] theorem items_tN (xs : List Nat) : items (tN xs) = some (xs.map fun k => .int (k : Nat)) := rfl
@[scoped simp] theorem isi_tI (t : Ty) (xs : List Int) (ρ : Env) : kIsi t (some (tI xs)) ρ = .ok (.sh (.bl (decide (t = .tup)))) ρ := by cases t <;> rfl
@[scoped simp] theorem isi_tT (t : Ty) (xs : List (List Int)) (ρ : Env) : kIsi t (some (tT xs)) ρ = .ok (.sh (.bl (decide (t = .tup)))) ρ := by cases t <;> rfl
@[scoped simp] theorem isi_tN (t : Ty) (xs : List Nat) (ρ : Env) : kIsi t (some (tN xs)) ρ = .ok (.sh (.bl (decide (t = .tup)))) ρ := by cases t <;> rfl
@[scoped simp] theorem len_tI (xs : List Int) : bi1 .len (tI xs) = some (.sh (.int xs.length)) := by simp [tI, bi1]
@[scoped simp] theorem len_tT (xs : List (List Int)) : bi1 .len (tT xs) = some (.sh (.int xs.length)) := by simp [tT, bi1]
@[scoped simp] theorem len_lT (xs : List (List Int)) : bi1 .len (lT xs) = some (.sh (.int xs.length)) := by simp [lT, bi1]
@[scoped simp] theorem len_tN (xs : List Nat) : bi1 .len (tN xs) = some (.sh (.int xs.length)) := by simp [tN, bi1]
@[scoped simp] theorem len_lst (xs : List D) : bi1 .len (.lst xs) = some (.sh (.int xs.length)) := rfl
theorem all_b (ys : List α) (b : α → Bool) : bi1 .all (.lst (ys.map fun x => D.bl (b x))) = some (.sh (.bl (ys.all b))) := by
  simp only [bi1, bools_map]; simp [Function.comp_def]
theorem tuple_I (ys : List α) (h : α → List Int) : bi1 .tuple (.lst (ys.map fun x => tI (h x))) = some (.sh (tT (ys.map h))) := by
  simp [bi1, tT, Function.comp_def]
def zeros (w : Nat) : List Int := List.replicate w 0
theorem rep_zero {w : Nat} (h : 1 ≤ w) (h2 : w ≤ 1000) : binop .mul (.tup [.int 0]) (.int (w : Nat)) = some (.sh (tI (zeros w))) := by
  have e : rep w [D.int 0] = (zeros w).map D.int := by
    unfold rep zeros; induction w with
    | zero => rfl
    | succ n ih => simp [List.replicate_succ]
  simp only [binop, tI]
  rw [if_pos ⟨by simp, by simp, by omega, by omega⟩]
  simp [e]
def vadd (a b : List Int) : List Int := (a.zip b).map fun p => p.1 + p.2
@[scoped simp] theorem zip_II (a b : List Int) : zipD (tI a) (tI b) = some ((a.zip b).map fun p => .tup [.int p.1, .int p.2]) := by
  simp [zipD, tI, zipV, List.zip_map, Function.comp_def]
theorem item_tT {L : List (List Int)} {i : Int} (h : 0 ≤ i) (h2 : i < L.length) : item (tT L) (.int i) = some (tI (L.getD i.toNat [])) := by
  have e : place L.length i = some i.toNat := by unfold place; rw [if_pos h, if_pos h2]
  simp only [item, tT, List.length_map, e, Option.bind_some]
  have : i.toNat < L.length := by omega
  simp [this]
theorem item_tI {L : List Int} {i : Int} (h : 0 ≤ i) (h2 : i < L.length) : item (tI L) (.int i) = some (.int (L.getD i.toNat 0)) := by
  have e : place L.length i = some i.toNat := by unfold place; rw [if_pos h, if_pos h2]
  simp only [item, tI, List.length_map, e, Option.bind_some]
  have : i.toNat < L.length := by omega
  simp [this]
theorem most_le (m : Int) (xs : List Int) : m ≤ most m xs ∧ (∀ x ∈ xs, x ≤ most m xs) := by
  induction xs generalizing m with
  | nil => simp [most]
  | cons x xs ih =>
    obtain ⟨h1, h2⟩ := ih (if m < x then x else m)
    simp only [most]
    refine ⟨by split at h1 <;> rename_i c <;> simp only [c, if_true, if_false] <;> omega, fun y hy => ?_⟩
    rcases List.mem_cons.mp hy with rfl | h
    · split at h1 <;> rename_i c <;> simp only [c, if_true, if_false] <;> omega
    · exact h2 y h
theorem most_mem (m : Int) (xs : List Int) : most m xs = m ∨ most m xs ∈ xs := by
  induction xs generalizing m with
  | nil => simp [most]
  | cons x xs ih =>
    simp only [most]
    split
    · rcases ih x with h | h
      · rw [h]; exact .inr (List.mem_cons_self ..)
      · exact .inr (List.mem_cons_of_mem _ h)
    · rcases ih m with h | h
      · exact .inl h
      · exact .inr (List.mem_cons_of_mem _ h)
/-- the greatest of a list of intsD -/
def maxL : List Int → Int
  | [] => 0
  | x :: xs => most x xs
theorem max_i {ys : List α} (h : α → Int) (hn : ys ≠ []) : bi1 .max (.lst (ys.map fun x => D.int (h x))) = some (.sh (.int (maxL (ys.map h)))) := by
  simp only [bi1, ints_map]
  cases ys with
  | nil => exact absurd rfl hn
  | cons y ys => rfl
theorem maxL_le {xs : List Int} {b : Int} (hn : xs ≠ []) : maxL xs ≤ b ↔ ∀ x ∈ xs, x ≤ b := by
  cases xs with
  | nil => exact absurd rfl hn
  | cons x xs =>
    obtain ⟨h1, h2⟩ := most_le x xs
    constructor
    · intro h y hy
      rcases List.mem_cons.mp hy with rfl | hy
      · exact Int.le_trans h1 h
      · exact Int.le_trans (h2 y hy) h
    · intro h
      show most x xs ≤ b
      rcases most_mem x xs with e | e
      · rw [e]; exact h x (List.mem_cons_self ..)
      · exact h _ (List.mem_cons_of_mem _ e)
end
/-- a comprehension, a thing for each -/
theorem ev_comp1 {α : Type} {Φ : Fns} {own : List Nat} {t : Tgt} {it : CE} {cs : List CE} {elt : CE} {ρ : Env} {p : PV} {ys : List α} {g : α → D} (f : α → D) (env : α → Env)
    (hit : asIt (ev Φ it ρ) = .ok (p, ys.map g) ρ) (hl : ys.length ≤ lim) (hs : still ρ own = true) (hw : walkable p ρ = true) (hg : guard (lockO p ρ) (lockE p ρ) = true)
    (hx : ∀ x ∈ ys, setT (wipe (lockE p ρ) own) t (g x) = some (env x) ∧
      (∀ acc, ((evAnd Φ cs (env x)).bt fun b ρ4 => if b then (frzR (ev Φ elt ρ4)).bt fun d ρ5 => .ok (acc ++ [d]) ρ5 else .ok acc ρ4) = .ok (acc ++ [f x]) (env x)) ∧
      wipe (env x) own = wipe (lockE p ρ) own ∧ guard (lockO p ρ) (env x) = true ∧ unlockE p ρ (unwipe ρ (env x) own) = some ρ)
    (h0 : unlockE p ρ (unwipe ρ (lockE p ρ) own) = some ρ) :
    ev Φ (.comp own t it cs elt) ρ = .ok (.mu (.lst (ys.map f))) ρ := by
  rw [ev_comp (fun x => [f x]) env hit hl hs hw hg hx h0, flat_one]
structure Loads (w : Nat) (L : List (List Int)) : Prop where
  w1 : 1 ≤ w
  w3 : w ≤ 3
  n1 : 1 ≤ L.length
  n8 : L.length ≤ 8
  row : ∀ p ∈ L, p.length = w ∧ ∀ x ∈ p, -99 ≤ x ∧ x ≤ 99
theorem Loads.at {w : Nat} {L : List (List Int)} (h : Loads w L) {i : Nat} (hi : i < L.length) : (L.getD i []).length = w ∧ ∀ x ∈ L.getD i [], -99 ≤ x ∧ x ≤ 99 := by
  have e : L.getD i [] = L[i] := by simp [hi]
  rw [e]; exact h.row _ (List.getElem_mem hi)
theorem lim_eq : lim = 1000000 := rfl
theorem is_whole_sp {n : Nat} (hn : 1 ≤ n) (x lo hi : Int) : run GA n i_is_whole [.sh (.int x), .sh (.int lo), .sh (.int hi)] = .ret (.sh (.bl (decide (lo ≤ x) && decide (x ≤ hi)))) [.no, .no, .no] := by
  obtain ⟨n, rfl⟩ : ∃ m, n = m + 1 := ⟨n - 1, by omega⟩
  rw [run_def rfl rfl]
  simp only [r_var, kVar_sh, kVar_mu, kVar_br, kVar_lk, r_look0, r_look1, r_set0, r_set1, cont_sh, cont_mu, cont_br, cont_lk, peek_slot, peek_sh, peek_mu, frz_slot, frz_sh, frz_mu, kFrz_sh, kFrz_mu, kO_some, r_frzR, r_cst, r_glb, r_tup, r_lst, r_dnew, kBin_some, r_bin, kRep_some, r_lrep, kNeg_i, r_neg, kB_b, r_asB, r_not, r_and, r_or, kCmpR_some, kCmp_some, r_cmp, kCh2_some, kCh_some, r_chain, r_ite, kOut_sh, kOut_mu, kOut_exc, kCall_some, r_call, lends_nil, lends_val, lends_len, lends_mov, kSl_some, kOw_some, sl_nil, sl_val, sl_mov, sl_len, r_own, kOwn_mu, kOwn_br, bk_nil, bk_val, bk_mov, kBk_some, bk_len, r_upd, kUpd_mu, kUpd_br, kLend_mu, kLend_br, arg_lend, arg_mov, kVal_some, arg_val, arg_nil, arg_cons0, arg_cons, evs_nil, evs_cons, evAnd_cons, evOr_cons, evAnd_nil, if_tt, if_ff, kBi1_some, kBi2_some, r_bi1, r_bi2, r_isi, kIsi_non, kIsi_bl, kIsi_int, kIsi_str, kIsi_tup, kIsi_lst, kIsi_wr, kIt1_some, kIdx_some, r_idx, kOI_i, oi_nil, oi_one, kSlc_some, r_slc, kRev_some, r_rev, kIts_some, kAs_some, r_asIt, items_lst, items_tup, items_wr, kRng_i, r_rng1, r_listRng, r_tupRng, kRng2_i, r_rng2, kZip_some, r_zip, kLz_some, r_listZip, kEn_lst, r_enum, kApp_lst, kIsL_lst, r_isL, r_app, kExt_lst, r_ext, kPop_lst, r_pop, kPopAt_lst, r_popAt, x_asg, kPut_no, kPut_sh, kPut_mu, r_put, st_mu, st_sh, st_slot, sts_nil, sts_cons, x_unp, x_par, evps_nil, evps_cons, settle_sh, settle_mu, settle_slot, x_ex, x_ite, x_for, x_wh, kRet_sh, kRet_mu, kRetP_slot, kRetP_sh, kRetP_mu, x_ret, x_raise, x_pass, kSeq_nx, kSeq_ret, xs_nil, xs_cons, r_setItem, kSI_lst, kSI_dct, x_setI, kAug_add, kAug_sub, kAugS_sh, x_aug, t_nm, t_tp, kTs_some, ts_nil, ts_cons, kDef_ret, kDef_nx, kDef_exc, brOnly_br, brOnly_no, brOnly_sh, brOnly_mu, lent1, lent2, lent3, lent4, lent5, ty_int_int, ty_bool_int, ty_int_bl, ty_bool_bl, ↓evAnd_one, ↓evOr_one, unwipe, wipe, bt_ok, bt_exc, bt_stuck, lift_some, liftE_some, calm_ok, b_and, b_or, b_andP, cmp_eq_i, cmp_ne_i, cmp_lt_i, cmp_le_i, cmp_gt_i, cmp_ge_i, cmp_is_non, cmp_isnot_non, cmp_is_b, cmp_isnot_b, bin_add_i, bin_sub_i, List.cons_append, List.nil_append, List.append_nil, List.replicate_succ, List.replicate_zero, Nat.reduceSub, Nat.reduceAdd, Nat.reduceLT, Nat.reduceLeDiff, Nat.zero_le, Nat.le_refl, if_true, ite_true, if_false, ite_false, ↓reduceIte, List.length_cons, List.length_nil, Option.isSome_some, ne_eq, not_true_eq_false, not_false_eq_true, eq_self, decide_true, decide_false, Bool.not_true, Bool.not_false, Bool.and_true, Bool.true_and, Bool.false_and, Bool.or_false, Bool.false_or, Bool.true_or]
end SL

/-! ## P2 -/
set_option maxRecDepth 100000
set_option linter.all false
set_option autoImplicit false
namespace SL
section
variable {α β : Type}
theorem max_I {ys : List Int} (hn : ys ≠ []) : bi1 .max (.lst (ys.map D.int)) = some (.sh (.int (maxL ys))) := by
  have := max_i (fun x => x) hn
  simpa using this
end
def absL (p : List Int) : List Int := p.map fun y => (y.natAbs : Int)
def farV (p : List Int) : Int := maxL (absL p)
def leanV (rows : List (List Int)) : Int := maxL (0 :: rows.map farV)
def runSum (L : List (List Int)) : List Int → List Nat → List (List Int)
  | _, [] => []
  | a, k :: ks => vadd a (L.getD k []) :: runSum L (vadd a (L.getD k [])) ks
def sumV (L : List (List Int)) (a : List Int) (ks : List Nat) : List Int := ks.foldl (fun a k => vadd a (L.getD k [])) a
theorem vadd_len {a b : List Int} {w : Nat} (h : a.length = w) (h2 : b.length = w) : (vadd a b).length = w := by simp [vadd, h, h2]
theorem zeros_len (w : Nat) : (zeros w).length = w := by simp [zeros]
section
variable {n w : Nat} {L : List (List Int)}
theorem Loads.ne (h : Loads w L) : L ≠ [] := by intro e; have := h.n1; simp [e] at this
theorem Loads.i0 (h : Loads w L) : item (tT L) (.int 0) = some (tI (L.getD 0 [])) := item_tT (by omega) (by have := h.n1; omega)
theorem Loads.l0 (h : Loads w L) : (L.getD 0 []).length = w := (h.at h.n1).1
end
end SL

/-! ## P3 -/
set_option maxRecDepth 100000
set_option linter.all false
set_option autoImplicit false
namespace SL
/-! ### things written as data -/
structure Enc {α : Type} (k : Nat) (g : α → D) : Prop where
  eq : ∀ a b, (g a).eqv (g b) = true ↔ a = b
  plain : ∀ a, (g a).plain = true
  depth : ∀ a, (g a).depth ≤ k
section
variable {α β : Type}
theorem Enc.fine {k : Nat} {g : α → D} (h : Enc k g) (hk : k ≤ 50) (a : α) : (g a).fine = true := by
  unfold D.fine; rw [h.plain a]; have := h.depth a; simp; omega
theorem Enc.eqB {k : Nat} {g : α → D} [DecidableEq α] (h : Enc k g) (a b : α) : (g a).eqv (g b) = decide (a = b) := by
  have := h.eq a b
  cases e : (g a).eqv (g b) <;> simp_all
theorem Enc.list {k : Nat} {g : α → D} (h : Enc k g) : (∀ xs ys : List α, D.eqvs (xs.map g) (ys.map g) = true ↔ xs = ys) ∧ (∀ xs : List α, D.plains (xs.map g) = true) ∧ (∀ xs : List α, D.depths (xs.map g) ≤ k) := by
  refine ⟨fun xs => ?_, fun xs => ?_, fun xs => ?_⟩
  · induction xs with
    | nil => intro ys; cases ys <;> simp [D.eqvs]
    | cons x xs ih => intro ys; cases ys <;> simp [D.eqvs, ih, h.eq]
  · induction xs with
    | nil => simp [D.plains]
    | cons x xs ih => simp [D.plains, ih, h.plain]
  · induction xs with
    | nil => simp [D.depths]
    | cons x xs ih => simp only [List.map_cons, D.depths]; have := h.depth x; omega
theorem Enc.tup {k : Nat} {g : α → D} (h : Enc k g) : Enc (k + 1) (fun xs : List α => .tup (xs.map g)) :=
  ⟨fun a b => by simp only [D.eqv]; exact h.list.1 a b, fun a => by simp only [D.plain]; exact h.list.2.1 a, fun a => by simp only [D.depth]; have := h.list.2.2 a; omega⟩
theorem Enc.lst {k : Nat} {g : α → D} (h : Enc k g) : Enc (k + 1) (fun xs : List α => .lst (xs.map g)) :=
  ⟨fun a b => by simp only [D.eqv]; exact h.list.1 a b, fun a => by simp only [D.plain]; exact h.list.2.1 a, fun a => by simp only [D.depth]; have := h.list.2.2 a; omega⟩
theorem enc_int : Enc 0 D.int := ⟨fun a b => by simp [D.eqv], fun a => by simp [D.plain], fun a => by simp [D.depth]⟩
theorem enc_nat : Enc 0 (fun k : Nat => D.int k) := ⟨fun a b => by simp [D.eqv]; omega, fun a => by simp [D.plain], fun a => by simp [D.depth]⟩
theorem enc_tI : Enc 1 tI := enc_int.tup
theorem enc_tN : Enc 1 tN := enc_nat.tup
theorem enc_lT : Enc 2 lT := enc_tI.lst
theorem cmp_eq_enc {k : Nat} {g : α → D} [DecidableEq α] (h : Enc k g) (hk : k ≤ 50) (a b : α) : cmpop .eq (g a) (g b) = some (decide (a = b)) := by
  simp [cmpop, h.fine hk, h.eqB]
theorem cmp_ne_enc {k : Nat} {g : α → D} [DecidableEq α] (h : Enc k g) (hk : k ≤ 50) (a b : α) : cmpop .ne (g a) (g b) = some (decide (a ≠ b)) := by
  simp [cmpop, h.fine hk, h.eqB]
end
abbrev Order (L : List (List Int)) (o : List Nat) : Prop := o.Perm (List.range L.length)
section
variable {n w : Nat} {L : List (List Int)} {o : List Nat}
theorem Order.len {m : Nat} (h : o.Perm (List.range m)) : o.length = m := by simpa using h.length_eq
theorem Order.nodup {m : Nat} (h : o.Perm (List.range m)) : o.Nodup := h.nodup_iff.mpr List.nodup_range
theorem Order.lt {m : Nat} (h : o.Perm (List.range m)) {k : Nat} (hk : k ∈ o) : k < m := by simpa using h.mem_iff.mp hk
theorem runSum_lens (h : Loads w L) {a : List Int} (ha : a.length = w) (hr : ∀ k ∈ o, k < L.length) : ∀ p ∈ runSum L a o, p.length = w := by
  induction o generalizing a with
  | nil => intro p hp; cases hp
  | cons x o ih =>
    intro p hp
    have hx := vadd_len ha (h.at (hr x (List.mem_cons_self ..))).1
    rcases List.mem_cons.mp hp with rfl | hp
    · exact hx
    · exact ih hx (fun k hk => hr k (List.mem_cons_of_mem _ hk)) p hp
end
end SL

/-! ## P4 -/
set_option maxRecDepth 100000
set_option linter.all false
set_option autoImplicit false
namespace SL
/-! ### what the laws draw -/
theorem bin_pow_i {i j : Int} (h : powOk i j = true) : binop .pow (.int i) (.int j) = some (.sh (.int (i ^ j.toNat))) := by simp [binop, h]
theorem item_li {L : List Int} {i : Int} (h : 0 ≤ i) (h2 : i < L.length) : item (.lst (L.map D.int)) (.int i) = some (.int (L.getD i.toNat 0)) := by
  have e : place L.length i = some i.toNat := by unfold place; rw [if_pos h, if_pos h2]
  simp only [item, List.length_map, e, Option.bind_some]
  have : i.toNat < L.length := by omega
  simp [this]
theorem range_map (n : Int) : range 0 n = (List.range n.toNat).map fun k => D.int (k : Nat) := by simp [range]
theorem rng1_i {n : Int} {ρ : Env} (h1 : -(lim : Int) ≤ n) (h2 : n ≤ lim) : kRng (fun n => .sh (.lst (range 0 n))) (some (.int n)) ρ = .ok (.sh (.lst ((List.range n.toNat).map fun k => D.int (k : Nat)))) ρ := by rw [kRng_i h1 h2, range_map]
theorem lrng_i {n : Int} {ρ : Env} (h1 : -(lim : Int) ≤ n) (h2 : n ≤ lim) : kRng (fun n => .mu (.lst (range 0 n))) (some (.int n)) ρ = .ok (.mu (.lst ((List.range n.toNat).map fun k => D.int (k : Nat)))) ρ := by rw [kRng_i h1 h2, range_map]
theorem min2_i (i j : Int) : bi2 .min2 (.int i) (.int j) = some (.sh (.int (if j < i then j else i))) := rfl
theorem max2_i (i j : Int) : bi2 .max2 (.int i) (.int j) = some (.sh (.int (if j > i then j else i))) := rfl
theorem len_li (ns : List Int) : bi1 .len (.lst (ns.map D.int)) = some (.sh (.int ns.length)) := by simp [bi1]
theorem cell_sp {n : Nat} (hn : 1 ≤ n) (ns : List Int) (hs : ns.length ≤ 63) (k : Nat) (hk : k ≤ 100000) : ∃ v, run GA n i_Lcell_at [.sh (.lst (ns.map .int)), .sh (.int k)] = .ret (.sh (.int v)) [.no, .no] := by
  obtain ⟨n, rfl⟩ : ∃ m, n = m + 1 := ⟨n - 1, by omega⟩
  rw [run_def rfl rfl]
  by_cases h1 : k < ns.length
  · refine ⟨ns.getD k 0, ?_⟩
    have d1 : decide ((k : Int) < (ns.length : Int)) = true := by simp; omega
    simp only [r_var, kVar_sh, kVar_mu, kVar_br, kVar_lk, r_look0, r_look1, r_set0, r_set1, cont_sh, cont_mu, cont_br, cont_lk, peek_slot, peek_sh, peek_mu, frz_slot, frz_sh, frz_mu, kFrz_sh, kFrz_mu, kO_some, r_frzR, r_cst, r_glb, r_tup, r_lst, r_dnew, kBin_some, r_bin, kRep_some, r_lrep, kNeg_i, r_neg, kB_b, r_asB, r_not, r_and, r_or, kCmpR_some, kCmp_some, r_cmp, kCh2_some, kCh_some, r_chain, r_ite, kOut_sh, kOut_mu, kOut_exc, kCall_some, r_call, lends_nil, lends_val, lends_len, lends_mov, kSl_some, kOw_some, sl_nil, sl_val, sl_mov, sl_len, r_own, kOwn_mu, kOwn_br, bk_nil, bk_val, bk_mov, kBk_some, bk_len, r_upd, kUpd_mu, kUpd_br, kLend_mu, kLend_br, arg_lend, arg_mov, kVal_some, arg_val, arg_nil, arg_cons0, arg_cons, evs_nil, evs_cons, evAnd_cons, evOr_cons, evAnd_nil, if_tt, if_ff, kBi1_some, kBi2_some, r_bi1, r_bi2, r_isi, kIsi_non, kIsi_bl, kIsi_int, kIsi_str, kIsi_tup, kIsi_lst, kIsi_wr, kIt1_some, kIdx_some, r_idx, kOI_i, oi_nil, oi_one, kSlc_some, r_slc, kRev_some, r_rev, kIts_some, kAs_some, r_asIt, items_lst, items_tup, items_wr, kRng_i, r_rng1, r_listRng, r_tupRng, kRng2_i, r_rng2, kZip_some, r_zip, kLz_some, r_listZip, kEn_lst, r_enum, kApp_lst, kIsL_lst, r_isL, r_app, kExt_lst, r_ext, kPop_lst, r_pop, kPopAt_lst, r_popAt, x_asg, kPut_no, kPut_sh, kPut_mu, r_put, st_mu, st_sh, st_slot, sts_nil, sts_cons, x_unp, x_par, evps_nil, evps_cons, settle_sh, settle_mu, settle_slot, x_ex, x_ite, x_for, x_wh, kRet_sh, kRet_mu, kRetP_slot, kRetP_sh, kRetP_mu, x_ret, x_raise, x_pass, kSeq_nx, kSeq_ret, xs_nil, xs_cons, r_setItem, kSI_lst, kSI_dct, x_setI, kAug_add, kAug_sub, kAugS_sh, x_aug, t_nm, t_tp, kTs_some, ts_nil, ts_cons, kDef_ret, kDef_nx, kDef_exc, brOnly_br, brOnly_no, brOnly_sh, brOnly_mu, lent1, lent2, lent3, lent4, lent5, ty_int_int, ty_bool_int, ty_int_bl, ty_bool_bl, ↓evAnd_one, ↓evOr_one, unwipe, wipe, bt_ok, bt_exc, bt_stuck, lift_some, liftE_some, calm_ok, b_and, b_or, b_andP, cmp_eq_i, cmp_ne_i, cmp_lt_i, cmp_le_i, cmp_gt_i, cmp_ge_i, cmp_is_non, cmp_isnot_non, cmp_is_b, cmp_isnot_b, bin_add_i, bin_sub_i, List.cons_append, List.nil_append, List.append_nil, List.replicate_succ, List.replicate_zero, Nat.reduceSub, Nat.reduceAdd, Nat.reduceLT, Nat.reduceLeDiff, Nat.zero_le, Nat.le_refl, if_true, ite_true, if_false, ite_false, ↓reduceIte, List.length_cons, List.length_nil, Option.isSome_some, ne_eq, not_true_eq_false, not_false_eq_true, eq_self, decide_true, decide_false, Bool.not_true, Bool.not_false, Bool.and_true, Bool.true_and, Bool.false_and, Bool.or_false, Bool.false_or, Bool.true_or, len_li, d1, item_li (L := ns) (i := (k : Nat)) (by omega) (by omega), Int.toNat_natCast]
  have d1 : decide ((k : Int) < (ns.length : Int)) = false := by simp; omega
  by_cases h2 : ns = []
  · subst h2
    refine ⟨0, ?_⟩
    have e := cmp_eq_enc enc_int.lst (by omega) ([] : List Int) []
    simp only [List.map_nil] at e
    simp only [List.length_nil] at d1
    simp only [r_var, kVar_sh, kVar_mu, kVar_br, kVar_lk, r_look0, r_look1, r_set0, r_set1, cont_sh, cont_mu, cont_br, cont_lk, peek_slot, peek_sh, peek_mu, frz_slot, frz_sh, frz_mu, kFrz_sh, kFrz_mu, kO_some, r_frzR, r_cst, r_glb, r_tup, r_lst, r_dnew, kBin_some, r_bin, kRep_some, r_lrep, kNeg_i, r_neg, kB_b, r_asB, r_not, r_and, r_or, kCmpR_some, kCmp_some, r_cmp, kCh2_some, kCh_some, r_chain, r_ite, kOut_sh, kOut_mu, kOut_exc, kCall_some, r_call, lends_nil, lends_val, lends_len, lends_mov, kSl_some, kOw_some, sl_nil, sl_val, sl_mov, sl_len, r_own, kOwn_mu, kOwn_br, bk_nil, bk_val, bk_mov, kBk_some, bk_len, r_upd, kUpd_mu, kUpd_br, kLend_mu, kLend_br, arg_lend, arg_mov, kVal_some, arg_val, arg_nil, arg_cons0, arg_cons, evs_nil, evs_cons, evAnd_cons, evOr_cons, evAnd_nil, if_tt, if_ff, kBi1_some, kBi2_some, r_bi1, r_bi2, r_isi, kIsi_non, kIsi_bl, kIsi_int, kIsi_str, kIsi_tup, kIsi_lst, kIsi_wr, kIt1_some, kIdx_some, r_idx, kOI_i, oi_nil, oi_one, kSlc_some, r_slc, kRev_some, r_rev, kIts_some, kAs_some, r_asIt, items_lst, items_tup, items_wr, kRng_i, r_rng1, r_listRng, r_tupRng, kRng2_i, r_rng2, kZip_some, r_zip, kLz_some, r_listZip, kEn_lst, r_enum, kApp_lst, kIsL_lst, r_isL, r_app, kExt_lst, r_ext, kPop_lst, r_pop, kPopAt_lst, r_popAt, x_asg, kPut_no, kPut_sh, kPut_mu, r_put, st_mu, st_sh, st_slot, sts_nil, sts_cons, x_unp, x_par, evps_nil, evps_cons, settle_sh, settle_mu, settle_slot, x_ex, x_ite, x_for, x_wh, kRet_sh, kRet_mu, kRetP_slot, kRetP_sh, kRetP_mu, x_ret, x_raise, x_pass, kSeq_nx, kSeq_ret, xs_nil, xs_cons, r_setItem, kSI_lst, kSI_dct, x_setI, kAug_add, kAug_sub, kAugS_sh, x_aug, t_nm, t_tp, kTs_some, ts_nil, ts_cons, kDef_ret, kDef_nx, kDef_exc, brOnly_br, brOnly_no, brOnly_sh, brOnly_mu, lent1, lent2, lent3, lent4, lent5, ty_int_int, ty_bool_int, ty_int_bl, ty_bool_bl, ↓evAnd_one, ↓evOr_one, unwipe, wipe, bt_ok, bt_exc, bt_stuck, lift_some, liftE_some, calm_ok, b_and, b_or, b_andP, cmp_eq_i, cmp_ne_i, cmp_lt_i, cmp_le_i, cmp_gt_i, cmp_ge_i, cmp_is_non, cmp_isnot_non, cmp_is_b, cmp_isnot_b, bin_add_i, bin_sub_i, List.cons_append, List.nil_append, List.append_nil, List.replicate_succ, List.replicate_zero, Nat.reduceSub, Nat.reduceAdd, Nat.reduceLT, Nat.reduceLeDiff, Nat.zero_le, Nat.le_refl, if_true, ite_true, if_false, ite_false, ↓reduceIte, List.length_cons, List.length_nil, Option.isSome_some, ne_eq, not_true_eq_false, not_false_eq_true, eq_self, decide_true, decide_false, Bool.not_true, Bool.not_false, Bool.and_true, Bool.true_and, Bool.false_and, Bool.or_false, Bool.false_or, Bool.true_or, List.map_nil, len_lst, e, d1]
  have e := cmp_eq_enc enc_int.lst (by omega) ns []
  simp only [List.map_nil, decide_eq_false h2] at e
  have h3 : 0 < (ns.length : Int) := by cases ns with
    | nil => exact absurd rfl h2
    | cons x xs => simp
  have m0 := Int.emod_nonneg (k : Int) (show (ns.length : Int) ≠ 0 by omega)
  have m1 := Int.emod_lt_of_pos (k : Int) h3
  have f0 : (0:Int) ≤ (k : Int) / (ns.length : Int) := Int.ediv_nonneg (by omega) (by omega)
  obtain ⟨r, hr, hr0, hr1⟩ : ∃ r : Int, (if (60:Int) < (k : Int) / (ns.length : Int) then 60 else (k : Int) / (ns.length : Int)) = r ∧ 0 ≤ r ∧ r ≤ 60 := ⟨_, rfl, by split <;> omega, by split <;> omega⟩
  have lp : ∀ (m : Nat) (v : Int), ∃ v' s, forD (.nm 3) (exes (run GA n) b_Lcell_at_0) ((List.range m).map fun k => D.int (k : Nat)) [.sh (.lst (ns.map .int)), .sh (.int k), .sh (.int v), .no] = .ok .nx [.sh (.lst (ns.map .int)), .sh (.int k), .sh (.int v'), s] := by
    intro m v
    obtain ⟨ρ', e1, v', s, rfl, _⟩ := forD_nx (t := .nm 3) (b := exes (run GA n) b_Lcell_at_0) (g := fun k : Nat => D.int k) (ys := List.range m) (ρ := [.sh (.lst (ns.map .int)), .sh (.int k), .sh (.int v), .no])
      (fun d ρ => ∃ v s, ρ = [.sh (.lst (ns.map .int)), .sh (.int k), .sh (.int v), s] ∧ (s = .no ∨ ∃ x, s = .sh x)) ⟨v, .no, rfl, .inl rfl⟩ (fun d x rest ρ e ⟨v, s, e2, hv⟩ => by
        subst e2
        refine ⟨[.sh (.lst (ns.map .int)), .sh (.int k), .sh (.int v), .sh (.int (x : Nat))], ?_, [.sh (.lst (ns.map .int)), .sh (.int k), .sh (.int (v / 1000003)), .sh (.int (x : Nat))], ?_, _, _, rfl, .inr ⟨_, rfl⟩⟩
        · rcases hv with rfl | ⟨x, rfl⟩ <;> simp only [r_var, kVar_sh, kVar_mu, kVar_br, kVar_lk, r_look0, r_look1, r_set0, r_set1, cont_sh, cont_mu, cont_br, cont_lk, peek_slot, peek_sh, peek_mu, frz_slot, frz_sh, frz_mu, kFrz_sh, kFrz_mu, kO_some, r_frzR, r_cst, r_glb, r_tup, r_lst, r_dnew, kBin_some, r_bin, kRep_some, r_lrep, kNeg_i, r_neg, kB_b, r_asB, r_not, r_and, r_or, kCmpR_some, kCmp_some, r_cmp, kCh2_some, kCh_some, r_chain, r_ite, kOut_sh, kOut_mu, kOut_exc, kCall_some, r_call, lends_nil, lends_val, lends_len, lends_mov, kSl_some, kOw_some, sl_nil, sl_val, sl_mov, sl_len, r_own, kOwn_mu, kOwn_br, bk_nil, bk_val, bk_mov, kBk_some, bk_len, r_upd, kUpd_mu, kUpd_br, kLend_mu, kLend_br, arg_lend, arg_mov, kVal_some, arg_val, arg_nil, arg_cons0, arg_cons, evs_nil, evs_cons, evAnd_cons, evOr_cons, evAnd_nil, if_tt, if_ff, kBi1_some, kBi2_some, r_bi1, r_bi2, r_isi, kIsi_non, kIsi_bl, kIsi_int, kIsi_str, kIsi_tup, kIsi_lst, kIsi_wr, kIt1_some, kIdx_some, r_idx, kOI_i, oi_nil, oi_one, kSlc_some, r_slc, kRev_some, r_rev, kIts_some, kAs_some, r_asIt, items_lst, items_tup, items_wr, kRng_i, r_rng1, r_listRng, r_tupRng, kRng2_i, r_rng2, kZip_some, r_zip, kLz_some, r_listZip, kEn_lst, r_enum, kApp_lst, kIsL_lst, r_isL, r_app, kExt_lst, r_ext, kPop_lst, r_pop, kPopAt_lst, r_popAt, x_asg, kPut_no, kPut_sh, kPut_mu, r_put, st_mu, st_sh, st_slot, sts_nil, sts_cons, x_unp, x_par, evps_nil, evps_cons, settle_sh, settle_mu, settle_slot, x_ex, x_ite, x_for, x_wh, kRet_sh, kRet_mu, kRetP_slot, kRetP_sh, kRetP_mu, x_ret, x_raise, x_pass, kSeq_nx, kSeq_ret, xs_nil, xs_cons, r_setItem, kSI_lst, kSI_dct, x_setI, kAug_add, kAug_sub, kAugS_sh, x_aug, t_nm, t_tp, kTs_some, ts_nil, ts_cons, kDef_ret, kDef_nx, kDef_exc, brOnly_br, brOnly_no, brOnly_sh, brOnly_mu, lent1, lent2, lent3, lent4, lent5, ty_int_int, ty_bool_int, ty_int_bl, ty_bool_bl, ↓evAnd_one, ↓evOr_one, unwipe, wipe, bt_ok, bt_exc, bt_stuck, lift_some, liftE_some, calm_ok, b_and, b_or, b_andP, cmp_eq_i, cmp_ne_i, cmp_lt_i, cmp_le_i, cmp_gt_i, cmp_ge_i, cmp_is_non, cmp_isnot_non, cmp_is_b, cmp_isnot_b, bin_add_i, bin_sub_i, List.cons_append, List.nil_append, List.append_nil, List.replicate_succ, List.replicate_zero, Nat.reduceSub, Nat.reduceAdd, Nat.reduceLT, Nat.reduceLeDiff, Nat.zero_le, Nat.le_refl, if_true, ite_true, if_false, ite_false, ↓reduceIte, List.length_cons, List.length_nil, Option.isSome_some, ne_eq, not_true_eq_false, not_false_eq_true, eq_self, decide_true, decide_false, Bool.not_true, Bool.not_false, Bool.and_true, Bool.true_and, Bool.false_and, Bool.or_false, Bool.false_or, Bool.true_or]
        · simp only [b_Lcell_at_0, r_var, kVar_sh, kVar_mu, kVar_br, kVar_lk, r_look0, r_look1, r_set0, r_set1, cont_sh, cont_mu, cont_br, cont_lk, peek_slot, peek_sh, peek_mu, frz_slot, frz_sh, frz_mu, kFrz_sh, kFrz_mu, kO_some, r_frzR, r_cst, r_glb, r_tup, r_lst, r_dnew, kBin_some, r_bin, kRep_some, r_lrep, kNeg_i, r_neg, kB_b, r_asB, r_not, r_and, r_or, kCmpR_some, kCmp_some, r_cmp, kCh2_some, kCh_some, r_chain, r_ite, kOut_sh, kOut_mu, kOut_exc, kCall_some, r_call, lends_nil, lends_val, lends_len, lends_mov, kSl_some, kOw_some, sl_nil, sl_val, sl_mov, sl_len, r_own, kOwn_mu, kOwn_br, bk_nil, bk_val, bk_mov, kBk_some, bk_len, r_upd, kUpd_mu, kUpd_br, kLend_mu, kLend_br, arg_lend, arg_mov, kVal_some, arg_val, arg_nil, arg_cons0, arg_cons, evs_nil, evs_cons, evAnd_cons, evOr_cons, evAnd_nil, if_tt, if_ff, kBi1_some, kBi2_some, r_bi1, r_bi2, r_isi, kIsi_non, kIsi_bl, kIsi_int, kIsi_str, kIsi_tup, kIsi_lst, kIsi_wr, kIt1_some, kIdx_some, r_idx, kOI_i, oi_nil, oi_one, kSlc_some, r_slc, kRev_some, r_rev, kIts_some, kAs_some, r_asIt, items_lst, items_tup, items_wr, kRng_i, r_rng1, r_listRng, r_tupRng, kRng2_i, r_rng2, kZip_some, r_zip, kLz_some, r_listZip, kEn_lst, r_enum, kApp_lst, kIsL_lst, r_isL, r_app, kExt_lst, r_ext, kPop_lst, r_pop, kPopAt_lst, r_popAt, x_asg, kPut_no, kPut_sh, kPut_mu, r_put, st_mu, st_sh, st_slot, sts_nil, sts_cons, x_unp, x_par, evps_nil, evps_cons, settle_sh, settle_mu, settle_slot, x_ex, x_ite, x_for, x_wh, kRet_sh, kRet_mu, kRetP_slot, kRetP_sh, kRetP_mu, x_ret, x_raise, x_pass, kSeq_nx, kSeq_ret, xs_nil, xs_cons, r_setItem, kSI_lst, kSI_dct, x_setI, kAug_add, kAug_sub, kAugS_sh, x_aug, t_nm, t_tp, kTs_some, ts_nil, ts_cons, kDef_ret, kDef_nx, kDef_exc, brOnly_br, brOnly_no, brOnly_sh, brOnly_mu, lent1, lent2, lent3, lent4, lent5, ty_int_int, ty_bool_int, ty_int_bl, ty_bool_bl, ↓evAnd_one, ↓evOr_one, unwipe, wipe, bt_ok, bt_exc, bt_stuck, lift_some, liftE_some, calm_ok, b_and, b_or, b_andP, cmp_eq_i, cmp_ne_i, cmp_lt_i, cmp_le_i, cmp_gt_i, cmp_ge_i, cmp_is_non, cmp_isnot_non, cmp_is_b, cmp_isnot_b, bin_add_i, bin_sub_i, List.cons_append, List.nil_append, List.append_nil, List.replicate_succ, List.replicate_zero, Nat.reduceSub, Nat.reduceAdd, Nat.reduceLT, Nat.reduceLeDiff, Nat.zero_le, Nat.le_refl, if_true, ite_true, if_false, ite_false, ↓reduceIte, List.length_cons, List.length_nil, Option.isSome_some, ne_eq, not_true_eq_false, not_false_eq_true, eq_self, decide_true, decide_false, Bool.not_true, Bool.not_false, Bool.and_true, Bool.true_and, Bool.false_and, Bool.or_false, Bool.false_or, Bool.true_or, bin_fdiv_i (divOk_s (show (0:Int) < 1000003 by omega) (by omega))])
    exact ⟨v', s, e1⟩
  obtain ⟨v', s, lp⟩ := lp r.toNat (ns.getD ((k : Int) % (ns.length : Int)).toNat 0)
  refine ⟨ns.getD ((k : Int) % (ns.length : Int)).toNat 0 * 31 + k + v' * 101, ?_⟩
  simp only [r_var, kVar_sh, kVar_mu, kVar_br, kVar_lk, r_look0, r_look1, r_set0, r_set1, cont_sh, cont_mu, cont_br, cont_lk, peek_slot, peek_sh, peek_mu, frz_slot, frz_sh, frz_mu, kFrz_sh, kFrz_mu, kO_some, r_frzR, r_cst, r_glb, r_tup, r_lst, r_dnew, kBin_some, r_bin, kRep_some, r_lrep, kNeg_i, r_neg, kB_b, r_asB, r_not, r_and, r_or, kCmpR_some, kCmp_some, r_cmp, kCh2_some, kCh_some, r_chain, r_ite, kOut_sh, kOut_mu, kOut_exc, kCall_some, r_call, lends_nil, lends_val, lends_len, lends_mov, kSl_some, kOw_some, sl_nil, sl_val, sl_mov, sl_len, r_own, kOwn_mu, kOwn_br, bk_nil, bk_val, bk_mov, kBk_some, bk_len, r_upd, kUpd_mu, kUpd_br, kLend_mu, kLend_br, arg_lend, arg_mov, kVal_some, arg_val, arg_nil, arg_cons0, arg_cons, evs_nil, evs_cons, evAnd_cons, evOr_cons, evAnd_nil, if_tt, if_ff, kBi1_some, kBi2_some, r_bi1, r_bi2, r_isi, kIsi_non, kIsi_bl, kIsi_int, kIsi_str, kIsi_tup, kIsi_lst, kIsi_wr, kIt1_some, kIdx_some, r_idx, kOI_i, oi_nil, oi_one, kSlc_some, r_slc, kRev_some, r_rev, kIts_some, kAs_some, r_asIt, items_lst, items_tup, items_wr, kRng_i, r_rng1, r_listRng, r_tupRng, kRng2_i, r_rng2, kZip_some, r_zip, kLz_some, r_listZip, kEn_lst, r_enum, kApp_lst, kIsL_lst, r_isL, r_app, kExt_lst, r_ext, kPop_lst, r_pop, kPopAt_lst, r_popAt, x_asg, kPut_no, kPut_sh, kPut_mu, r_put, st_mu, st_sh, st_slot, sts_nil, sts_cons, x_unp, x_par, evps_nil, evps_cons, settle_sh, settle_mu, settle_slot, x_ex, x_ite, x_for, x_wh, kRet_sh, kRet_mu, kRetP_slot, kRetP_sh, kRetP_mu, x_ret, x_raise, x_pass, kSeq_nx, kSeq_ret, xs_nil, xs_cons, r_setItem, kSI_lst, kSI_dct, x_setI, kAug_add, kAug_sub, kAugS_sh, x_aug, t_nm, t_tp, kTs_some, ts_nil, ts_cons, kDef_ret, kDef_nx, kDef_exc, brOnly_br, brOnly_no, brOnly_sh, brOnly_mu, lent1, lent2, lent3, lent4, lent5, ty_int_int, ty_bool_int, ty_int_bl, ty_bool_bl, ↓evAnd_one, ↓evOr_one, unwipe, wipe, bt_ok, bt_exc, bt_stuck, lift_some, liftE_some, calm_ok, b_and, b_or, b_andP, cmp_eq_i, cmp_ne_i, cmp_lt_i, cmp_le_i, cmp_gt_i, cmp_ge_i, cmp_is_non, cmp_isnot_non, cmp_is_b, cmp_isnot_b, bin_add_i, bin_sub_i, List.cons_append, List.nil_append, List.append_nil, List.replicate_succ, List.replicate_zero, Nat.reduceSub, Nat.reduceAdd, Nat.reduceLT, Nat.reduceLeDiff, Nat.zero_le, Nat.le_refl, if_true, ite_true, if_false, ite_false, ↓reduceIte, List.length_cons, List.length_nil, Option.isSome_some, ne_eq, not_true_eq_false, not_false_eq_true, eq_self, decide_true, decide_false, Bool.not_true, Bool.not_false, Bool.and_true, Bool.true_and, Bool.false_and, Bool.or_false, Bool.false_or, Bool.true_or, len_li, d1, e, bin_mod_i h3, item_li m0 m1, bin_fdiv_i (divOk_s h3 (show (ns.length : Int) < 2 ^ 64 by omega)), min2_i, hr, rng1_i (show -(lim : Int) ≤ r by rw [lim_eq]; omega) (show r ≤ lim by rw [lim_eq]; omega), lp,
    bin_mul_i (mulOk_r (show (31 : Int).natAbs < 2 ^ 64 by decide)), bin_mul_i (mulOk_r (show (101 : Int).natAbs < 2 ^ 64 by decide))]
theorem mixed_sp {n : Nat} (hn : 2 ≤ n) (ns : List Int) (hs : ns.length ≤ 63) (k : Nat) (hk : k ≤ 100000) (b : Int) (hb : 0 < b) : ∃ v, run GA n i_Lmixed [.sh (.lst (ns.map .int)), .sh (.int k), .sh (.int b)] = .ret (.sh (.int v)) [.no, .no, .no] ∧ 0 ≤ v ∧ v < b := by
  obtain ⟨n, rfl⟩ : ∃ m, n = m + 1 := ⟨n - 1, by omega⟩
  obtain ⟨c, hc⟩ := cell_sp (show 1 ≤ n by omega) ns hs k hk
  rw [run_def rfl rfl]
  have p0 : ∀ z : Int, 0 ≤ z % 2147483647 ∧ z % 2147483647 < 2147483647 := fun z => ⟨Int.emod_nonneg _ (by omega), Int.emod_lt_of_pos _ (by omega)⟩
  have pw : powOk ((c * 1103515245 + 7919 * (k : Int) + 12345) % 2147483647) 5 = true := by
    have := p0 (c * 1103515245 + 7919 * (k : Int) + 12345)
    unfold powOk
    have h : ((c * 1103515245 + 7919 * (k : Int) + 12345) % 2147483647).natAbs < 2 ^ 64 := by omega
    simp [h]
  refine ⟨((c * 1103515245 + 7919 * (k : Int) + 12345) % 2147483647) ^ (5 : Int).toNat % 2147483647 % 999983 % b, ?_, Int.emod_nonneg _ (by omega), Int.emod_lt_of_pos _ hb⟩
  simp only [r_var, kVar_sh, kVar_mu, kVar_br, kVar_lk, r_look0, r_look1, r_set0, r_set1, cont_sh, cont_mu, cont_br, cont_lk, peek_slot, peek_sh, peek_mu, frz_slot, frz_sh, frz_mu, kFrz_sh, kFrz_mu, kO_some, r_frzR, r_cst, r_glb, r_tup, r_lst, r_dnew, kBin_some, r_bin, kRep_some, r_lrep, kNeg_i, r_neg, kB_b, r_asB, r_not, r_and, r_or, kCmpR_some, kCmp_some, r_cmp, kCh2_some, kCh_some, r_chain, r_ite, kOut_sh, kOut_mu, kOut_exc, kCall_some, r_call, lends_nil, lends_val, lends_len, lends_mov, kSl_some, kOw_some, sl_nil, sl_val, sl_mov, sl_len, r_own, kOwn_mu, kOwn_br, bk_nil, bk_val, bk_mov, kBk_some, bk_len, r_upd, kUpd_mu, kUpd_br, kLend_mu, kLend_br, arg_lend, arg_mov, kVal_some, arg_val, arg_nil, arg_cons0, arg_cons, evs_nil, evs_cons, evAnd_cons, evOr_cons, evAnd_nil, if_tt, if_ff, kBi1_some, kBi2_some, r_bi1, r_bi2, r_isi, kIsi_non, kIsi_bl, kIsi_int, kIsi_str, kIsi_tup, kIsi_lst, kIsi_wr, kIt1_some, kIdx_some, r_idx, kOI_i, oi_nil, oi_one, kSlc_some, r_slc, kRev_some, r_rev, kIts_some, kAs_some, r_asIt, items_lst, items_tup, items_wr, kRng_i, r_rng1, r_listRng, r_tupRng, kRng2_i, r_rng2, kZip_some, r_zip, kLz_some, r_listZip, kEn_lst, r_enum, kApp_lst, kIsL_lst, r_isL, r_app, kExt_lst, r_ext, kPop_lst, r_pop, kPopAt_lst, r_popAt, x_asg, kPut_no, kPut_sh, kPut_mu, r_put, st_mu, st_sh, st_slot, sts_nil, sts_cons, x_unp, x_par, evps_nil, evps_cons, settle_sh, settle_mu, settle_slot, x_ex, x_ite, x_for, x_wh, kRet_sh, kRet_mu, kRetP_slot, kRetP_sh, kRetP_mu, x_ret, x_raise, x_pass, kSeq_nx, kSeq_ret, xs_nil, xs_cons, r_setItem, kSI_lst, kSI_dct, x_setI, kAug_add, kAug_sub, kAugS_sh, x_aug, t_nm, t_tp, kTs_some, ts_nil, ts_cons, kDef_ret, kDef_nx, kDef_exc, brOnly_br, brOnly_no, brOnly_sh, brOnly_mu, lent1, lent2, lent3, lent4, lent5, ty_int_int, ty_bool_int, ty_int_bl, ty_bool_bl, ↓evAnd_one, ↓evOr_one, unwipe, wipe, bt_ok, bt_exc, bt_stuck, lift_some, liftE_some, calm_ok, b_and, b_or, b_andP, cmp_eq_i, cmp_ne_i, cmp_lt_i, cmp_le_i, cmp_gt_i, cmp_ge_i, cmp_is_non, cmp_isnot_non, cmp_is_b, cmp_isnot_b, bin_add_i, bin_sub_i, List.cons_append, List.nil_append, List.append_nil, List.replicate_succ, List.replicate_zero, Nat.reduceSub, Nat.reduceAdd, Nat.reduceLT, Nat.reduceLeDiff, Nat.zero_le, Nat.le_refl, if_true, ite_true, if_false, ite_false, ↓reduceIte, List.length_cons, List.length_nil, Option.isSome_some, ne_eq, not_true_eq_false, not_false_eq_true, eq_self, decide_true, decide_false, Bool.not_true, Bool.not_false, Bool.and_true, Bool.true_and, Bool.false_and, Bool.or_false, Bool.false_or, Bool.true_or, hc, bin_mul_i (mulOk_r (show (1103515245 : Int).natAbs < 2 ^ 64 by decide)), bin_mul_i (mulOk_l (show (7919 : Int).natAbs < 2 ^ 64 by decide)), bin_mod_i (show (0:Int) < 2147483647 by omega), bin_mod_i (show (0:Int) < 999983 by omega), bin_mod_i hb, bin_pow_i pw]
/-- the script, the town -/
abbrev sS (ns : List Int) : Slot := .sh (.lst (ns.map .int))
theorem draw_sp {n : Nat} (hn : 3 ≤ n) (ns : List Int) (hs : ns.length ≤ 63) (t : List D) (ht : t.length < 99999) (b : Int) (hb : 0 < b) : ∃ v, run GA n i_Ldraw [sS ns, .br (.lst t), .sh (.int b)] = .ret (.sh (.int v)) [.no, .br (.lst (t ++ [.int 0])), .no] ∧ 0 ≤ v ∧ v < b := by
  obtain ⟨n, rfl⟩ : ∃ m, n = m + 1 := ⟨n - 1, by omega⟩
  obtain ⟨v, hv, h0, h1⟩ := mixed_sp (show 2 ≤ n by omega) ns hs (t.length + 1) (by omega) b hb
  rw [run_def rfl rfl]
  refine ⟨v, ?_, h0, h1⟩
  have e : bi1 .len (.lst (t ++ [.int 0])) = some (.sh (.int ((t.length + 1 : Nat) : Int))) := by simp [bi1]
  simp only [r_var, kVar_sh, kVar_mu, kVar_br, kVar_lk, r_look0, r_look1, r_set0, r_set1, cont_sh, cont_mu, cont_br, cont_lk, peek_slot, peek_sh, peek_mu, frz_slot, frz_sh, frz_mu, kFrz_sh, kFrz_mu, kO_some, r_frzR, r_cst, r_glb, r_tup, r_lst, r_dnew, kBin_some, r_bin, kRep_some, r_lrep, kNeg_i, r_neg, kB_b, r_asB, r_not, r_and, r_or, kCmpR_some, kCmp_some, r_cmp, kCh2_some, kCh_some, r_chain, r_ite, kOut_sh, kOut_mu, kOut_exc, kCall_some, r_call, lends_nil, lends_val, lends_len, lends_mov, kSl_some, kOw_some, sl_nil, sl_val, sl_mov, sl_len, r_own, kOwn_mu, kOwn_br, bk_nil, bk_val, bk_mov, kBk_some, bk_len, r_upd, kUpd_mu, kUpd_br, kLend_mu, kLend_br, arg_lend, arg_mov, kVal_some, arg_val, arg_nil, arg_cons0, arg_cons, evs_nil, evs_cons, evAnd_cons, evOr_cons, evAnd_nil, if_tt, if_ff, kBi1_some, kBi2_some, r_bi1, r_bi2, r_isi, kIsi_non, kIsi_bl, kIsi_int, kIsi_str, kIsi_tup, kIsi_lst, kIsi_wr, kIt1_some, kIdx_some, r_idx, kOI_i, oi_nil, oi_one, kSlc_some, r_slc, kRev_some, r_rev, kIts_some, kAs_some, r_asIt, items_lst, items_tup, items_wr, kRng_i, r_rng1, r_listRng, r_tupRng, kRng2_i, r_rng2, kZip_some, r_zip, kLz_some, r_listZip, kEn_lst, r_enum, kApp_lst, kIsL_lst, r_isL, r_app, kExt_lst, r_ext, kPop_lst, r_pop, kPopAt_lst, r_popAt, x_asg, kPut_no, kPut_sh, kPut_mu, r_put, st_mu, st_sh, st_slot, sts_nil, sts_cons, x_unp, x_par, evps_nil, evps_cons, settle_sh, settle_mu, settle_slot, x_ex, x_ite, x_for, x_wh, kRet_sh, kRet_mu, kRetP_slot, kRetP_sh, kRetP_mu, x_ret, x_raise, x_pass, kSeq_nx, kSeq_ret, xs_nil, xs_cons, r_setItem, kSI_lst, kSI_dct, x_setI, kAug_add, kAug_sub, kAugS_sh, x_aug, t_nm, t_tp, kTs_some, ts_nil, ts_cons, kDef_ret, kDef_nx, kDef_exc, brOnly_br, brOnly_no, brOnly_sh, brOnly_mu, lent1, lent2, lent3, lent4, lent5, ty_int_int, ty_bool_int, ty_int_bl, ty_bool_bl, ↓evAnd_one, ↓evOr_one, unwipe, wipe, bt_ok, bt_exc, bt_stuck, lift_some, liftE_some, calm_ok, b_and, b_or, b_andP, cmp_eq_i, cmp_ne_i, cmp_lt_i, cmp_le_i, cmp_gt_i, cmp_ge_i, cmp_is_non, cmp_isnot_non, cmp_is_b, cmp_isnot_b, bin_add_i, bin_sub_i, List.cons_append, List.nil_append, List.append_nil, List.replicate_succ, List.replicate_zero, Nat.reduceSub, Nat.reduceAdd, Nat.reduceLT, Nat.reduceLeDiff, Nat.zero_le, Nat.le_refl, if_true, ite_true, if_false, ite_false, ↓reduceIte, List.length_cons, List.length_nil, Option.isSome_some, ne_eq, not_true_eq_false, not_false_eq_true, eq_self, decide_true, decide_false, Bool.not_true, Bool.not_false, Bool.and_true, Bool.true_and, Bool.false_and, Bool.or_false, Bool.false_or, Bool.true_or, kApp_lst (show t.length < lim by rw [lim_eq]; omega), e, hv]
end SL

/-! ## P5 -/
set_option maxRecDepth 100000
set_option linter.all false
set_option autoImplicit false
namespace SL
theorem erase_map {α β : Type} (f : α → β) : ∀ (l : List α) (k : Nat), (l.map f).eraseIdx k = (l.eraseIdx k).map f
  | [], _ => rfl
  | _ :: _, 0 => rfl
  | x :: l, k + 1 => by simp [erase_map f l k]
theorem erase_perm {α : Type} : ∀ (l : List α) (k : Nat) (h : k < l.length), (l[k] :: l.eraseIdx k).Perm l
  | x :: l, 0, _ => by simp
  | x :: l, k + 1, h => by
    simp only [List.getElem_cons_succ, List.eraseIdx_cons_succ]
    exact (List.Perm.swap _ _ _).trans ((erase_perm l k (by simpa using h)).cons x)
theorem nat_of {v : Int} {m : Nat} (h0 : 0 ≤ v) (h1 : v < m) : ∃ k : Nat, v = k ∧ k < m := ⟨v.toNat, by omega, by omega⟩
theorem order_of_sp {n : Nat} (hn : 4 ≤ n) (ns : List Int) (hs : ns.length ≤ 63) (t : List D) (m : Nat) (hm : m ≤ 1000) (ht : t.length + m < 99999) :
    ∃ o t', run GA n i_Lorder_of [sS ns, .br (.lst t), .sh (.int m)] = .ret (.sh (tN o)) [.no, .br (.lst t'), .no] ∧ o.Perm (List.range m) ∧ t'.length = t.length + m := by
  obtain ⟨n, rfl⟩ : ∃ m, n = m + 1 := ⟨n - 1, by omega⟩
  obtain ⟨ρ', e1, o, t', rfl, hp, ht'⟩ := whileC_nx (Φ := run GA n) (c := .cmp .ne (.var 3) (.lst [])) (b := b_Lorder_of_0) (ρ := [sS ns, .br (.lst t), .sh (.int m), .mu (.lst ((List.range m).map (fun k : Nat => D.int k))), .mu (.lst [])])
    (fun ρ => ∃ (left made : List Nat) (t' : List D), ρ = [sS ns, .br (.lst t'), .sh (.int m), .mu (.lst (left.map (fun k : Nat => D.int k))), .mu (.lst (made.map (fun k : Nat => D.int k)))] ∧ (made ++ left).Perm (List.range m) ∧ t'.length + left.length = t.length + m)
    (fun ρ => ∃ (o : List Nat) (t' : List D), ρ = [sS ns, .br (.lst t'), .sh (.int m), .mu (.lst []), .mu (.lst (o.map (fun k : Nat => D.int k)))] ∧ o.Perm (List.range m) ∧ t'.length = t.length + m)
    (fun ρ => match look ρ 3 with | .mu (.lst l) => l.length | _ => 0)
    ⟨List.range m, [], t, rfl, .refl _, by simp⟩ (by simp only [r_look0, r_look1, List.length_map, List.length_range]; omega) (fun ρ ⟨left, made, t', e, hp, hl⟩ => by
      subst e
      have hlen := hp.length_eq
      simp only [List.length_append, List.length_range] at hlen
      have ec : cmpop .ne (.lst (left.map (fun k : Nat => D.int k))) (.lst []) = some (decide (left ≠ [])) := cmp_ne_enc enc_nat.lst (by omega) left []
      by_cases hl0 : left = []
      · subst hl0
        refine .inl ⟨_, ?_, made, t', rfl, by simpa using hp, by simpa using hl⟩
        simp only [List.map_nil] at ec ⊢
        simp only [r_var, kVar_sh, kVar_mu, kVar_br, kVar_lk, r_look0, r_look1, r_set0, r_set1, cont_sh, cont_mu, cont_br, cont_lk, peek_slot, peek_sh, peek_mu, frz_slot, frz_sh, frz_mu, kFrz_sh, kFrz_mu, kO_some, r_frzR, r_cst, r_glb, r_tup, r_lst, r_dnew, kBin_some, r_bin, kRep_some, r_lrep, kNeg_i, r_neg, kB_b, r_asB, r_not, r_and, r_or, kCmpR_some, kCmp_some, r_cmp, kCh2_some, kCh_some, r_chain, r_ite, kOut_sh, kOut_mu, kOut_exc, kCall_some, r_call, lends_nil, lends_val, lends_len, lends_mov, kSl_some, kOw_some, sl_nil, sl_val, sl_mov, sl_len, r_own, kOwn_mu, kOwn_br, bk_nil, bk_val, bk_mov, kBk_some, bk_len, r_upd, kUpd_mu, kUpd_br, kLend_mu, kLend_br, arg_lend, arg_mov, kVal_some, arg_val, arg_nil, arg_cons0, arg_cons, evs_nil, evs_cons, evAnd_cons, evOr_cons, evAnd_nil, if_tt, if_ff, kBi1_some, kBi2_some, r_bi1, r_bi2, r_isi, kIsi_non, kIsi_bl, kIsi_int, kIsi_str, kIsi_tup, kIsi_lst, kIsi_wr, kIt1_some, kIdx_some, r_idx, kOI_i, oi_nil, oi_one, kSlc_some, r_slc, kRev_some, r_rev, kIts_some, kAs_some, r_asIt, items_lst, items_tup, items_wr, kRng_i, r_rng1, r_listRng, r_tupRng, kRng2_i, r_rng2, kZip_some, r_zip, kLz_some, r_listZip, kEn_lst, r_enum, kApp_lst, kIsL_lst, r_isL, r_app, kExt_lst, r_ext, kPop_lst, r_pop, kPopAt_lst, r_popAt, x_asg, kPut_no, kPut_sh, kPut_mu, r_put, st_mu, st_sh, st_slot, sts_nil, sts_cons, x_unp, x_par, evps_nil, evps_cons, settle_sh, settle_mu, settle_slot, x_ex, x_ite, x_for, x_wh, kRet_sh, kRet_mu, kRetP_slot, kRetP_sh, kRetP_mu, x_ret, x_raise, x_pass, kSeq_nx, kSeq_ret, xs_nil, xs_cons, r_setItem, kSI_lst, kSI_dct, x_setI, kAug_add, kAug_sub, kAugS_sh, x_aug, t_nm, t_tp, kTs_some, ts_nil, ts_cons, kDef_ret, kDef_nx, kDef_exc, brOnly_br, brOnly_no, brOnly_sh, brOnly_mu, lent1, lent2, lent3, lent4, lent5, ty_int_int, ty_bool_int, ty_int_bl, ty_bool_bl, ↓evAnd_one, ↓evOr_one, unwipe, wipe, bt_ok, bt_exc, bt_stuck, lift_some, liftE_some, calm_ok, b_and, b_or, b_andP, cmp_eq_i, cmp_ne_i, cmp_lt_i, cmp_le_i, cmp_gt_i, cmp_ge_i, cmp_is_non, cmp_isnot_non, cmp_is_b, cmp_isnot_b, bin_add_i, bin_sub_i, List.cons_append, List.nil_append, List.append_nil, List.replicate_succ, List.replicate_zero, Nat.reduceSub, Nat.reduceAdd, Nat.reduceLT, Nat.reduceLeDiff, Nat.zero_le, Nat.le_refl, if_true, ite_true, if_false, ite_false, ↓reduceIte, List.length_cons, List.length_nil, Option.isSome_some, ne_eq, not_true_eq_false, not_false_eq_true, eq_self, decide_true, decide_false, Bool.not_true, Bool.not_false, Bool.and_true, Bool.true_and, Bool.false_and, Bool.or_false, Bool.false_or, Bool.true_or, ec]
      · have hpos : 0 < left.length := List.length_pos_iff.mpr hl0
        obtain ⟨v, hv, h0, h1⟩ := draw_sp (show 3 ≤ n by omega) ns hs t' (by omega) (left.length : Nat) (by omega)
        obtain ⟨k, rfl, hk⟩ := nat_of h0 h1
        refine .inr ⟨_, by simp only [r_var, kVar_sh, kVar_mu, kVar_br, kVar_lk, r_look0, r_look1, r_set0, r_set1, cont_sh, cont_mu, cont_br, cont_lk, peek_slot, peek_sh, peek_mu, frz_slot, frz_sh, frz_mu, kFrz_sh, kFrz_mu, kO_some, r_frzR, r_cst, r_glb, r_tup, r_lst, r_dnew, kBin_some, r_bin, kRep_some, r_lrep, kNeg_i, r_neg, kB_b, r_asB, r_not, r_and, r_or, kCmpR_some, kCmp_some, r_cmp, kCh2_some, kCh_some, r_chain, r_ite, kOut_sh, kOut_mu, kOut_exc, kCall_some, r_call, lends_nil, lends_val, lends_len, lends_mov, kSl_some, kOw_some, sl_nil, sl_val, sl_mov, sl_len, r_own, kOwn_mu, kOwn_br, bk_nil, bk_val, bk_mov, kBk_some, bk_len, r_upd, kUpd_mu, kUpd_br, kLend_mu, kLend_br, arg_lend, arg_mov, kVal_some, arg_val, arg_nil, arg_cons0, arg_cons, evs_nil, evs_cons, evAnd_cons, evOr_cons, evAnd_nil, if_tt, if_ff, kBi1_some, kBi2_some, r_bi1, r_bi2, r_isi, kIsi_non, kIsi_bl, kIsi_int, kIsi_str, kIsi_tup, kIsi_lst, kIsi_wr, kIt1_some, kIdx_some, r_idx, kOI_i, oi_nil, oi_one, kSlc_some, r_slc, kRev_some, r_rev, kIts_some, kAs_some, r_asIt, items_lst, items_tup, items_wr, kRng_i, r_rng1, r_listRng, r_tupRng, kRng2_i, r_rng2, kZip_some, r_zip, kLz_some, r_listZip, kEn_lst, r_enum, kApp_lst, kIsL_lst, r_isL, r_app, kExt_lst, r_ext, kPop_lst, r_pop, kPopAt_lst, r_popAt, x_asg, kPut_no, kPut_sh, kPut_mu, r_put, st_mu, st_sh, st_slot, sts_nil, sts_cons, x_unp, x_par, evps_nil, evps_cons, settle_sh, settle_mu, settle_slot, x_ex, x_ite, x_for, x_wh, kRet_sh, kRet_mu, kRetP_slot, kRetP_sh, kRetP_mu, x_ret, x_raise, x_pass, kSeq_nx, kSeq_ret, xs_nil, xs_cons, r_setItem, kSI_lst, kSI_dct, x_setI, kAug_add, kAug_sub, kAugS_sh, x_aug, t_nm, t_tp, kTs_some, ts_nil, ts_cons, kDef_ret, kDef_nx, kDef_exc, brOnly_br, brOnly_no, brOnly_sh, brOnly_mu, lent1, lent2, lent3, lent4, lent5, ty_int_int, ty_bool_int, ty_int_bl, ty_bool_bl, ↓evAnd_one, ↓evOr_one, unwipe, wipe, bt_ok, bt_exc, bt_stuck, lift_some, liftE_some, calm_ok, b_and, b_or, b_andP, cmp_eq_i, cmp_ne_i, cmp_lt_i, cmp_le_i, cmp_gt_i, cmp_ge_i, cmp_is_non, cmp_isnot_non, cmp_is_b, cmp_isnot_b, bin_add_i, bin_sub_i, List.cons_append, List.nil_append, List.append_nil, List.replicate_succ, List.replicate_zero, Nat.reduceSub, Nat.reduceAdd, Nat.reduceLT, Nat.reduceLeDiff, Nat.zero_le, Nat.le_refl, if_true, ite_true, if_false, ite_false, ↓reduceIte, List.length_cons, List.length_nil, Option.isSome_some, ne_eq, not_true_eq_false, not_false_eq_true, eq_self, decide_true, decide_false, Bool.not_true, Bool.not_false, Bool.and_true, Bool.true_and, Bool.false_and, Bool.or_false, Bool.false_or, Bool.true_or, ec, decide_eq_true hl0]; rfl, [sS ns, .br (.lst (t' ++ [.int 0])), .sh (.int m), .mu (.lst ((left.eraseIdx k).map (fun k : Nat => D.int k))), .mu (.lst ((made ++ [left[k]]).map (fun k : Nat => D.int k)))], ?_, ⟨left.eraseIdx k, made ++ [left[k]], t' ++ [.int 0], rfl, ?_, ?_⟩, ?_⟩
        · have el : bi1 .len (.lst (left.map (fun k : Nat => D.int k))) = some (.sh (.int (left.length : Nat))) := by simp [bi1]
          have hk2 : k < (left.map (fun k : Nat => D.int k)).length := by simpa using hk
          simp only [b_Lorder_of_0, r_var, kVar_sh, kVar_mu, kVar_br, kVar_lk, r_look0, r_look1, r_set0, r_set1, cont_sh, cont_mu, cont_br, cont_lk, peek_slot, peek_sh, peek_mu, frz_slot, frz_sh, frz_mu, kFrz_sh, kFrz_mu, kO_some, r_frzR, r_cst, r_glb, r_tup, r_lst, r_dnew, kBin_some, r_bin, kRep_some, r_lrep, kNeg_i, r_neg, kB_b, r_asB, r_not, r_and, r_or, kCmpR_some, kCmp_some, r_cmp, kCh2_some, kCh_some, r_chain, r_ite, kOut_sh, kOut_mu, kOut_exc, kCall_some, r_call, lends_nil, lends_val, lends_len, lends_mov, kSl_some, kOw_some, sl_nil, sl_val, sl_mov, sl_len, r_own, kOwn_mu, kOwn_br, bk_nil, bk_val, bk_mov, kBk_some, bk_len, r_upd, kUpd_mu, kUpd_br, kLend_mu, kLend_br, arg_lend, arg_mov, kVal_some, arg_val, arg_nil, arg_cons0, arg_cons, evs_nil, evs_cons, evAnd_cons, evOr_cons, evAnd_nil, if_tt, if_ff, kBi1_some, kBi2_some, r_bi1, r_bi2, r_isi, kIsi_non, kIsi_bl, kIsi_int, kIsi_str, kIsi_tup, kIsi_lst, kIsi_wr, kIt1_some, kIdx_some, r_idx, kOI_i, oi_nil, oi_one, kSlc_some, r_slc, kRev_some, r_rev, kIts_some, kAs_some, r_asIt, items_lst, items_tup, items_wr, kRng_i, r_rng1, r_listRng, r_tupRng, kRng2_i, r_rng2, kZip_some, r_zip, kLz_some, r_listZip, kEn_lst, r_enum, kApp_lst, kIsL_lst, r_isL, r_app, kExt_lst, r_ext, kPop_lst, r_pop, kPopAt_lst, r_popAt, x_asg, kPut_no, kPut_sh, kPut_mu, r_put, st_mu, st_sh, st_slot, sts_nil, sts_cons, x_unp, x_par, evps_nil, evps_cons, settle_sh, settle_mu, settle_slot, x_ex, x_ite, x_for, x_wh, kRet_sh, kRet_mu, kRetP_slot, kRetP_sh, kRetP_mu, x_ret, x_raise, x_pass, kSeq_nx, kSeq_ret, xs_nil, xs_cons, r_setItem, kSI_lst, kSI_dct, x_setI, kAug_add, kAug_sub, kAugS_sh, x_aug, t_nm, t_tp, kTs_some, ts_nil, ts_cons, kDef_ret, kDef_nx, kDef_exc, brOnly_br, brOnly_no, brOnly_sh, brOnly_mu, lent1, lent2, lent3, lent4, lent5, ty_int_int, ty_bool_int, ty_int_bl, ty_bool_bl, ↓evAnd_one, ↓evOr_one, unwipe, wipe, bt_ok, bt_exc, bt_stuck, lift_some, liftE_some, calm_ok, b_and, b_or, b_andP, cmp_eq_i, cmp_ne_i, cmp_lt_i, cmp_le_i, cmp_gt_i, cmp_ge_i, cmp_is_non, cmp_isnot_non, cmp_is_b, cmp_isnot_b, bin_add_i, bin_sub_i, List.cons_append, List.nil_append, List.append_nil, List.replicate_succ, List.replicate_zero, Nat.reduceSub, Nat.reduceAdd, Nat.reduceLT, Nat.reduceLeDiff, Nat.zero_le, Nat.le_refl, if_true, ite_true, if_false, ite_false, ↓reduceIte, List.length_cons, List.length_nil, Option.isSome_some, ne_eq, not_true_eq_false, not_false_eq_true, eq_self, decide_true, decide_false, Bool.not_true, Bool.not_false, Bool.and_true, Bool.true_and, Bool.false_and, Bool.or_false, Bool.false_or, Bool.true_or, el, hv, kPopAt_lst (i := 3) (ρ := [sS ns, .br (.lst (t' ++ [.int 0])), .sh (.int m), .mu (.lst (left.map (fun k : Nat => D.int k))), .mu (.lst (made.map (fun k : Nat => D.int k)))]) hk2 (by rw [lim_eq, List.length_map]; omega), kApp_lst (show (made.map (fun k : Nat => D.int k)).length < lim by rw [lim_eq, List.length_map]; omega)]
          simp [erase_map]
        · rw [List.append_assoc]
          refine List.Perm.trans (List.Perm.append_left _ ?_) hp
          rw [List.singleton_append]
          exact erase_perm left k hk
        · rw [List.length_append, List.length_eraseIdx_of_lt hk]; simp; omega
        · simp only [r_look0, r_look1, List.length_map]; rw [List.length_eraseIdx_of_lt hk]; omega)
  refine ⟨o, t', ?_, hp, ht'⟩
  rw [run_def rfl rfl]
  have e2 : bi1 .tuple (.lst (o.map (fun k : Nat => D.int k))) = some (.sh (tN o)) := rfl
  simp only [r_var, kVar_sh, kVar_mu, kVar_br, kVar_lk, r_look0, r_look1, r_set0, r_set1, cont_sh, cont_mu, cont_br, cont_lk, peek_slot, peek_sh, peek_mu, frz_slot, frz_sh, frz_mu, kFrz_sh, kFrz_mu, kO_some, r_frzR, r_cst, r_glb, r_tup, r_lst, r_dnew, kBin_some, r_bin, kRep_some, r_lrep, kNeg_i, r_neg, kB_b, r_asB, r_not, r_and, r_or, kCmpR_some, kCmp_some, r_cmp, kCh2_some, kCh_some, r_chain, r_ite, kOut_sh, kOut_mu, kOut_exc, kCall_some, r_call, lends_nil, lends_val, lends_len, lends_mov, kSl_some, kOw_some, sl_nil, sl_val, sl_mov, sl_len, r_own, kOwn_mu, kOwn_br, bk_nil, bk_val, bk_mov, kBk_some, bk_len, r_upd, kUpd_mu, kUpd_br, kLend_mu, kLend_br, arg_lend, arg_mov, kVal_some, arg_val, arg_nil, arg_cons0, arg_cons, evs_nil, evs_cons, evAnd_cons, evOr_cons, evAnd_nil, if_tt, if_ff, kBi1_some, kBi2_some, r_bi1, r_bi2, r_isi, kIsi_non, kIsi_bl, kIsi_int, kIsi_str, kIsi_tup, kIsi_lst, kIsi_wr, kIt1_some, kIdx_some, r_idx, kOI_i, oi_nil, oi_one, kSlc_some, r_slc, kRev_some, r_rev, kIts_some, kAs_some, r_asIt, items_lst, items_tup, items_wr, kRng_i, r_rng1, r_listRng, r_tupRng, kRng2_i, r_rng2, kZip_some, r_zip, kLz_some, r_listZip, kEn_lst, r_enum, kApp_lst, kIsL_lst, r_isL, r_app, kExt_lst, r_ext, kPop_lst, r_pop, kPopAt_lst, r_popAt, x_asg, kPut_no, kPut_sh, kPut_mu, r_put, st_mu, st_sh, st_slot, sts_nil, sts_cons, x_unp, x_par, evps_nil, evps_cons, settle_sh, settle_mu, settle_slot, x_ex, x_ite, x_for, x_wh, kRet_sh, kRet_mu, kRetP_slot, kRetP_sh, kRetP_mu, x_ret, x_raise, x_pass, kSeq_nx, kSeq_ret, xs_nil, xs_cons, r_setItem, kSI_lst, kSI_dct, x_setI, kAug_add, kAug_sub, kAugS_sh, x_aug, t_nm, t_tp, kTs_some, ts_nil, ts_cons, kDef_ret, kDef_nx, kDef_exc, brOnly_br, brOnly_no, brOnly_sh, brOnly_mu, lent1, lent2, lent3, lent4, lent5, ty_int_int, ty_bool_int, ty_int_bl, ty_bool_bl, ↓evAnd_one, ↓evOr_one, unwipe, wipe, bt_ok, bt_exc, bt_stuck, lift_some, liftE_some, calm_ok, b_and, b_or, b_andP, cmp_eq_i, cmp_ne_i, cmp_lt_i, cmp_le_i, cmp_gt_i, cmp_ge_i, cmp_is_non, cmp_isnot_non, cmp_is_b, cmp_isnot_b, bin_add_i, bin_sub_i, List.cons_append, List.nil_append, List.append_nil, List.replicate_succ, List.replicate_zero, Nat.reduceSub, Nat.reduceAdd, Nat.reduceLT, Nat.reduceLeDiff, Nat.zero_le, Nat.le_refl, if_true, ite_true, if_false, ite_false, ↓reduceIte, List.length_cons, List.length_nil, Option.isSome_some, ne_eq, not_true_eq_false, not_false_eq_true, eq_self, decide_true, decide_false, Bool.not_true, Bool.not_false, Bool.and_true, Bool.true_and, Bool.false_and, Bool.or_false, Bool.false_or, Bool.true_or, lrng_i (n := (m : Nat)) (show -(lim : Int) ≤ (m : Int) by rw [lim_eq]; omega) (show (m : Int) ≤ lim by rw [lim_eq]; omega), Int.toNat_natCast, e1, e2]
end SL

/-! ## P6 -/
set_option maxRecDepth 100000
set_option linter.all false
set_option autoImplicit false
namespace SL
/-! slices -/
section
variable {α β : Type}
end
theorem isL_lT (L : List (List Int)) : kIsL (some (lT L)) = true := rfl
theorem kApp_lT {p : List Int} {L : List (List Int)} {ρ : Env} {i : Nat} (h : L.length < lim) : kApp (tI p) (some (lT L)) ρ i = (liftE (upd ρ i (lT (L ++ [p])))).bt fun _ ρ2 => .ok (.sh .non) ρ2 := by
  have : lT (L ++ [p]) = .lst (L.map tI ++ [tI p]) := by simp [lT]
  rw [this]; exact kApp_lst (by simpa using h)
/-- loads as the laws draw them -/
structure Drawn (w m : Nat) (L : List (List Int)) : Prop where
  loads : Loads w L
  few : L.length ≤ m
  small : ∀ p ∈ L, ∀ x ∈ p, -60 ≤ x ∧ x ≤ 60
end SL

/-! ## P7 -/
set_option maxRecDepth 100000
set_option linter.all false
set_option autoImplicit false
namespace SL
/-! totals, way by way -/
theorem zeros_get (w j : Nat) : (zeros w).getD j 0 = 0 := by
  simp [zeros, List.getD_eq_getElem?_getD, List.getElem?_replicate]; split <;> rfl
def way (j : Nat) (p : List Int) : Int := p.getD j 0
end SL

/-! ## P8 -/
set_option maxRecDepth 100000
set_option linter.all false
set_option autoImplicit false
namespace SL
end SL

/-! ## P9 -/
set_option maxRecDepth 100000
set_option linter.all false
set_option autoImplicit false
namespace SL
/-! the least and the greatest of rows -/
theorem same_number_sp {n : Nat} (hn : 1 ≤ n) (a b : Int) : run GA n i_Lsame_number [.sh (.int a), .sh (.int b)] = .ret (.sh (.bl (decide (a = b)))) [.no, .no] := by
  obtain ⟨n, rfl⟩ : ∃ m, n = m + 1 := ⟨n - 1, by omega⟩
  rw [run_def rfl rfl]
  simp only [r_var, kVar_sh, kVar_mu, kVar_br, kVar_lk, r_look0, r_look1, r_set0, r_set1, cont_sh, cont_mu, cont_br, cont_lk, peek_slot, peek_sh, peek_mu, frz_slot, frz_sh, frz_mu, kFrz_sh, kFrz_mu, kO_some, r_frzR, r_cst, r_glb, r_tup, r_lst, r_dnew, kBin_some, r_bin, kRep_some, r_lrep, kNeg_i, r_neg, kB_b, r_asB, r_not, r_and, r_or, kCmpR_some, kCmp_some, r_cmp, kCh2_some, kCh_some, r_chain, r_ite, kOut_sh, kOut_mu, kOut_exc, kCall_some, r_call, lends_nil, lends_val, lends_len, lends_mov, kSl_some, kOw_some, sl_nil, sl_val, sl_mov, sl_len, r_own, kOwn_mu, kOwn_br, bk_nil, bk_val, bk_mov, kBk_some, bk_len, r_upd, kUpd_mu, kUpd_br, kLend_mu, kLend_br, arg_lend, arg_mov, kVal_some, arg_val, arg_nil, arg_cons0, arg_cons, evs_nil, evs_cons, evAnd_cons, evOr_cons, evAnd_nil, if_tt, if_ff, kBi1_some, kBi2_some, r_bi1, r_bi2, r_isi, kIsi_non, kIsi_bl, kIsi_int, kIsi_str, kIsi_tup, kIsi_lst, kIsi_wr, kIt1_some, kIdx_some, r_idx, kOI_i, oi_nil, oi_one, kSlc_some, r_slc, kRev_some, r_rev, kIts_some, kAs_some, r_asIt, items_lst, items_tup, items_wr, kRng_i, r_rng1, r_listRng, r_tupRng, kRng2_i, r_rng2, kZip_some, r_zip, kLz_some, r_listZip, kEn_lst, r_enum, kApp_lst, kIsL_lst, r_isL, r_app, kExt_lst, r_ext, kPop_lst, r_pop, kPopAt_lst, r_popAt, x_asg, kPut_no, kPut_sh, kPut_mu, r_put, st_mu, st_sh, st_slot, sts_nil, sts_cons, x_unp, x_par, evps_nil, evps_cons, settle_sh, settle_mu, settle_slot, x_ex, x_ite, x_for, x_wh, kRet_sh, kRet_mu, kRetP_slot, kRetP_sh, kRetP_mu, x_ret, x_raise, x_pass, kSeq_nx, kSeq_ret, xs_nil, xs_cons, r_setItem, kSI_lst, kSI_dct, x_setI, kAug_add, kAug_sub, kAugS_sh, x_aug, t_nm, t_tp, kTs_some, ts_nil, ts_cons, kDef_ret, kDef_nx, kDef_exc, brOnly_br, brOnly_no, brOnly_sh, brOnly_mu, lent1, lent2, lent3, lent4, lent5, ty_int_int, ty_bool_int, ty_int_bl, ty_bool_bl, ↓evAnd_one, ↓evOr_one, unwipe, wipe, bt_ok, bt_exc, bt_stuck, lift_some, liftE_some, calm_ok, b_and, b_or, b_andP, cmp_eq_i, cmp_ne_i, cmp_lt_i, cmp_le_i, cmp_gt_i, cmp_ge_i, cmp_is_non, cmp_isnot_non, cmp_is_b, cmp_isnot_b, bin_add_i, bin_sub_i, List.cons_append, List.nil_append, List.append_nil, List.replicate_succ, List.replicate_zero, Nat.reduceSub, Nat.reduceAdd, Nat.reduceLT, Nat.reduceLeDiff, Nat.zero_le, Nat.le_refl, if_true, ite_true, if_false, ite_false, ↓reduceIte, List.length_cons, List.length_nil, Option.isSome_some, ne_eq, not_true_eq_false, not_false_eq_true, eq_self, decide_true, decide_false, Bool.not_true, Bool.not_false, Bool.and_true, Bool.true_and, Bool.false_and, Bool.or_false, Bool.false_or, Bool.true_or]
end SL

/-! ## P10 -/
set_option maxRecDepth 100000
set_option linter.all false
set_option autoImplicit false
namespace SL
/-- a row of numbers, a tuple or a list -/
def SeqN (d : D) (row : List Nat) : Prop := d = tN row ∨ d = .lst (row.map (fun k : Nat => D.int k))
theorem SeqN.len {d : D} {row : List Nat} (h : SeqN d row) : bi1 .len d = some (.sh (.int row.length)) := by
  rcases h with rfl | rfl
  · exact len_tN row
  · simp [bi1]
theorem SeqN.items {d : D} {row : List Nat} (h : SeqN d row) : SL.items d = some (row.map (fun k : Nat => D.int k)) := by
  rcases h with rfl | rfl <;> rfl
end SL

/-! ## P11 -/
set_option maxRecDepth 100000
set_option linter.all false
set_option autoImplicit false
namespace SL
theorem mem_absL {p : List Int} {y : Int} : y ∈ absL p ↔ ∃ x ∈ p, y = (x.natAbs : Int) := by
  unfold absL; rw [List.mem_map]; exact ⟨fun ⟨x, h1, h2⟩ => ⟨x, h1, h2.symm⟩, fun ⟨x, h1, h2⟩ => ⟨x, h1, h2.symm⟩⟩
theorem farV_le {p : List Int} {b : Int} (hp : p ≠ []) : farV p ≤ b ↔ ∀ x ∈ p, (x.natAbs : Int) ≤ b := by
  unfold farV
  rw [maxL_le (by simpa [absL] using hp)]
  exact ⟨fun h x hx => h _ (mem_absL.mpr ⟨x, hx, rfl⟩), fun h y hy => by obtain ⟨x, hx, rfl⟩ := mem_absL.mp hy; exact h x hx⟩
theorem leanV_le {rows : List (List Int)} {b : Int} (hr : ∀ p ∈ rows, p ≠ []) : leanV rows ≤ b ↔ 0 ≤ b ∧ ∀ p ∈ rows, ∀ x ∈ p, (x.natAbs : Int) ≤ b := by
  unfold leanV
  rw [maxL_le (by simp)]
  constructor
  · intro h
    refine ⟨h 0 (List.mem_cons_self ..), fun p hp => ?_⟩
    exact (farV_le (hr p hp)).mp (h _ (List.mem_cons_of_mem _ (List.mem_map_of_mem hp)))
  · rintro ⟨h0, h⟩ x hx
    rcases List.mem_cons.mp hx with rfl | hx
    · exact h0
    · obtain ⟨p, hp, rfl⟩ := List.mem_map.mp hx
      exact (farV_le (hr p hp)).mpr (h p hp)
theorem leanV_nonneg {rows : List (List Int)} (hr : ∀ p ∈ rows, p ≠ []) : 0 ≤ leanV rows := ((leanV_le hr).mp (Int.le_refl _)).1
section
variable {w : Nat} {L : List (List Int)} {o : List Nat}
theorem len_ne (h : Loads w L) {p : List Int} (hp : p.length = w) : p ≠ [] := by intro e; rw [e] at hp; have := h.w1; simp at hp; omega
theorem runSum_ne (h : Loads w L) (hr : ∀ k ∈ o, k < L.length) : ∀ p ∈ runSum L (zeros w) o, p ≠ [] := fun p hp => len_ne h (runSum_lens h (zeros_len w) hr p hp)
theorem way_mem {p : List Int} {j : Nat} (hj : j < p.length) : p.getD j 0 ∈ p := by
  have : p.getD j 0 = p[j] := by simp [hj]
  rw [this]; exact List.getElem_mem hj
end
theorem item_last {L : List (List Int)} {p : List Int} (h : L.getLast? = some p) : item (lT L) (.int (-1)) = some (tI p) := by
  have hn : L ≠ [] := by intro e; rw [e] at h; cases h
  have hl : 0 < L.length := List.length_pos_iff.mpr hn
  have e : place L.length (-1) = some (L.length - 1) := by
    unfold place
    rw [if_neg (by omega), if_pos (by omega)]
    congr 1; omega
  simp only [item, lT, List.length_map, e, Option.bind_some]
  rw [List.getLast?_eq_getElem?] at h
  simp [h]
end SL

/-! ## P12 -/
set_option maxRecDepth 100000
set_option linter.all false
set_option autoImplicit false
namespace SL
/-! ### sorted numbers -/
def sortN (xs : List Nat) : List Nat := xs.mergeSort fun a b => decide (a ≤ b)
theorem sortN_perm (xs : List Nat) : (sortN xs).Perm xs := List.mergeSort_perm ..
theorem sortN_sorted (xs : List Nat) : (sortN xs).Pairwise (· ≤ ·) := by
  have := List.pairwise_mergeSort (le := fun a b : Nat => decide (a ≤ b)) (by intro a b c; simp; omega) (by intro a b; simp; omega) xs
  exact this.imp fun h => by simpa using h
theorem sorted_unique : ∀ {xs ys : List Nat}, xs.Perm ys → xs.Pairwise (· ≤ ·) → ys.Pairwise (· ≤ ·) → xs = ys := fun h h1 h2 =>
  h.eq_of_pairwise (fun a b _ _ h3 h4 => Nat.le_antisymm h3 h4) h1 h2
theorem sortN_congr {xs ys : List Nat} (h : xs.Perm ys) : sortN xs = sortN ys :=
  sorted_unique ((sortN_perm xs).trans (h.trans (sortN_perm ys).symm)) (sortN_sorted xs) (sortN_sorted ys)
theorem sortN_of_sorted {xs : List Nat} (h : xs.Pairwise (· ≤ ·)) : sortN xs = xs := sorted_unique (sortN_perm xs) (sortN_sorted xs) h
theorem alike_nD (xs : List Nat) : alikeAll (xs.map (fun k : Nat => D.int k)) = true := by
  unfold alikeAll; simp [D.like]
theorem headed_nD (xs : List Nat) : (xs.map (fun k : Nat => D.int k)).all headed = true := by simp [headed]
theorem sortD_nD (xs : List Nat) : sortD (xs.map (fun k : Nat => D.int k)) = (sortN xs).map (fun k : Nat => D.int k) := by
  unfold sortD sortN
  rw [List.map_mergeSort]
  intro a _ b _
  have : (D.int (b : Nat)).lt (.int (a : Nat)) = decide (b < a) := by simp [D.lt]
  rw [this]
  by_cases h : a ≤ b
  · simp [h, Nat.not_lt.mpr h]
  · simp [h, Nat.lt_of_not_le h]
theorem sorted_tN (xs : List Nat) : bi1 .sorted (tN xs) = some (.mu (.lst ((sortN xs).map (fun k : Nat => D.int k)))) := by
  have h := enc_nat.lst.fine (by omega) xs
  simp only [tN, bi1, alike_nD, headed_nD, h, Bool.and_self, if_true, sortD_nD]
/-! ### rules -/
def withP (lot : List Nat) (piece : Nat) : List Nat := sortN (lot ++ [piece])
end SL

/-! ## P13 -/
set_option maxRecDepth 100000
set_option linter.all false
set_option autoImplicit false
namespace SL
/-! ### what was found: a dict of lots -/
section
variable {β : Type}
end
/-! ### lots -/
structure Lot (m : Nat) (lot : List Nat) : Prop where
  lt : ∀ k ∈ lot, k < m
  nodup : lot.Nodup
theorem Lot.nil (m : Nat) : Lot m [] := ⟨fun _ h => (by cases h), List.nodup_nil⟩
theorem withP_perm (lot : List Nat) (p : Nat) : (withP lot p).Perm (lot ++ [p]) := sortN_perm _
theorem Lot.with {m : Nat} {lot : List Nat} (h : Lot m lot) {p : Nat} (hp : p < m) (hn : p ∉ lot) : Lot m (withP lot p) := by
  refine ⟨fun k hk => ?_, (withP_perm lot p).nodup_iff.mpr ?_⟩
  · rcases List.mem_append.mp ((withP_perm lot p).mem_iff.mp hk) with h1 | h1
    · exact h.lt k h1
    · rw [List.mem_singleton.mp h1]; exact hp
  · rw [List.nodup_append]
    exact ⟨h.nodup, by simp, fun a ha b hb z => by rw [List.mem_singleton] at hb; subst hb; exact hn (z ▸ ha)⟩
theorem Lot.len {m : Nat} {lot : List Nat} (h : Lot m lot) : lot.length + ((List.range m).filter fun p => !decide (p ∈ lot)).length = m := by
  have h1 : ((List.range m).filter fun p => decide (p ∈ lot)).Perm lot := by
    refine (List.perm_ext_iff_of_nodup (List.nodup_range.filter _) h.nodup).mpr fun k => ?_
    rw [List.mem_filter]
    simp only [List.mem_range, decide_eq_true_eq]
    exact ⟨fun z => z.2, fun z => ⟨h.lt k z, z⟩⟩
  rw [← h1.length_eq]
  have := List.length_eq_countP_add_countP (fun p => decide (p ∈ lot)) (l := List.range m)
  rw [List.length_range, List.countP_eq_length_filter, List.countP_eq_length_filter] at this
  have e2 : (List.range m).filter (fun a => decide ¬decide (a ∈ lot) = true) = (List.range m).filter fun p => !decide (p ∈ lot) := by
    congr 1; funext p; simp
  rw [e2] at this
  exact this.symm
/-! ### how many go on -/
section
variable (L : List (List Int)) (w : Nat) (P : List (Nat × Nat)) (q : Nat)
def lotLean (lot : List Nat) : Int := farV (sumV L (zeros w) lot)
end
end SL

/-! ## P14 -/
set_option maxRecDepth 100000
set_option linter.all false
set_option autoImplicit false
namespace SL
/-! ### the least of ints -/
/-! ### the least greatest lean behind a lot -/
section
variable (L : List (List Int)) (w : Nat) (P : List (Nat × Nat)) (q : Nat)
/-- the leans of all ways of going on from some pieces -/
def goes (F : List Nat → Option Int) (lot : List Nat) (ps : List Nat) : List Int := ps.filterMap fun p => (F (withP lot p)).map fun own => max own (lotLean L w (withP lot p))
end
theorem max2_max (i j : Int) : bi2 .max2 (.int i) (.int j) = some (.sh (.int (max i j))) := by
  rw [max2_i]; congr 3; split <;> omega
end SL

/-! ## P15 -/
set_option maxRecDepth 100000
set_option linter.all false
set_option autoImplicit false
namespace SL
section
variable (L : List (List Int)) (w : Nat) (P : List (Nat × Nat)) (q : Nat)
end
end SL

/-! ## P16 -/
set_option maxRecDepth 100000
set_option linter.all false
set_option autoImplicit false
namespace SL
/-! ### all ways of going on, in rising order -/
section
variable (n : Nat) (P : List (Nat × Nat)) (q : Nat)
end
section
variable (L : List (List Int)) (w : Nat)
variable (P : List (Nat × Nat)) (q : Nat)
end
end SL

/-! ## P17 -/
set_option maxRecDepth 100000
set_option linter.all false
set_option autoImplicit false
namespace SL
/-! ### all orders -/
def outL (n : Nat) (row : List Nat) : List Nat := (List.range n).filter fun p => !decide (p ∈ row)
def ext (n : Nat) : Nat → List Nat → List (List Nat)
  | 0, _ => [[]]
  | m + 1, row => (outL n row).flatMap fun p => (ext n m (row ++ [p])).map (p :: ·)
/-! the orders by rules among them -/
/-! rising -/
end SL

/-! ## P18 -/
set_option maxRecDepth 100000
set_option linter.all false
set_option autoImplicit false
namespace SL
section
variable {L : List (List Int)} {w : Nat}
/-- an order's lean -/
def leanO (L : List (List Int)) (w : Nat) (o : List Nat) : Int := leanV (runSum L (zeros w) o)
end
/-! free orders -/
/-! min of rated things -/
section
variable {α : Type}
end
end SL

/-! ## P19 -/
set_option maxRecDepth 100000
set_option linter.all false
set_option autoImplicit false
namespace SL
end SL

/-! ## P13b -/
set_option maxRecDepth 100000
set_option linter.all false
set_option autoImplicit false
namespace SL
end SL

/-! ## P20 -/
set_option maxRecDepth 100000
set_option linter.all false
set_option autoImplicit false
namespace SL
section
variable {n w : Nat} {L : List (List Int)}
end
end SL

/-! ## P21 -/
set_option maxRecDepth 100000
set_option linter.all false
set_option autoImplicit false
namespace SL
def rated (f : List Nat → Int) (o : List Nat) : D := .tup [.int (f o), tN o]
end SL

/-! ## P22 -/
set_option maxRecDepth 100000
set_option linter.all false
set_option autoImplicit false
namespace SL
section
variable {w m : Nat} {L : List (List Int)}
theorem vadd_bound {a b : List Int} {A B : Int} (ha : ∀ x ∈ a, (x.natAbs : Int) ≤ A) (hb : ∀ x ∈ b, (x.natAbs : Int) ≤ B) : ∀ x ∈ vadd a b, (x.natAbs : Int) ≤ A + B := fun x hx => by
  obtain ⟨p, hp, rfl⟩ := List.mem_map.mp hx
  obtain ⟨h1, h2⟩ := List.of_mem_zip (a := p.1) (b := p.2) hp
  have := ha _ h1
  have := hb _ h2
  omega
theorem runSum_bound (B : Int) (hB : 0 ≤ B) (hL : ∀ p ∈ L, ∀ x ∈ p, (x.natAbs : Int) ≤ B) : ∀ (o : List Nat) (a : List Int) (A : Int), (∀ x ∈ a, (x.natAbs : Int) ≤ A) → ∀ p ∈ runSum L a o, ∀ x ∈ p, (x.natAbs : Int) ≤ A + B * o.length
  | [], _, _, _, p, hp => nomatch hp
  | k :: o, a, A, ha, p, hp => by
    have hk : ∀ x ∈ L.getD k [], (x.natAbs : Int) ≤ B := by
      intro x hx
      by_cases hkl : k < L.length
      · have e : L.getD k [] = L[k] := by simp [hkl]
        rw [e] at hx
        exact hL _ (List.getElem_mem hkl) x hx
      · have e : L.getD k [] = [] := by simp [List.getD_eq_getElem?_getD, hkl]
        rw [e] at hx; cases hx
    have h1 := vadd_bound ha hk
    have e : A + B + B * (o.length : Int) = A + B * ((k :: o).length : Int) := by
      rw [List.length_cons, Int.natCast_add, Int.mul_add]; simp; omega
    have hB2 : 0 ≤ B * (o.length : Int) := Int.mul_nonneg hB (by omega)
    intro x hx
    rcases List.mem_cons.mp hp with rfl | hp
    · have := h1 x hx; omega
    · have := runSum_bound B hB hL o _ _ h1 p hp x hx; omega
theorem Drawn.lean (hd : Drawn w m L) {o : List Nat} (ho : Order L o) : 0 ≤ leanO L w o ∧ leanO L w o ≤ 60 * L.length ∧ leanO L w o ≤ 999 := by
  have h := hd.loads
  have hr : ∀ k ∈ o, k < L.length := fun k hk => Order.lt ho hk
  have hne := runSum_ne h hr
  have hl := Order.len ho
  have h1 : leanO L w o ≤ 60 * L.length := by
    unfold leanO
    rw [leanV_le hne]
    refine ⟨by omega, fun p hp x hx => ?_⟩
    have := runSum_bound 60 (by omega) (fun p hp x hx => by have := hd.small p hp x hx; omega) o (zeros w) 0 (by simp [zeros]) p hp x hx
    rw [hl] at this
    omega
  have n8 := h.n8
  exact ⟨leanV_nonneg hne, h1, by omega⟩
end
end SL

/-! ## P23 -/
set_option maxRecDepth 100000
set_option linter.all false
set_option autoImplicit false
namespace SL
section
variable {w : Nat} {L M : List (List Int)}
theorem Loads.app (h : Loads w L) (h' : Loads w M) (hl : L.length + M.length ≤ 8) : Loads w (L ++ M) :=
  ⟨h.w1, h.w3, by rw [List.length_append]; have := h.n1; omega, by rw [List.length_append]; omega, fun p hp => by
    rcases List.mem_append.mp hp with hp | hp
    · exact h.row p hp
    · exact h'.row p hp⟩
end
end SL

/-! ## P24 -/
set_option maxRecDepth 100000
set_option linter.all false
set_option autoImplicit false
namespace SL
/-! ### sums of pulls in a row -/
def pulls (L : List (List Int)) (o : List Nat) : List (List Int) := o.map fun k => L.getD k []
section
variable {w : Nat}
variable {A B : List (List Int)} {x : List Int} {F : Int}
end
section
variable {w : Nat} {L : List (List Int)} {g : Nat}
end
end SL

/-! ## P25 -/
set_option maxRecDepth 100000
set_option linter.all false
set_option autoImplicit false
namespace SL
end SL

/-! ## P26 -/
set_option maxRecDepth 100000
set_option linter.all false
set_option autoImplicit false
namespace SL
/-! ### signs -/
section
variable {n w : Nat} {L : List (List Int)} {o : List Nat} {s : List Int}
theorem tuple_tI (ys : List Int) : bi1 .tuple (.lst (ys.map D.int)) = some (.sh (tI ys)) := rfl
end
end SL

/-! ## P27 -/
set_option maxRecDepth 100000
set_option linter.all false
set_option autoImplicit false
namespace SL
/-! ### numbers drawn, one for each of a row -/
/-! ### signs, plain -/
end SL

/-! ## P28 -/
set_option maxRecDepth 100000
set_option linter.all false
set_option autoImplicit false
namespace SL
/-! ### jobs at stations -/
structure Jobs (k : Nat) (J : List (List Int)) : Prop where
  k2 : 2 ≤ k
  k4 : k ≤ 4
  n1 : 1 ≤ J.length
  n8 : J.length ≤ 8
  row : ∀ p ∈ J, p.length = k ∧ ∀ x ∈ p, 0 ≤ x ∧ x ≤ 99
def endR : Int → List (Int × Int) → List Int
  | _, [] => []
  | h, q :: r => (max h q.2 + q.1) :: endR (max h q.2 + q.1) r
def endH (h : Int) (r : List (Int × Int)) : Int := r.foldl (fun h q => max h q.2 + q.1) h
theorem endR_snoc (h : Int) (d : List (Int × Int)) (q : Int × Int) : endR h (d ++ [q]) = endR h d ++ [max (endH h d) q.2 + q.1] := by
  induction d generalizing h with
  | nil => rfl
  | cons x d ih => simp only [List.cons_append, endR, ih]; rfl
theorem endH_snoc (h : Int) (d : List (Int × Int)) (q : Int × Int) : endH h (d ++ [q]) = max (endH h d) q.2 + q.1 := by simp [endH]
theorem endR_len (h : Int) (d : List (Int × Int)) : (endR h d).length = d.length := by
  induction d generalizing h with
  | nil => rfl
  | cons x d ih => simp [endR, ih]
def endRow (p free : List Int) : List Int := endR 0 (p.zip free)
def lastE (J : List (List Int)) (f : List Int) (o : List Nat) : List Int := o.foldl (fun f k => endRow (J.getD k []) f) f
def endsV (J : List (List Int)) : List Int → List Nat → List (List Int)
  | _, [] => []
  | f, k :: o => endRow (J.getD k []) f :: endsV J (endRow (J.getD k []) f) o
theorem endsV_snoc (J : List (List Int)) (f : List Int) (o : List Nat) (k : Nat) : endsV J f (o ++ [k]) = endsV J f o ++ [endRow (J.getD k []) (lastE J f o)] := by
  induction o generalizing f with
  | nil => rfl
  | cons x o ih => simp only [List.cons_append, endsV, ih]; rfl
theorem endsV_len (J : List (List Int)) (f : List Int) (o : List Nat) : (endsV J f o).length = o.length := by
  induction o generalizing f with
  | nil => rfl
  | cons x o ih => simp [endsV, ih]
theorem lastE_snoc (J : List (List Int)) (f : List Int) (o : List Nat) (k : Nat) : lastE J f (o ++ [k]) = endRow (J.getD k []) (lastE J f o) := by simp [lastE]
theorem endsV_last (J : List (List Int)) : ∀ (o : List Nat) (f : List Int), o ≠ [] → (endsV J f o).getLast? = some (lastE J f o)
  | [k], f, _ => rfl
  | k :: k' :: o, f, _ => by
    have := endsV_last J (k' :: o) (endRow (J.getD k []) f) (by simp)
    rw [endsV, List.getLast?_cons, this]; rfl
section
variable {n k : Nat} {J : List (List Int)} {o : List Nat}
theorem Jobs.at (h : Jobs k J) {i : Nat} (hi : i < J.length) : (J.getD i []).length = k ∧ ∀ x ∈ J.getD i [], 0 ≤ x ∧ x ≤ 99 := by
  have e : J.getD i [] = J[i] := by simp [hi]
  rw [e]; exact h.row _ (List.getElem_mem hi)
theorem Jobs.i0 (h : Jobs k J) : item (tT J) (.int 0) = some (tI (J.getD 0 [])) := item_tT (by omega) (by have := h.n1; omega)
theorem Jobs.l0 (h : Jobs k J) : (J.getD 0 []).length = k := (h.at h.n1).1
theorem lastE_len (h : Jobs k J) {f : List Int} (hf : f.length = k) : ∀ (o : List Nat), (∀ i ∈ o, i < J.length) → (lastE J f o).length = k := by
  intro o
  induction o generalizing f with
  | nil => intro _; exact hf
  | cons x o ih =>
    intro hr
    refine ih ?_ fun i hi => hr i (List.mem_cons_of_mem _ hi)
    show (endRow (J.getD x []) f).length = k
    unfold endRow
    rw [endR_len, List.length_zip, (h.at (hr x (List.mem_cons_self ..))).1, hf, Nat.min_self]
theorem is_job_sp (hn : 2 ≤ n) (p : List Int) (hp : p.length = k) (hk : k ≤ 4) (hb : ∀ x ∈ p, 0 ≤ x ∧ x ≤ 99) : run GA n i_is_job [.sh (.int (k : Nat)), .sh (tI p)] = .ret (.sh (.bl true)) [.no, .no] := by
  obtain ⟨n, rfl⟩ : ∃ m, n = m + 1 := ⟨n - 1, by omega⟩
  rw [run_def rfl rfl]
  have C : ev (run GA n) q_is_job_0 [.sh (.int (k : Nat)), .sh (tI p), .no] = _ := ev_comp1 (ys := p) (g := D.int) (p := .slot 1) (fun x => D.bl true) (fun x => [.sh (.int (k : Nat)), .sh (tI p), .sh (.int x)])
    (by simp only [r_var, kVar_sh, kVar_mu, kVar_br, kVar_lk, r_look0, r_look1, r_set0, r_set1, cont_sh, cont_mu, cont_br, cont_lk, peek_slot, peek_sh, peek_mu, frz_slot, frz_sh, frz_mu, kFrz_sh, kFrz_mu, kO_some, r_frzR, r_cst, r_glb, r_tup, r_lst, r_dnew, kBin_some, r_bin, kRep_some, r_lrep, kNeg_i, r_neg, kB_b, r_asB, r_not, r_and, r_or, kCmpR_some, kCmp_some, r_cmp, kCh2_some, kCh_some, r_chain, r_ite, kOut_sh, kOut_mu, kOut_exc, kCall_some, r_call, lends_nil, lends_val, lends_len, lends_mov, kSl_some, kOw_some, sl_nil, sl_val, sl_mov, sl_len, r_own, kOwn_mu, kOwn_br, bk_nil, bk_val, bk_mov, kBk_some, bk_len, r_upd, kUpd_mu, kUpd_br, kLend_mu, kLend_br, arg_lend, arg_mov, kVal_some, arg_val, arg_nil, arg_cons0, arg_cons, evs_nil, evs_cons, evAnd_cons, evOr_cons, evAnd_nil, if_tt, if_ff, kBi1_some, kBi2_some, r_bi1, r_bi2, r_isi, kIsi_non, kIsi_bl, kIsi_int, kIsi_str, kIsi_tup, kIsi_lst, kIsi_wr, kIt1_some, kIdx_some, r_idx, kOI_i, oi_nil, oi_one, kSlc_some, r_slc, kRev_some, r_rev, kIts_some, kAs_some, r_asIt, items_lst, items_tup, items_wr, kRng_i, r_rng1, r_listRng, r_tupRng, kRng2_i, r_rng2, kZip_some, r_zip, kLz_some, r_listZip, kEn_lst, r_enum, kApp_lst, kIsL_lst, r_isL, r_app, kExt_lst, r_ext, kPop_lst, r_pop, kPopAt_lst, r_popAt, x_asg, kPut_no, kPut_sh, kPut_mu, r_put, st_mu, st_sh, st_slot, sts_nil, sts_cons, x_unp, x_par, evps_nil, evps_cons, settle_sh, settle_mu, settle_slot, x_ex, x_ite, x_for, x_wh, kRet_sh, kRet_mu, kRetP_slot, kRetP_sh, kRetP_mu, x_ret, x_raise, x_pass, kSeq_nx, kSeq_ret, xs_nil, xs_cons, r_setItem, kSI_lst, kSI_dct, x_setI, kAug_add, kAug_sub, kAugS_sh, x_aug, t_nm, t_tp, kTs_some, ts_nil, ts_cons, kDef_ret, kDef_nx, kDef_exc, brOnly_br, brOnly_no, brOnly_sh, brOnly_mu, lent1, lent2, lent3, lent4, lent5, ty_int_int, ty_bool_int, ty_int_bl, ty_bool_bl, ↓evAnd_one, ↓evOr_one, unwipe, wipe, bt_ok, bt_exc, bt_stuck, lift_some, liftE_some, calm_ok, b_and, b_or, b_andP, cmp_eq_i, cmp_ne_i, cmp_lt_i, cmp_le_i, cmp_gt_i, cmp_ge_i, cmp_is_non, cmp_isnot_non, cmp_is_b, cmp_isnot_b, bin_add_i, bin_sub_i, List.cons_append, List.nil_append, List.append_nil, List.replicate_succ, List.replicate_zero, Nat.reduceSub, Nat.reduceAdd, Nat.reduceLT, Nat.reduceLeDiff, Nat.zero_le, Nat.le_refl, if_true, ite_true, if_false, ite_false, ↓reduceIte, List.length_cons, List.length_nil, Option.isSome_some, ne_eq, not_true_eq_false, not_false_eq_true, eq_self, decide_true, decide_false, Bool.not_true, Bool.not_false, Bool.and_true, Bool.true_and, Bool.false_and, Bool.or_false, Bool.false_or, Bool.true_or, items_tI]) (by rw [lim_eq]; omega) rfl rfl rfl (fun x hx => ⟨rfl, fun acc => (by
      have h3 : (decide ((0:Int) ≤ x) && decide (x ≤ 99)) = true := by have := hb x hx; simp; omega
      simp only [r_var, kVar_sh, kVar_mu, kVar_br, kVar_lk, r_look0, r_look1, r_set0, r_set1, cont_sh, cont_mu, cont_br, cont_lk, peek_slot, peek_sh, peek_mu, frz_slot, frz_sh, frz_mu, kFrz_sh, kFrz_mu, kO_some, r_frzR, r_cst, r_glb, r_tup, r_lst, r_dnew, kBin_some, r_bin, kRep_some, r_lrep, kNeg_i, r_neg, kB_b, r_asB, r_not, r_and, r_or, kCmpR_some, kCmp_some, r_cmp, kCh2_some, kCh_some, r_chain, r_ite, kOut_sh, kOut_mu, kOut_exc, kCall_some, r_call, lends_nil, lends_val, lends_len, lends_mov, kSl_some, kOw_some, sl_nil, sl_val, sl_mov, sl_len, r_own, kOwn_mu, kOwn_br, bk_nil, bk_val, bk_mov, kBk_some, bk_len, r_upd, kUpd_mu, kUpd_br, kLend_mu, kLend_br, arg_lend, arg_mov, kVal_some, arg_val, arg_nil, arg_cons0, arg_cons, evs_nil, evs_cons, evAnd_cons, evOr_cons, evAnd_nil, if_tt, if_ff, kBi1_some, kBi2_some, r_bi1, r_bi2, r_isi, kIsi_non, kIsi_bl, kIsi_int, kIsi_str, kIsi_tup, kIsi_lst, kIsi_wr, kIt1_some, kIdx_some, r_idx, kOI_i, oi_nil, oi_one, kSlc_some, r_slc, kRev_some, r_rev, kIts_some, kAs_some, r_asIt, items_lst, items_tup, items_wr, kRng_i, r_rng1, r_listRng, r_tupRng, kRng2_i, r_rng2, kZip_some, r_zip, kLz_some, r_listZip, kEn_lst, r_enum, kApp_lst, kIsL_lst, r_isL, r_app, kExt_lst, r_ext, kPop_lst, r_pop, kPopAt_lst, r_popAt, x_asg, kPut_no, kPut_sh, kPut_mu, r_put, st_mu, st_sh, st_slot, sts_nil, sts_cons, x_unp, x_par, evps_nil, evps_cons, settle_sh, settle_mu, settle_slot, x_ex, x_ite, x_for, x_wh, kRet_sh, kRet_mu, kRetP_slot, kRetP_sh, kRetP_mu, x_ret, x_raise, x_pass, kSeq_nx, kSeq_ret, xs_nil, xs_cons, r_setItem, kSI_lst, kSI_dct, x_setI, kAug_add, kAug_sub, kAugS_sh, x_aug, t_nm, t_tp, kTs_some, ts_nil, ts_cons, kDef_ret, kDef_nx, kDef_exc, brOnly_br, brOnly_no, brOnly_sh, brOnly_mu, lent1, lent2, lent3, lent4, lent5, ty_int_int, ty_bool_int, ty_int_bl, ty_bool_bl, ↓evAnd_one, ↓evOr_one, unwipe, wipe, bt_ok, bt_exc, bt_stuck, lift_some, liftE_some, calm_ok, b_and, b_or, b_andP, cmp_eq_i, cmp_ne_i, cmp_lt_i, cmp_le_i, cmp_gt_i, cmp_ge_i, cmp_is_non, cmp_isnot_non, cmp_is_b, cmp_isnot_b, bin_add_i, bin_sub_i, List.cons_append, List.nil_append, List.append_nil, List.replicate_succ, List.replicate_zero, Nat.reduceSub, Nat.reduceAdd, Nat.reduceLT, Nat.reduceLeDiff, Nat.zero_le, Nat.le_refl, if_true, ite_true, if_false, ite_false, ↓reduceIte, List.length_cons, List.length_nil, Option.isSome_some, ne_eq, not_true_eq_false, not_false_eq_true, eq_self, decide_true, decide_false, Bool.not_true, Bool.not_false, Bool.and_true, Bool.true_and, Bool.false_and, Bool.or_false, Bool.false_or, Bool.true_or, is_whole_sp (show 1 ≤ n by omega), h3]), rfl, rfl, rfl⟩) rfl
  simp only [r_var, kVar_sh, kVar_mu, kVar_br, kVar_lk, r_look0, r_look1, r_set0, r_set1, cont_sh, cont_mu, cont_br, cont_lk, peek_slot, peek_sh, peek_mu, frz_slot, frz_sh, frz_mu, kFrz_sh, kFrz_mu, kO_some, r_frzR, r_cst, r_glb, r_tup, r_lst, r_dnew, kBin_some, r_bin, kRep_some, r_lrep, kNeg_i, r_neg, kB_b, r_asB, r_not, r_and, r_or, kCmpR_some, kCmp_some, r_cmp, kCh2_some, kCh_some, r_chain, r_ite, kOut_sh, kOut_mu, kOut_exc, kCall_some, r_call, lends_nil, lends_val, lends_len, lends_mov, kSl_some, kOw_some, sl_nil, sl_val, sl_mov, sl_len, r_own, kOwn_mu, kOwn_br, bk_nil, bk_val, bk_mov, kBk_some, bk_len, r_upd, kUpd_mu, kUpd_br, kLend_mu, kLend_br, arg_lend, arg_mov, kVal_some, arg_val, arg_nil, arg_cons0, arg_cons, evs_nil, evs_cons, evAnd_cons, evOr_cons, evAnd_nil, if_tt, if_ff, kBi1_some, kBi2_some, r_bi1, r_bi2, r_isi, kIsi_non, kIsi_bl, kIsi_int, kIsi_str, kIsi_tup, kIsi_lst, kIsi_wr, kIt1_some, kIdx_some, r_idx, kOI_i, oi_nil, oi_one, kSlc_some, r_slc, kRev_some, r_rev, kIts_some, kAs_some, r_asIt, items_lst, items_tup, items_wr, kRng_i, r_rng1, r_listRng, r_tupRng, kRng2_i, r_rng2, kZip_some, r_zip, kLz_some, r_listZip, kEn_lst, r_enum, kApp_lst, kIsL_lst, r_isL, r_app, kExt_lst, r_ext, kPop_lst, r_pop, kPopAt_lst, r_popAt, x_asg, kPut_no, kPut_sh, kPut_mu, r_put, st_mu, st_sh, st_slot, sts_nil, sts_cons, x_unp, x_par, evps_nil, evps_cons, settle_sh, settle_mu, settle_slot, x_ex, x_ite, x_for, x_wh, kRet_sh, kRet_mu, kRetP_slot, kRetP_sh, kRetP_mu, x_ret, x_raise, x_pass, kSeq_nx, kSeq_ret, xs_nil, xs_cons, r_setItem, kSI_lst, kSI_dct, x_setI, kAug_add, kAug_sub, kAugS_sh, x_aug, t_nm, t_tp, kTs_some, ts_nil, ts_cons, kDef_ret, kDef_nx, kDef_exc, brOnly_br, brOnly_no, brOnly_sh, brOnly_mu, lent1, lent2, lent3, lent4, lent5, ty_int_int, ty_bool_int, ty_int_bl, ty_bool_bl, ↓evAnd_one, ↓evOr_one, unwipe, wipe, bt_ok, bt_exc, bt_stuck, lift_some, liftE_some, calm_ok, b_and, b_or, b_andP, cmp_eq_i, cmp_ne_i, cmp_lt_i, cmp_le_i, cmp_gt_i, cmp_ge_i, cmp_is_non, cmp_isnot_non, cmp_is_b, cmp_isnot_b, bin_add_i, bin_sub_i, List.cons_append, List.nil_append, List.append_nil, List.replicate_succ, List.replicate_zero, Nat.reduceSub, Nat.reduceAdd, Nat.reduceLT, Nat.reduceLeDiff, Nat.zero_le, Nat.le_refl, if_true, ite_true, if_false, ite_false, ↓reduceIte, List.length_cons, List.length_nil, Option.isSome_some, ne_eq, not_true_eq_false, not_false_eq_true, eq_self, decide_true, decide_false, Bool.not_true, Bool.not_false, Bool.and_true, Bool.true_and, Bool.false_and, Bool.or_false, Bool.false_or, Bool.true_or, C, all_b, isi_tI, len_tI, decide_true, hp, cmp_eq_enc enc_int (by omega)]
  simp
theorem good_jobs_sp (hn : 3 ≤ n) (h : Jobs k J) : run GA n i_good_jobs [.sh (tT J)] = .ret (.sh (.bl true)) [.no] := by
  obtain ⟨n, rfl⟩ : ∃ m, n = m + 1 := ⟨n - 1, by omega⟩
  rw [run_def rfl rfl]
  have n1 := h.n1
  have n8 := h.n8
  have w1 := h.k2
  have w3 := h.k4
  have C : ev (run GA n) q_good_jobs_0 [.sh (tT J), .no] = _ := ev_comp1 (ys := J) (g := tI) (p := .slot 0) (fun x => D.bl true) (fun x => [.sh (tT J), .sh (tI x)])
    (by simp only [r_var, kVar_sh, kVar_mu, kVar_br, kVar_lk, r_look0, r_look1, r_set0, r_set1, cont_sh, cont_mu, cont_br, cont_lk, peek_slot, peek_sh, peek_mu, frz_slot, frz_sh, frz_mu, kFrz_sh, kFrz_mu, kO_some, r_frzR, r_cst, r_glb, r_tup, r_lst, r_dnew, kBin_some, r_bin, kRep_some, r_lrep, kNeg_i, r_neg, kB_b, r_asB, r_not, r_and, r_or, kCmpR_some, kCmp_some, r_cmp, kCh2_some, kCh_some, r_chain, r_ite, kOut_sh, kOut_mu, kOut_exc, kCall_some, r_call, lends_nil, lends_val, lends_len, lends_mov, kSl_some, kOw_some, sl_nil, sl_val, sl_mov, sl_len, r_own, kOwn_mu, kOwn_br, bk_nil, bk_val, bk_mov, kBk_some, bk_len, r_upd, kUpd_mu, kUpd_br, kLend_mu, kLend_br, arg_lend, arg_mov, kVal_some, arg_val, arg_nil, arg_cons0, arg_cons, evs_nil, evs_cons, evAnd_cons, evOr_cons, evAnd_nil, if_tt, if_ff, kBi1_some, kBi2_some, r_bi1, r_bi2, r_isi, kIsi_non, kIsi_bl, kIsi_int, kIsi_str, kIsi_tup, kIsi_lst, kIsi_wr, kIt1_some, kIdx_some, r_idx, kOI_i, oi_nil, oi_one, kSlc_some, r_slc, kRev_some, r_rev, kIts_some, kAs_some, r_asIt, items_lst, items_tup, items_wr, kRng_i, r_rng1, r_listRng, r_tupRng, kRng2_i, r_rng2, kZip_some, r_zip, kLz_some, r_listZip, kEn_lst, r_enum, kApp_lst, kIsL_lst, r_isL, r_app, kExt_lst, r_ext, kPop_lst, r_pop, kPopAt_lst, r_popAt, x_asg, kPut_no, kPut_sh, kPut_mu, r_put, st_mu, st_sh, st_slot, sts_nil, sts_cons, x_unp, x_par, evps_nil, evps_cons, settle_sh, settle_mu, settle_slot, x_ex, x_ite, x_for, x_wh, kRet_sh, kRet_mu, kRetP_slot, kRetP_sh, kRetP_mu, x_ret, x_raise, x_pass, kSeq_nx, kSeq_ret, xs_nil, xs_cons, r_setItem, kSI_lst, kSI_dct, x_setI, kAug_add, kAug_sub, kAugS_sh, x_aug, t_nm, t_tp, kTs_some, ts_nil, ts_cons, kDef_ret, kDef_nx, kDef_exc, brOnly_br, brOnly_no, brOnly_sh, brOnly_mu, lent1, lent2, lent3, lent4, lent5, ty_int_int, ty_bool_int, ty_int_bl, ty_bool_bl, ↓evAnd_one, ↓evOr_one, unwipe, wipe, bt_ok, bt_exc, bt_stuck, lift_some, liftE_some, calm_ok, b_and, b_or, b_andP, cmp_eq_i, cmp_ne_i, cmp_lt_i, cmp_le_i, cmp_gt_i, cmp_ge_i, cmp_is_non, cmp_isnot_non, cmp_is_b, cmp_isnot_b, bin_add_i, bin_sub_i, List.cons_append, List.nil_append, List.append_nil, List.replicate_succ, List.replicate_zero, Nat.reduceSub, Nat.reduceAdd, Nat.reduceLT, Nat.reduceLeDiff, Nat.zero_le, Nat.le_refl, if_true, ite_true, if_false, ite_false, ↓reduceIte, List.length_cons, List.length_nil, Option.isSome_some, ne_eq, not_true_eq_false, not_false_eq_true, eq_self, decide_true, decide_false, Bool.not_true, Bool.not_false, Bool.and_true, Bool.true_and, Bool.false_and, Bool.or_false, Bool.false_or, Bool.true_or, items_tT]) (by rw [lim_eq]; omega) rfl rfl rfl (fun x hx => ⟨rfl, fun acc => (by
      simp only [r_var, kVar_sh, kVar_mu, kVar_br, kVar_lk, r_look0, r_look1, r_set0, r_set1, cont_sh, cont_mu, cont_br, cont_lk, peek_slot, peek_sh, peek_mu, frz_slot, frz_sh, frz_mu, kFrz_sh, kFrz_mu, kO_some, r_frzR, r_cst, r_glb, r_tup, r_lst, r_dnew, kBin_some, r_bin, kRep_some, r_lrep, kNeg_i, r_neg, kB_b, r_asB, r_not, r_and, r_or, kCmpR_some, kCmp_some, r_cmp, kCh2_some, kCh_some, r_chain, r_ite, kOut_sh, kOut_mu, kOut_exc, kCall_some, r_call, lends_nil, lends_val, lends_len, lends_mov, kSl_some, kOw_some, sl_nil, sl_val, sl_mov, sl_len, r_own, kOwn_mu, kOwn_br, bk_nil, bk_val, bk_mov, kBk_some, bk_len, r_upd, kUpd_mu, kUpd_br, kLend_mu, kLend_br, arg_lend, arg_mov, kVal_some, arg_val, arg_nil, arg_cons0, arg_cons, evs_nil, evs_cons, evAnd_cons, evOr_cons, evAnd_nil, if_tt, if_ff, kBi1_some, kBi2_some, r_bi1, r_bi2, r_isi, kIsi_non, kIsi_bl, kIsi_int, kIsi_str, kIsi_tup, kIsi_lst, kIsi_wr, kIt1_some, kIdx_some, r_idx, kOI_i, oi_nil, oi_one, kSlc_some, r_slc, kRev_some, r_rev, kIts_some, kAs_some, r_asIt, items_lst, items_tup, items_wr, kRng_i, r_rng1, r_listRng, r_tupRng, kRng2_i, r_rng2, kZip_some, r_zip, kLz_some, r_listZip, kEn_lst, r_enum, kApp_lst, kIsL_lst, r_isL, r_app, kExt_lst, r_ext, kPop_lst, r_pop, kPopAt_lst, r_popAt, x_asg, kPut_no, kPut_sh, kPut_mu, r_put, st_mu, st_sh, st_slot, sts_nil, sts_cons, x_unp, x_par, evps_nil, evps_cons, settle_sh, settle_mu, settle_slot, x_ex, x_ite, x_for, x_wh, kRet_sh, kRet_mu, kRetP_slot, kRetP_sh, kRetP_mu, x_ret, x_raise, x_pass, kSeq_nx, kSeq_ret, xs_nil, xs_cons, r_setItem, kSI_lst, kSI_dct, x_setI, kAug_add, kAug_sub, kAugS_sh, x_aug, t_nm, t_tp, kTs_some, ts_nil, ts_cons, kDef_ret, kDef_nx, kDef_exc, brOnly_br, brOnly_no, brOnly_sh, brOnly_mu, lent1, lent2, lent3, lent4, lent5, ty_int_int, ty_bool_int, ty_int_bl, ty_bool_bl, ↓evAnd_one, ↓evOr_one, unwipe, wipe, bt_ok, bt_exc, bt_stuck, lift_some, liftE_some, calm_ok, b_and, b_or, b_andP, cmp_eq_i, cmp_ne_i, cmp_lt_i, cmp_le_i, cmp_gt_i, cmp_ge_i, cmp_is_non, cmp_isnot_non, cmp_is_b, cmp_isnot_b, bin_add_i, bin_sub_i, List.cons_append, List.nil_append, List.append_nil, List.replicate_succ, List.replicate_zero, Nat.reduceSub, Nat.reduceAdd, Nat.reduceLT, Nat.reduceLeDiff, Nat.zero_le, Nat.le_refl, if_true, ite_true, if_false, ite_false, ↓reduceIte, List.length_cons, List.length_nil, Option.isSome_some, ne_eq, not_true_eq_false, not_false_eq_true, eq_self, decide_true, decide_false, Bool.not_true, Bool.not_false, Bool.and_true, Bool.true_and, Bool.false_and, Bool.or_false, Bool.false_or, Bool.true_or, h.i0, len_tI, h.l0, is_job_sp (show 2 ≤ n by omega) x (h.row x hx).1 w3 (h.row x hx).2]), rfl, rfl, rfl⟩) rfl
  have d1 : decide ((1:Int) ≤ (J.length : Int)) = true := by simp; omega
  have d2 : decide ((J.length : Int) ≤ 8) = true := by simp; omega
  have d3 : decide ((2:Int) ≤ (k : Int)) = true := by simp; omega
  have d4 : decide ((k : Int) ≤ 4) = true := by simp; omega
  simp only [r_var, kVar_sh, kVar_mu, kVar_br, kVar_lk, r_look0, r_look1, r_set0, r_set1, cont_sh, cont_mu, cont_br, cont_lk, peek_slot, peek_sh, peek_mu, frz_slot, frz_sh, frz_mu, kFrz_sh, kFrz_mu, kO_some, r_frzR, r_cst, r_glb, r_tup, r_lst, r_dnew, kBin_some, r_bin, kRep_some, r_lrep, kNeg_i, r_neg, kB_b, r_asB, r_not, r_and, r_or, kCmpR_some, kCmp_some, r_cmp, kCh2_some, kCh_some, r_chain, r_ite, kOut_sh, kOut_mu, kOut_exc, kCall_some, r_call, lends_nil, lends_val, lends_len, lends_mov, kSl_some, kOw_some, sl_nil, sl_val, sl_mov, sl_len, r_own, kOwn_mu, kOwn_br, bk_nil, bk_val, bk_mov, kBk_some, bk_len, r_upd, kUpd_mu, kUpd_br, kLend_mu, kLend_br, arg_lend, arg_mov, kVal_some, arg_val, arg_nil, arg_cons0, arg_cons, evs_nil, evs_cons, evAnd_cons, evOr_cons, evAnd_nil, if_tt, if_ff, kBi1_some, kBi2_some, r_bi1, r_bi2, r_isi, kIsi_non, kIsi_bl, kIsi_int, kIsi_str, kIsi_tup, kIsi_lst, kIsi_wr, kIt1_some, kIdx_some, r_idx, kOI_i, oi_nil, oi_one, kSlc_some, r_slc, kRev_some, r_rev, kIts_some, kAs_some, r_asIt, items_lst, items_tup, items_wr, kRng_i, r_rng1, r_listRng, r_tupRng, kRng2_i, r_rng2, kZip_some, r_zip, kLz_some, r_listZip, kEn_lst, r_enum, kApp_lst, kIsL_lst, r_isL, r_app, kExt_lst, r_ext, kPop_lst, r_pop, kPopAt_lst, r_popAt, x_asg, kPut_no, kPut_sh, kPut_mu, r_put, st_mu, st_sh, st_slot, sts_nil, sts_cons, x_unp, x_par, evps_nil, evps_cons, settle_sh, settle_mu, settle_slot, x_ex, x_ite, x_for, x_wh, kRet_sh, kRet_mu, kRetP_slot, kRetP_sh, kRetP_mu, x_ret, x_raise, x_pass, kSeq_nx, kSeq_ret, xs_nil, xs_cons, r_setItem, kSI_lst, kSI_dct, x_setI, kAug_add, kAug_sub, kAugS_sh, x_aug, t_nm, t_tp, kTs_some, ts_nil, ts_cons, kDef_ret, kDef_nx, kDef_exc, brOnly_br, brOnly_no, brOnly_sh, brOnly_mu, lent1, lent2, lent3, lent4, lent5, ty_int_int, ty_bool_int, ty_int_bl, ty_bool_bl, ↓evAnd_one, ↓evOr_one, unwipe, wipe, bt_ok, bt_exc, bt_stuck, lift_some, liftE_some, calm_ok, b_and, b_or, b_andP, cmp_eq_i, cmp_ne_i, cmp_lt_i, cmp_le_i, cmp_gt_i, cmp_ge_i, cmp_is_non, cmp_isnot_non, cmp_is_b, cmp_isnot_b, bin_add_i, bin_sub_i, List.cons_append, List.nil_append, List.append_nil, List.replicate_succ, List.replicate_zero, Nat.reduceSub, Nat.reduceAdd, Nat.reduceLT, Nat.reduceLeDiff, Nat.zero_le, Nat.le_refl, if_true, ite_true, if_false, ite_false, ↓reduceIte, List.length_cons, List.length_nil, Option.isSome_some, ne_eq, not_true_eq_false, not_false_eq_true, eq_self, decide_true, decide_false, Bool.not_true, Bool.not_false, Bool.and_true, Bool.true_and, Bool.false_and, Bool.or_false, Bool.false_or, Bool.true_or, C, all_b, isi_tT, isi_tI, len_tI, len_tT, decide_true, h.i0, h.l0, d1, d2, d3, d4]
  simp
theorem need_jobs_sp (hn : 4 ≤ n) (h : Jobs k J) : run GA n i_need_jobs [.sh (tT J)] = .ret (.sh .non) [.no] := by
  obtain ⟨n, rfl⟩ : ∃ m, n = m + 1 := ⟨n - 1, by omega⟩
  rw [run_def rfl rfl]
  simp only [r_var, kVar_sh, kVar_mu, kVar_br, kVar_lk, r_look0, r_look1, r_set0, r_set1, cont_sh, cont_mu, cont_br, cont_lk, peek_slot, peek_sh, peek_mu, frz_slot, frz_sh, frz_mu, kFrz_sh, kFrz_mu, kO_some, r_frzR, r_cst, r_glb, r_tup, r_lst, r_dnew, kBin_some, r_bin, kRep_some, r_lrep, kNeg_i, r_neg, kB_b, r_asB, r_not, r_and, r_or, kCmpR_some, kCmp_some, r_cmp, kCh2_some, kCh_some, r_chain, r_ite, kOut_sh, kOut_mu, kOut_exc, kCall_some, r_call, lends_nil, lends_val, lends_len, lends_mov, kSl_some, kOw_some, sl_nil, sl_val, sl_mov, sl_len, r_own, kOwn_mu, kOwn_br, bk_nil, bk_val, bk_mov, kBk_some, bk_len, r_upd, kUpd_mu, kUpd_br, kLend_mu, kLend_br, arg_lend, arg_mov, kVal_some, arg_val, arg_nil, arg_cons0, arg_cons, evs_nil, evs_cons, evAnd_cons, evOr_cons, evAnd_nil, if_tt, if_ff, kBi1_some, kBi2_some, r_bi1, r_bi2, r_isi, kIsi_non, kIsi_bl, kIsi_int, kIsi_str, kIsi_tup, kIsi_lst, kIsi_wr, kIt1_some, kIdx_some, r_idx, kOI_i, oi_nil, oi_one, kSlc_some, r_slc, kRev_some, r_rev, kIts_some, kAs_some, r_asIt, items_lst, items_tup, items_wr, kRng_i, r_rng1, r_listRng, r_tupRng, kRng2_i, r_rng2, kZip_some, r_zip, kLz_some, r_listZip, kEn_lst, r_enum, kApp_lst, kIsL_lst, r_isL, r_app, kExt_lst, r_ext, kPop_lst, r_pop, kPopAt_lst, r_popAt, x_asg, kPut_no, kPut_sh, kPut_mu, r_put, st_mu, st_sh, st_slot, sts_nil, sts_cons, x_unp, x_par, evps_nil, evps_cons, settle_sh, settle_mu, settle_slot, x_ex, x_ite, x_for, x_wh, kRet_sh, kRet_mu, kRetP_slot, kRetP_sh, kRetP_mu, x_ret, x_raise, x_pass, kSeq_nx, kSeq_ret, xs_nil, xs_cons, r_setItem, kSI_lst, kSI_dct, x_setI, kAug_add, kAug_sub, kAugS_sh, x_aug, t_nm, t_tp, kTs_some, ts_nil, ts_cons, kDef_ret, kDef_nx, kDef_exc, brOnly_br, brOnly_no, brOnly_sh, brOnly_mu, lent1, lent2, lent3, lent4, lent5, ty_int_int, ty_bool_int, ty_int_bl, ty_bool_bl, ↓evAnd_one, ↓evOr_one, unwipe, wipe, bt_ok, bt_exc, bt_stuck, lift_some, liftE_some, calm_ok, b_and, b_or, b_andP, cmp_eq_i, cmp_ne_i, cmp_lt_i, cmp_le_i, cmp_gt_i, cmp_ge_i, cmp_is_non, cmp_isnot_non, cmp_is_b, cmp_isnot_b, bin_add_i, bin_sub_i, List.cons_append, List.nil_append, List.append_nil, List.replicate_succ, List.replicate_zero, Nat.reduceSub, Nat.reduceAdd, Nat.reduceLT, Nat.reduceLeDiff, Nat.zero_le, Nat.le_refl, if_true, ite_true, if_false, ite_false, ↓reduceIte, List.length_cons, List.length_nil, Option.isSome_some, ne_eq, not_true_eq_false, not_false_eq_true, eq_self, decide_true, decide_false, Bool.not_true, Bool.not_false, Bool.and_true, Bool.true_and, Bool.false_and, Bool.or_false, Bool.false_or, Bool.true_or, good_jobs_sp (show 3 ≤ n by omega) h]
theorem range_sorted : ∀ m : Nat, sortN (List.range m) = List.range m := fun m => sortN_of_sorted (by
  have := List.pairwise_lt_range (n := m)
  exact this.imp fun h => Nat.le_of_lt h)
theorem need_passing_sp (hn : 5 ≤ n) (h : Jobs k J) (ho : Order J o) : run GA n i_need_passing [.sh (tT J), .sh (tN o)] = .ret (.sh .non) [.no, .no] := by
  obtain ⟨n, rfl⟩ : ∃ m, n = m + 1 := ⟨n - 1, by omega⟩
  rw [run_def rfl rfl]
  have n8 := h.n8
  have hl := Order.len ho
  have C : ev (run GA n) q_need_passing_0 [.sh (tT J), .sh (tN o), .no] = _ := ev_comp1 (ys := o) (g := fun k => D.int (k : Nat)) (p := .slot 1) (fun x => D.bl true) (fun x => [.sh (tT J), .sh (tN o), .sh (.int (x : Nat))])
    (by simp only [r_var, kVar_sh, kVar_mu, kVar_br, kVar_lk, r_look0, r_look1, r_set0, r_set1, cont_sh, cont_mu, cont_br, cont_lk, peek_slot, peek_sh, peek_mu, frz_slot, frz_sh, frz_mu, kFrz_sh, kFrz_mu, kO_some, r_frzR, r_cst, r_glb, r_tup, r_lst, r_dnew, kBin_some, r_bin, kRep_some, r_lrep, kNeg_i, r_neg, kB_b, r_asB, r_not, r_and, r_or, kCmpR_some, kCmp_some, r_cmp, kCh2_some, kCh_some, r_chain, r_ite, kOut_sh, kOut_mu, kOut_exc, kCall_some, r_call, lends_nil, lends_val, lends_len, lends_mov, kSl_some, kOw_some, sl_nil, sl_val, sl_mov, sl_len, r_own, kOwn_mu, kOwn_br, bk_nil, bk_val, bk_mov, kBk_some, bk_len, r_upd, kUpd_mu, kUpd_br, kLend_mu, kLend_br, arg_lend, arg_mov, kVal_some, arg_val, arg_nil, arg_cons0, arg_cons, evs_nil, evs_cons, evAnd_cons, evOr_cons, evAnd_nil, if_tt, if_ff, kBi1_some, kBi2_some, r_bi1, r_bi2, r_isi, kIsi_non, kIsi_bl, kIsi_int, kIsi_str, kIsi_tup, kIsi_lst, kIsi_wr, kIt1_some, kIdx_some, r_idx, kOI_i, oi_nil, oi_one, kSlc_some, r_slc, kRev_some, r_rev, kIts_some, kAs_some, r_asIt, items_lst, items_tup, items_wr, kRng_i, r_rng1, r_listRng, r_tupRng, kRng2_i, r_rng2, kZip_some, r_zip, kLz_some, r_listZip, kEn_lst, r_enum, kApp_lst, kIsL_lst, r_isL, r_app, kExt_lst, r_ext, kPop_lst, r_pop, kPopAt_lst, r_popAt, x_asg, kPut_no, kPut_sh, kPut_mu, r_put, st_mu, st_sh, st_slot, sts_nil, sts_cons, x_unp, x_par, evps_nil, evps_cons, settle_sh, settle_mu, settle_slot, x_ex, x_ite, x_for, x_wh, kRet_sh, kRet_mu, kRetP_slot, kRetP_sh, kRetP_mu, x_ret, x_raise, x_pass, kSeq_nx, kSeq_ret, xs_nil, xs_cons, r_setItem, kSI_lst, kSI_dct, x_setI, kAug_add, kAug_sub, kAugS_sh, x_aug, t_nm, t_tp, kTs_some, ts_nil, ts_cons, kDef_ret, kDef_nx, kDef_exc, brOnly_br, brOnly_no, brOnly_sh, brOnly_mu, lent1, lent2, lent3, lent4, lent5, ty_int_int, ty_bool_int, ty_int_bl, ty_bool_bl, ↓evAnd_one, ↓evOr_one, unwipe, wipe, bt_ok, bt_exc, bt_stuck, lift_some, liftE_some, calm_ok, b_and, b_or, b_andP, cmp_eq_i, cmp_ne_i, cmp_lt_i, cmp_le_i, cmp_gt_i, cmp_ge_i, cmp_is_non, cmp_isnot_non, cmp_is_b, cmp_isnot_b, bin_add_i, bin_sub_i, List.cons_append, List.nil_append, List.append_nil, List.replicate_succ, List.replicate_zero, Nat.reduceSub, Nat.reduceAdd, Nat.reduceLT, Nat.reduceLeDiff, Nat.zero_le, Nat.le_refl, if_true, ite_true, if_false, ite_false, ↓reduceIte, List.length_cons, List.length_nil, Option.isSome_some, ne_eq, not_true_eq_false, not_false_eq_true, eq_self, decide_true, decide_false, Bool.not_true, Bool.not_false, Bool.and_true, Bool.true_and, Bool.false_and, Bool.or_false, Bool.false_or, Bool.true_or, items_tN]) (by rw [lim_eq]; omega) rfl rfl rfl (fun x hx => ⟨rfl, fun acc => (by
      have h1 := Order.lt ho hx
      have h3 : (decide ((0:Int) ≤ (x : Int)) && decide ((x : Int) ≤ (J.length : Int) - 1)) = true := by simp; omega
      simp only [r_var, kVar_sh, kVar_mu, kVar_br, kVar_lk, r_look0, r_look1, r_set0, r_set1, cont_sh, cont_mu, cont_br, cont_lk, peek_slot, peek_sh, peek_mu, frz_slot, frz_sh, frz_mu, kFrz_sh, kFrz_mu, kO_some, r_frzR, r_cst, r_glb, r_tup, r_lst, r_dnew, kBin_some, r_bin, kRep_some, r_lrep, kNeg_i, r_neg, kB_b, r_asB, r_not, r_and, r_or, kCmpR_some, kCmp_some, r_cmp, kCh2_some, kCh_some, r_chain, r_ite, kOut_sh, kOut_mu, kOut_exc, kCall_some, r_call, lends_nil, lends_val, lends_len, lends_mov, kSl_some, kOw_some, sl_nil, sl_val, sl_mov, sl_len, r_own, kOwn_mu, kOwn_br, bk_nil, bk_val, bk_mov, kBk_some, bk_len, r_upd, kUpd_mu, kUpd_br, kLend_mu, kLend_br, arg_lend, arg_mov, kVal_some, arg_val, arg_nil, arg_cons0, arg_cons, evs_nil, evs_cons, evAnd_cons, evOr_cons, evAnd_nil, if_tt, if_ff, kBi1_some, kBi2_some, r_bi1, r_bi2, r_isi, kIsi_non, kIsi_bl, kIsi_int, kIsi_str, kIsi_tup, kIsi_lst, kIsi_wr, kIt1_some, kIdx_some, r_idx, kOI_i, oi_nil, oi_one, kSlc_some, r_slc, kRev_some, r_rev, kIts_some, kAs_some, r_asIt, items_lst, items_tup, items_wr, kRng_i, r_rng1, r_listRng, r_tupRng, kRng2_i, r_rng2, kZip_some, r_zip, kLz_some, r_listZip, kEn_lst, r_enum, kApp_lst, kIsL_lst, r_isL, r_app, kExt_lst, r_ext, kPop_lst, r_pop, kPopAt_lst, r_popAt, x_asg, kPut_no, kPut_sh, kPut_mu, r_put, st_mu, st_sh, st_slot, sts_nil, sts_cons, x_unp, x_par, evps_nil, evps_cons, settle_sh, settle_mu, settle_slot, x_ex, x_ite, x_for, x_wh, kRet_sh, kRet_mu, kRetP_slot, kRetP_sh, kRetP_mu, x_ret, x_raise, x_pass, kSeq_nx, kSeq_ret, xs_nil, xs_cons, r_setItem, kSI_lst, kSI_dct, x_setI, kAug_add, kAug_sub, kAugS_sh, x_aug, t_nm, t_tp, kTs_some, ts_nil, ts_cons, kDef_ret, kDef_nx, kDef_exc, brOnly_br, brOnly_no, brOnly_sh, brOnly_mu, lent1, lent2, lent3, lent4, lent5, ty_int_int, ty_bool_int, ty_int_bl, ty_bool_bl, ↓evAnd_one, ↓evOr_one, unwipe, wipe, bt_ok, bt_exc, bt_stuck, lift_some, liftE_some, calm_ok, b_and, b_or, b_andP, cmp_eq_i, cmp_ne_i, cmp_lt_i, cmp_le_i, cmp_gt_i, cmp_ge_i, cmp_is_non, cmp_isnot_non, cmp_is_b, cmp_isnot_b, bin_add_i, bin_sub_i, List.cons_append, List.nil_append, List.append_nil, List.replicate_succ, List.replicate_zero, Nat.reduceSub, Nat.reduceAdd, Nat.reduceLT, Nat.reduceLeDiff, Nat.zero_le, Nat.le_refl, if_true, ite_true, if_false, ite_false, ↓reduceIte, List.length_cons, List.length_nil, Option.isSome_some, ne_eq, not_true_eq_false, not_false_eq_true, eq_self, decide_true, decide_false, Bool.not_true, Bool.not_false, Bool.and_true, Bool.true_and, Bool.false_and, Bool.or_false, Bool.false_or, Bool.true_or, len_tT, is_whole_sp (show 1 ≤ n by omega), h3]), rfl, rfl, rfl⟩) rfl
  have r1 : ∀ ρ, kRng (fun n => .mu (.lst (range 0 n))) (some (.int (J.length : Nat))) ρ = .ok (.mu (.lst ((List.range J.length).map (fun k : Nat => D.int k)))) ρ := fun ρ => by
    have := lrng_i (n := (J.length : Nat)) (ρ := ρ) (by rw [lim_eq]; omega) (by rw [lim_eq]; omega)
    simpa using this
  have es : sortN o = List.range J.length := by rw [sortN_congr ho, range_sorted]
  have ec : ((List.map (fun x => true) o).all id) = true := by simp
  have ea : (o.all fun x => true) = true := by simp
  have en : cmpop .ne (.lst ((List.range J.length).map (fun k : Nat => D.int k))) (.lst ((List.range J.length).map (fun k : Nat => D.int k))) = some false := by
    have := cmp_ne_enc enc_nat.lst (by omega) (List.range J.length) (List.range J.length)
    simpa using this
  simp only [r_var, kVar_sh, kVar_mu, kVar_br, kVar_lk, r_look0, r_look1, r_set0, r_set1, cont_sh, cont_mu, cont_br, cont_lk, peek_slot, peek_sh, peek_mu, frz_slot, frz_sh, frz_mu, kFrz_sh, kFrz_mu, kO_some, r_frzR, r_cst, r_glb, r_tup, r_lst, r_dnew, kBin_some, r_bin, kRep_some, r_lrep, kNeg_i, r_neg, kB_b, r_asB, r_not, r_and, r_or, kCmpR_some, kCmp_some, r_cmp, kCh2_some, kCh_some, r_chain, r_ite, kOut_sh, kOut_mu, kOut_exc, kCall_some, r_call, lends_nil, lends_val, lends_len, lends_mov, kSl_some, kOw_some, sl_nil, sl_val, sl_mov, sl_len, r_own, kOwn_mu, kOwn_br, bk_nil, bk_val, bk_mov, kBk_some, bk_len, r_upd, kUpd_mu, kUpd_br, kLend_mu, kLend_br, arg_lend, arg_mov, kVal_some, arg_val, arg_nil, arg_cons0, arg_cons, evs_nil, evs_cons, evAnd_cons, evOr_cons, evAnd_nil, if_tt, if_ff, kBi1_some, kBi2_some, r_bi1, r_bi2, r_isi, kIsi_non, kIsi_bl, kIsi_int, kIsi_str, kIsi_tup, kIsi_lst, kIsi_wr, kIt1_some, kIdx_some, r_idx, kOI_i, oi_nil, oi_one, kSlc_some, r_slc, kRev_some, r_rev, kIts_some, kAs_some, r_asIt, items_lst, items_tup, items_wr, kRng_i, r_rng1, r_listRng, r_tupRng, kRng2_i, r_rng2, kZip_some, r_zip, kLz_some, r_listZip, kEn_lst, r_enum, kApp_lst, kIsL_lst, r_isL, r_app, kExt_lst, r_ext, kPop_lst, r_pop, kPopAt_lst, r_popAt, x_asg, kPut_no, kPut_sh, kPut_mu, r_put, st_mu, st_sh, st_slot, sts_nil, sts_cons, x_unp, x_par, evps_nil, evps_cons, settle_sh, settle_mu, settle_slot, x_ex, x_ite, x_for, x_wh, kRet_sh, kRet_mu, kRetP_slot, kRetP_sh, kRetP_mu, x_ret, x_raise, x_pass, kSeq_nx, kSeq_ret, xs_nil, xs_cons, r_setItem, kSI_lst, kSI_dct, x_setI, kAug_add, kAug_sub, kAugS_sh, x_aug, t_nm, t_tp, kTs_some, ts_nil, ts_cons, kDef_ret, kDef_nx, kDef_exc, brOnly_br, brOnly_no, brOnly_sh, brOnly_mu, lent1, lent2, lent3, lent4, lent5, ty_int_int, ty_bool_int, ty_int_bl, ty_bool_bl, ↓evAnd_one, ↓evOr_one, unwipe, wipe, bt_ok, bt_exc, bt_stuck, lift_some, liftE_some, calm_ok, b_and, b_or, b_andP, cmp_eq_i, cmp_ne_i, cmp_lt_i, cmp_le_i, cmp_gt_i, cmp_ge_i, cmp_is_non, cmp_isnot_non, cmp_is_b, cmp_isnot_b, bin_add_i, bin_sub_i, List.cons_append, List.nil_append, List.append_nil, List.replicate_succ, List.replicate_zero, Nat.reduceSub, Nat.reduceAdd, Nat.reduceLT, Nat.reduceLeDiff, Nat.zero_le, Nat.le_refl, if_true, ite_true, if_false, ite_false, ↓reduceIte, List.length_cons, List.length_nil, Option.isSome_some, ne_eq, not_true_eq_false, not_false_eq_true, eq_self, decide_true, decide_false, Bool.not_true, Bool.not_false, Bool.and_true, Bool.true_and, Bool.false_and, Bool.or_false, Bool.false_or, Bool.true_or, need_jobs_sp (show 4 ≤ n by omega) h, C, all_b, isi_tN, len_tN, len_tT, decide_true, sorted_tN, es, r1, en, ea]
theorem zip_same (a b : List Int) : zipD (tI a) (tI b) = some ((a.zip b).map fun p : Int × Int => .tup [.int p.1, .int p.2]) := zip_II a b
theorem ends_of_sp (hn : 1 ≤ n) (h : Jobs k J) (hr : ∀ i ∈ o, i < J.length) (hl : o.length ≤ 1000) : run GA n i_ends_of [.sh (tT J), .sh (tN o)] = .ret (.mu (lT (endsV J (zeros k) o))) [.no, .no] := by
  obtain ⟨n, rfl⟩ : ∃ m, n = m + 1 := ⟨n - 1, by omega⟩
  rw [run_def rfl rfl]
  have k4 := h.k4
  let E : List Nat → Slot → Slot → Slot → Slot → Slot → Env := fun d a b c e f => [.sh (tT J), .sh (tN o), .mu (lT (endsV J (zeros k) d)), .sh (tI (lastE J (zeros k) d)), a, b, c, e, f]
  obtain ⟨ρ', e1, v4, v5, v6, v7, v8, rfl, _⟩ := forD_nx (t := .nm 4) (b := exes (run GA n) b_ends_of_1) (g := (fun k : Nat => D.int k)) (ys := o) (ρ := E [] .no .no .no .no .no)
    (fun d ρ => ∃ v4 v5 v6 v7 v8, ρ = E d v4 v5 v6 v7 v8 ∧ ((v4 = .no ∧ v5 = .no ∧ v6 = .no) ∨ ∃ a b c, v4 = .sh a ∧ v5 = .sh b ∧ v6 = .mu c) ∧ ((v7 = .no ∧ v8 = .no) ∨ ∃ a b, v7 = .sh a ∧ v8 = .sh b)) ⟨_, _, _, _, _, rfl, .inl ⟨rfl, rfl, rfl⟩, .inl ⟨rfl, rfl⟩⟩ (fun d x rest ρ e ⟨v4, v5, v6, v7, v8, e2, h1, h2⟩ => by
      subst e2
      have hd : ∀ i ∈ d, i < J.length := fun i hi => hr i (by rw [← e]; simp [hi])
      have hx : x < J.length := hr x (by rw [← e]; simp)
      have hle := lastE_len h (zeros_len k) d hd
      have hxl := (h.at hx).1
      have hdl : d.length ≤ 1000 := by have := congrArg List.length e; simp at this; omega
      let F := lastE J (zeros k) d
      let p := J.getD x []
      obtain ⟨ρ2, e3, w7, w8, rfl, h3⟩ := forD_nx (t := .tp [.nm 7, .nm 8]) (b := exes (run GA n) b_ends_of_0) (g := fun q : Int × Int => D.tup [.int q.1, .int q.2]) (ys := p.zip F) (ρ := E d (.sh (.int (x : Nat))) (.sh (.int 0)) (.mu (.lst [])) v7 v8)
        (fun c ρ => ∃ v7 v8, ρ = E d (.sh (.int (x : Nat))) (.sh (.int (endH 0 c))) (.mu (.lst ((endR 0 c).map D.int))) v7 v8 ∧ ((v7 = .no ∧ v8 = .no) ∨ ∃ a b, v7 = .sh a ∧ v8 = .sh b)) ⟨_, _, rfl, h2⟩ (fun c q rest ρ e ⟨v7, v8, e2, h2⟩ => by
          subst e2
          have hz : (p.zip F).length ≤ k := by rw [List.length_zip]; show min (J.getD x []).length _ ≤ k; omega
          have hcl : c.length ≤ 1000 := by have := congrArg List.length e; rw [List.length_append] at this; omega
          refine ⟨E d (.sh (.int (x : Nat))) (.sh (.int (endH 0 c))) (.mu (.lst ((endR 0 c).map D.int))) (.sh (.int q.1)) (.sh (.int q.2)), ?_, E d (.sh (.int (x : Nat))) (.sh (.int (endH 0 (c ++ [q])))) (.mu (.lst ((endR 0 (c ++ [q])).map D.int))) (.sh (.int q.1)) (.sh (.int q.2)), ?_, _, _, rfl, .inr ⟨_, _, rfl, rfl⟩⟩
          · rcases h2 with ⟨rfl, rfl⟩ | ⟨a, b, rfl, rfl⟩ <;> simp only [E, r_var, kVar_sh, kVar_mu, kVar_br, kVar_lk, r_look0, r_look1, r_set0, r_set1, cont_sh, cont_mu, cont_br, cont_lk, peek_slot, peek_sh, peek_mu, frz_slot, frz_sh, frz_mu, kFrz_sh, kFrz_mu, kO_some, r_frzR, r_cst, r_glb, r_tup, r_lst, r_dnew, kBin_some, r_bin, kRep_some, r_lrep, kNeg_i, r_neg, kB_b, r_asB, r_not, r_and, r_or, kCmpR_some, kCmp_some, r_cmp, kCh2_some, kCh_some, r_chain, r_ite, kOut_sh, kOut_mu, kOut_exc, kCall_some, r_call, lends_nil, lends_val, lends_len, lends_mov, kSl_some, kOw_some, sl_nil, sl_val, sl_mov, sl_len, r_own, kOwn_mu, kOwn_br, bk_nil, bk_val, bk_mov, kBk_some, bk_len, r_upd, kUpd_mu, kUpd_br, kLend_mu, kLend_br, arg_lend, arg_mov, kVal_some, arg_val, arg_nil, arg_cons0, arg_cons, evs_nil, evs_cons, evAnd_cons, evOr_cons, evAnd_nil, if_tt, if_ff, kBi1_some, kBi2_some, r_bi1, r_bi2, r_isi, kIsi_non, kIsi_bl, kIsi_int, kIsi_str, kIsi_tup, kIsi_lst, kIsi_wr, kIt1_some, kIdx_some, r_idx, kOI_i, oi_nil, oi_one, kSlc_some, r_slc, kRev_some, r_rev, kIts_some, kAs_some, r_asIt, items_lst, items_tup, items_wr, kRng_i, r_rng1, r_listRng, r_tupRng, kRng2_i, r_rng2, kZip_some, r_zip, kLz_some, r_listZip, kEn_lst, r_enum, kApp_lst, kIsL_lst, r_isL, r_app, kExt_lst, r_ext, kPop_lst, r_pop, kPopAt_lst, r_popAt, x_asg, kPut_no, kPut_sh, kPut_mu, r_put, st_mu, st_sh, st_slot, sts_nil, sts_cons, x_unp, x_par, evps_nil, evps_cons, settle_sh, settle_mu, settle_slot, x_ex, x_ite, x_for, x_wh, kRet_sh, kRet_mu, kRetP_slot, kRetP_sh, kRetP_mu, x_ret, x_raise, x_pass, kSeq_nx, kSeq_ret, xs_nil, xs_cons, r_setItem, kSI_lst, kSI_dct, x_setI, kAug_add, kAug_sub, kAugS_sh, x_aug, t_nm, t_tp, kTs_some, ts_nil, ts_cons, kDef_ret, kDef_nx, kDef_exc, brOnly_br, brOnly_no, brOnly_sh, brOnly_mu, lent1, lent2, lent3, lent4, lent5, ty_int_int, ty_bool_int, ty_int_bl, ty_bool_bl, ↓evAnd_one, ↓evOr_one, unwipe, wipe, bt_ok, bt_exc, bt_stuck, lift_some, liftE_some, calm_ok, b_and, b_or, b_andP, cmp_eq_i, cmp_ne_i, cmp_lt_i, cmp_le_i, cmp_gt_i, cmp_ge_i, cmp_is_non, cmp_isnot_non, cmp_is_b, cmp_isnot_b, bin_add_i, bin_sub_i, List.cons_append, List.nil_append, List.append_nil, List.replicate_succ, List.replicate_zero, Nat.reduceSub, Nat.reduceAdd, Nat.reduceLT, Nat.reduceLeDiff, Nat.zero_le, Nat.le_refl, if_true, ite_true, if_false, ite_false, ↓reduceIte, List.length_cons, List.length_nil, Option.isSome_some, ne_eq, not_true_eq_false, not_false_eq_true, eq_self, decide_true, decide_false, Bool.not_true, Bool.not_false, Bool.and_true, Bool.true_and, Bool.false_and, Bool.or_false, Bool.false_or, Bool.true_or]
          · simp only [b_ends_of_0, E, r_var, kVar_sh, kVar_mu, kVar_br, kVar_lk, r_look0, r_look1, r_set0, r_set1, cont_sh, cont_mu, cont_br, cont_lk, peek_slot, peek_sh, peek_mu, frz_slot, frz_sh, frz_mu, kFrz_sh, kFrz_mu, kO_some, r_frzR, r_cst, r_glb, r_tup, r_lst, r_dnew, kBin_some, r_bin, kRep_some, r_lrep, kNeg_i, r_neg, kB_b, r_asB, r_not, r_and, r_or, kCmpR_some, kCmp_some, r_cmp, kCh2_some, kCh_some, r_chain, r_ite, kOut_sh, kOut_mu, kOut_exc, kCall_some, r_call, lends_nil, lends_val, lends_len, lends_mov, kSl_some, kOw_some, sl_nil, sl_val, sl_mov, sl_len, r_own, kOwn_mu, kOwn_br, bk_nil, bk_val, bk_mov, kBk_some, bk_len, r_upd, kUpd_mu, kUpd_br, kLend_mu, kLend_br, arg_lend, arg_mov, kVal_some, arg_val, arg_nil, arg_cons0, arg_cons, evs_nil, evs_cons, evAnd_cons, evOr_cons, evAnd_nil, if_tt, if_ff, kBi1_some, kBi2_some, r_bi1, r_bi2, r_isi, kIsi_non, kIsi_bl, kIsi_int, kIsi_str, kIsi_tup, kIsi_lst, kIsi_wr, kIt1_some, kIdx_some, r_idx, kOI_i, oi_nil, oi_one, kSlc_some, r_slc, kRev_some, r_rev, kIts_some, kAs_some, r_asIt, items_lst, items_tup, items_wr, kRng_i, r_rng1, r_listRng, r_tupRng, kRng2_i, r_rng2, kZip_some, r_zip, kLz_some, r_listZip, kEn_lst, r_enum, kApp_lst, kIsL_lst, r_isL, r_app, kExt_lst, r_ext, kPop_lst, r_pop, kPopAt_lst, r_popAt, x_asg, kPut_no, kPut_sh, kPut_mu, r_put, st_mu, st_sh, st_slot, sts_nil, sts_cons, x_unp, x_par, evps_nil, evps_cons, settle_sh, settle_mu, settle_slot, x_ex, x_ite, x_for, x_wh, kRet_sh, kRet_mu, kRetP_slot, kRetP_sh, kRetP_mu, x_ret, x_raise, x_pass, kSeq_nx, kSeq_ret, xs_nil, xs_cons, r_setItem, kSI_lst, kSI_dct, x_setI, kAug_add, kAug_sub, kAugS_sh, x_aug, t_nm, t_tp, kTs_some, ts_nil, ts_cons, kDef_ret, kDef_nx, kDef_exc, brOnly_br, brOnly_no, brOnly_sh, brOnly_mu, lent1, lent2, lent3, lent4, lent5, ty_int_int, ty_bool_int, ty_int_bl, ty_bool_bl, ↓evAnd_one, ↓evOr_one, unwipe, wipe, bt_ok, bt_exc, bt_stuck, lift_some, liftE_some, calm_ok, b_and, b_or, b_andP, cmp_eq_i, cmp_ne_i, cmp_lt_i, cmp_le_i, cmp_gt_i, cmp_ge_i, cmp_is_non, cmp_isnot_non, cmp_is_b, cmp_isnot_b, bin_add_i, bin_sub_i, List.cons_append, List.nil_append, List.append_nil, List.replicate_succ, List.replicate_zero, Nat.reduceSub, Nat.reduceAdd, Nat.reduceLT, Nat.reduceLeDiff, Nat.zero_le, Nat.le_refl, if_true, ite_true, if_false, ite_false, ↓reduceIte, List.length_cons, List.length_nil, Option.isSome_some, ne_eq, not_true_eq_false, not_false_eq_true, eq_self, decide_true, decide_false, Bool.not_true, Bool.not_false, Bool.and_true, Bool.true_and, Bool.false_and, Bool.or_false, Bool.false_or, Bool.true_or, max2_max]
            rw [kApp_lst (by rw [List.length_map, endR_len, lim_eq]; omega)]
            simp only [r_var, kVar_sh, kVar_mu, kVar_br, kVar_lk, r_look0, r_look1, r_set0, r_set1, cont_sh, cont_mu, cont_br, cont_lk, peek_slot, peek_sh, peek_mu, frz_slot, frz_sh, frz_mu, kFrz_sh, kFrz_mu, kO_some, r_frzR, r_cst, r_glb, r_tup, r_lst, r_dnew, kBin_some, r_bin, kRep_some, r_lrep, kNeg_i, r_neg, kB_b, r_asB, r_not, r_and, r_or, kCmpR_some, kCmp_some, r_cmp, kCh2_some, kCh_some, r_chain, r_ite, kOut_sh, kOut_mu, kOut_exc, kCall_some, r_call, lends_nil, lends_val, lends_len, lends_mov, kSl_some, kOw_some, sl_nil, sl_val, sl_mov, sl_len, r_own, kOwn_mu, kOwn_br, bk_nil, bk_val, bk_mov, kBk_some, bk_len, r_upd, kUpd_mu, kUpd_br, kLend_mu, kLend_br, arg_lend, arg_mov, kVal_some, arg_val, arg_nil, arg_cons0, arg_cons, evs_nil, evs_cons, evAnd_cons, evOr_cons, evAnd_nil, if_tt, if_ff, kBi1_some, kBi2_some, r_bi1, r_bi2, r_isi, kIsi_non, kIsi_bl, kIsi_int, kIsi_str, kIsi_tup, kIsi_lst, kIsi_wr, kIt1_some, kIdx_some, r_idx, kOI_i, oi_nil, oi_one, kSlc_some, r_slc, kRev_some, r_rev, kIts_some, kAs_some, r_asIt, items_lst, items_tup, items_wr, kRng_i, r_rng1, r_listRng, r_tupRng, kRng2_i, r_rng2, kZip_some, r_zip, kLz_some, r_listZip, kEn_lst, r_enum, kApp_lst, kIsL_lst, r_isL, r_app, kExt_lst, r_ext, kPop_lst, r_pop, kPopAt_lst, r_popAt, x_asg, kPut_no, kPut_sh, kPut_mu, r_put, st_mu, st_sh, st_slot, sts_nil, sts_cons, x_unp, x_par, evps_nil, evps_cons, settle_sh, settle_mu, settle_slot, x_ex, x_ite, x_for, x_wh, kRet_sh, kRet_mu, kRetP_slot, kRetP_sh, kRetP_mu, x_ret, x_raise, x_pass, kSeq_nx, kSeq_ret, xs_nil, xs_cons, r_setItem, kSI_lst, kSI_dct, x_setI, kAug_add, kAug_sub, kAugS_sh, x_aug, t_nm, t_tp, kTs_some, ts_nil, ts_cons, kDef_ret, kDef_nx, kDef_exc, brOnly_br, brOnly_no, brOnly_sh, brOnly_mu, lent1, lent2, lent3, lent4, lent5, ty_int_int, ty_bool_int, ty_int_bl, ty_bool_bl, ↓evAnd_one, ↓evOr_one, unwipe, wipe, bt_ok, bt_exc, bt_stuck, lift_some, liftE_some, calm_ok, b_and, b_or, b_andP, cmp_eq_i, cmp_ne_i, cmp_lt_i, cmp_le_i, cmp_gt_i, cmp_ge_i, cmp_is_non, cmp_isnot_non, cmp_is_b, cmp_isnot_b, bin_add_i, bin_sub_i, List.cons_append, List.nil_append, List.append_nil, List.replicate_succ, List.replicate_zero, Nat.reduceSub, Nat.reduceAdd, Nat.reduceLT, Nat.reduceLeDiff, Nat.zero_le, Nat.le_refl, if_true, ite_true, if_false, ite_false, ↓reduceIte, List.length_cons, List.length_nil, Option.isSome_some, ne_eq, not_true_eq_false, not_false_eq_true, eq_self, decide_true, decide_false, Bool.not_true, Bool.not_false, Bool.and_true, Bool.true_and, Bool.false_and, Bool.or_false, Bool.false_or, Bool.true_or, endR_snoc, endH_snoc, List.map_append, List.map_cons, List.map_nil])
      refine ⟨E d (.sh (.int (x : Nat))) v5 v6 v7 v8, ?_, E (d ++ [x]) (.sh (.int (x : Nat))) (.sh (.int (endH 0 (p.zip F)))) (.mu (.lst ((endR 0 (p.zip F)).map D.int))) w7 w8, ?_, _, _, _, _, _, rfl, .inr ⟨_, _, _, rfl, rfl, rfl⟩, h3⟩
      · rcases h1 with ⟨rfl, rfl, rfl⟩ | ⟨a, b, c, rfl, rfl, rfl⟩ <;> simp only [E, r_var, kVar_sh, kVar_mu, kVar_br, kVar_lk, r_look0, r_look1, r_set0, r_set1, cont_sh, cont_mu, cont_br, cont_lk, peek_slot, peek_sh, peek_mu, frz_slot, frz_sh, frz_mu, kFrz_sh, kFrz_mu, kO_some, r_frzR, r_cst, r_glb, r_tup, r_lst, r_dnew, kBin_some, r_bin, kRep_some, r_lrep, kNeg_i, r_neg, kB_b, r_asB, r_not, r_and, r_or, kCmpR_some, kCmp_some, r_cmp, kCh2_some, kCh_some, r_chain, r_ite, kOut_sh, kOut_mu, kOut_exc, kCall_some, r_call, lends_nil, lends_val, lends_len, lends_mov, kSl_some, kOw_some, sl_nil, sl_val, sl_mov, sl_len, r_own, kOwn_mu, kOwn_br, bk_nil, bk_val, bk_mov, kBk_some, bk_len, r_upd, kUpd_mu, kUpd_br, kLend_mu, kLend_br, arg_lend, arg_mov, kVal_some, arg_val, arg_nil, arg_cons0, arg_cons, evs_nil, evs_cons, evAnd_cons, evOr_cons, evAnd_nil, if_tt, if_ff, kBi1_some, kBi2_some, r_bi1, r_bi2, r_isi, kIsi_non, kIsi_bl, kIsi_int, kIsi_str, kIsi_tup, kIsi_lst, kIsi_wr, kIt1_some, kIdx_some, r_idx, kOI_i, oi_nil, oi_one, kSlc_some, r_slc, kRev_some, r_rev, kIts_some, kAs_some, r_asIt, items_lst, items_tup, items_wr, kRng_i, r_rng1, r_listRng, r_tupRng, kRng2_i, r_rng2, kZip_some, r_zip, kLz_some, r_listZip, kEn_lst, r_enum, kApp_lst, kIsL_lst, r_isL, r_app, kExt_lst, r_ext, kPop_lst, r_pop, kPopAt_lst, r_popAt, x_asg, kPut_no, kPut_sh, kPut_mu, r_put, st_mu, st_sh, st_slot, sts_nil, sts_cons, x_unp, x_par, evps_nil, evps_cons, settle_sh, settle_mu, settle_slot, x_ex, x_ite, x_for, x_wh, kRet_sh, kRet_mu, kRetP_slot, kRetP_sh, kRetP_mu, x_ret, x_raise, x_pass, kSeq_nx, kSeq_ret, xs_nil, xs_cons, r_setItem, kSI_lst, kSI_dct, x_setI, kAug_add, kAug_sub, kAugS_sh, x_aug, t_nm, t_tp, kTs_some, ts_nil, ts_cons, kDef_ret, kDef_nx, kDef_exc, brOnly_br, brOnly_no, brOnly_sh, brOnly_mu, lent1, lent2, lent3, lent4, lent5, ty_int_int, ty_bool_int, ty_int_bl, ty_bool_bl, ↓evAnd_one, ↓evOr_one, unwipe, wipe, bt_ok, bt_exc, bt_stuck, lift_some, liftE_some, calm_ok, b_and, b_or, b_andP, cmp_eq_i, cmp_ne_i, cmp_lt_i, cmp_le_i, cmp_gt_i, cmp_ge_i, cmp_is_non, cmp_isnot_non, cmp_is_b, cmp_isnot_b, bin_add_i, bin_sub_i, List.cons_append, List.nil_append, List.append_nil, List.replicate_succ, List.replicate_zero, Nat.reduceSub, Nat.reduceAdd, Nat.reduceLT, Nat.reduceLeDiff, Nat.zero_le, Nat.le_refl, if_true, ite_true, if_false, ite_false, ↓reduceIte, List.length_cons, List.length_nil, Option.isSome_some, ne_eq, not_true_eq_false, not_false_eq_true, eq_self, decide_true, decide_false, Bool.not_true, Bool.not_false, Bool.and_true, Bool.true_and, Bool.false_and, Bool.or_false, Bool.false_or, Bool.true_or]
      · have ez : (p.zip F) = ((J.getD x []).zip (lastE J (zeros k) d)) := rfl
        simp only [E, ez] at e3
        rcases h1 with ⟨rfl, rfl, rfl⟩ | ⟨a, b, c, rfl, rfl, rfl⟩ <;>
        · simp only [b_ends_of_1, E, r_var, kVar_sh, kVar_mu, kVar_br, kVar_lk, r_look0, r_look1, r_set0, r_set1, cont_sh, cont_mu, cont_br, cont_lk, peek_slot, peek_sh, peek_mu, frz_slot, frz_sh, frz_mu, kFrz_sh, kFrz_mu, kO_some, r_frzR, r_cst, r_glb, r_tup, r_lst, r_dnew, kBin_some, r_bin, kRep_some, r_lrep, kNeg_i, r_neg, kB_b, r_asB, r_not, r_and, r_or, kCmpR_some, kCmp_some, r_cmp, kCh2_some, kCh_some, r_chain, r_ite, kOut_sh, kOut_mu, kOut_exc, kCall_some, r_call, lends_nil, lends_val, lends_len, lends_mov, kSl_some, kOw_some, sl_nil, sl_val, sl_mov, sl_len, r_own, kOwn_mu, kOwn_br, bk_nil, bk_val, bk_mov, kBk_some, bk_len, r_upd, kUpd_mu, kUpd_br, kLend_mu, kLend_br, arg_lend, arg_mov, kVal_some, arg_val, arg_nil, arg_cons0, arg_cons, evs_nil, evs_cons, evAnd_cons, evOr_cons, evAnd_nil, if_tt, if_ff, kBi1_some, kBi2_some, r_bi1, r_bi2, r_isi, kIsi_non, kIsi_bl, kIsi_int, kIsi_str, kIsi_tup, kIsi_lst, kIsi_wr, kIt1_some, kIdx_some, r_idx, kOI_i, oi_nil, oi_one, kSlc_some, r_slc, kRev_some, r_rev, kIts_some, kAs_some, r_asIt, items_lst, items_tup, items_wr, kRng_i, r_rng1, r_listRng, r_tupRng, kRng2_i, r_rng2, kZip_some, r_zip, kLz_some, r_listZip, kEn_lst, r_enum, kApp_lst, kIsL_lst, r_isL, r_app, kExt_lst, r_ext, kPop_lst, r_pop, kPopAt_lst, r_popAt, x_asg, kPut_no, kPut_sh, kPut_mu, r_put, st_mu, st_sh, st_slot, sts_nil, sts_cons, x_unp, x_par, evps_nil, evps_cons, settle_sh, settle_mu, settle_slot, x_ex, x_ite, x_for, x_wh, kRet_sh, kRet_mu, kRetP_slot, kRetP_sh, kRetP_mu, x_ret, x_raise, x_pass, kSeq_nx, kSeq_ret, xs_nil, xs_cons, r_setItem, kSI_lst, kSI_dct, x_setI, kAug_add, kAug_sub, kAugS_sh, x_aug, t_nm, t_tp, kTs_some, ts_nil, ts_cons, kDef_ret, kDef_nx, kDef_exc, brOnly_br, brOnly_no, brOnly_sh, brOnly_mu, lent1, lent2, lent3, lent4, lent5, ty_int_int, ty_bool_int, ty_int_bl, ty_bool_bl, ↓evAnd_one, ↓evOr_one, unwipe, wipe, bt_ok, bt_exc, bt_stuck, lift_some, liftE_some, calm_ok, b_and, b_or, b_andP, cmp_eq_i, cmp_ne_i, cmp_lt_i, cmp_le_i, cmp_gt_i, cmp_ge_i, cmp_is_non, cmp_isnot_non, cmp_is_b, cmp_isnot_b, bin_add_i, bin_sub_i, List.cons_append, List.nil_append, List.append_nil, List.replicate_succ, List.replicate_zero, Nat.reduceSub, Nat.reduceAdd, Nat.reduceLT, Nat.reduceLeDiff, Nat.zero_le, Nat.le_refl, if_true, ite_true, if_false, ite_false, ↓reduceIte, List.length_cons, List.length_nil, Option.isSome_some, ne_eq, not_true_eq_false, not_false_eq_true, eq_self, decide_true, decide_false, Bool.not_true, Bool.not_false, Bool.and_true, Bool.true_and, Bool.false_and, Bool.or_false, Bool.false_or, Bool.true_or, item_tT (L := J) (i := (x : Nat)) (by omega) (by omega), Int.toNat_natCast, zip_same, e3, tuple_tI, isL_lT]
          rw [kApp_lT (by rw [endsV_len, lim_eq]; omega)]
          simp only [r_var, kVar_sh, kVar_mu, kVar_br, kVar_lk, r_look0, r_look1, r_set0, r_set1, cont_sh, cont_mu, cont_br, cont_lk, peek_slot, peek_sh, peek_mu, frz_slot, frz_sh, frz_mu, kFrz_sh, kFrz_mu, kO_some, r_frzR, r_cst, r_glb, r_tup, r_lst, r_dnew, kBin_some, r_bin, kRep_some, r_lrep, kNeg_i, r_neg, kB_b, r_asB, r_not, r_and, r_or, kCmpR_some, kCmp_some, r_cmp, kCh2_some, kCh_some, r_chain, r_ite, kOut_sh, kOut_mu, kOut_exc, kCall_some, r_call, lends_nil, lends_val, lends_len, lends_mov, kSl_some, kOw_some, sl_nil, sl_val, sl_mov, sl_len, r_own, kOwn_mu, kOwn_br, bk_nil, bk_val, bk_mov, kBk_some, bk_len, r_upd, kUpd_mu, kUpd_br, kLend_mu, kLend_br, arg_lend, arg_mov, kVal_some, arg_val, arg_nil, arg_cons0, arg_cons, evs_nil, evs_cons, evAnd_cons, evOr_cons, evAnd_nil, if_tt, if_ff, kBi1_some, kBi2_some, r_bi1, r_bi2, r_isi, kIsi_non, kIsi_bl, kIsi_int, kIsi_str, kIsi_tup, kIsi_lst, kIsi_wr, kIt1_some, kIdx_some, r_idx, kOI_i, oi_nil, oi_one, kSlc_some, r_slc, kRev_some, r_rev, kIts_some, kAs_some, r_asIt, items_lst, items_tup, items_wr, kRng_i, r_rng1, r_listRng, r_tupRng, kRng2_i, r_rng2, kZip_some, r_zip, kLz_some, r_listZip, kEn_lst, r_enum, kApp_lst, kIsL_lst, r_isL, r_app, kExt_lst, r_ext, kPop_lst, r_pop, kPopAt_lst, r_popAt, x_asg, kPut_no, kPut_sh, kPut_mu, r_put, st_mu, st_sh, st_slot, sts_nil, sts_cons, x_unp, x_par, evps_nil, evps_cons, settle_sh, settle_mu, settle_slot, x_ex, x_ite, x_for, x_wh, kRet_sh, kRet_mu, kRetP_slot, kRetP_sh, kRetP_mu, x_ret, x_raise, x_pass, kSeq_nx, kSeq_ret, xs_nil, xs_cons, r_setItem, kSI_lst, kSI_dct, x_setI, kAug_add, kAug_sub, kAugS_sh, x_aug, t_nm, t_tp, kTs_some, ts_nil, ts_cons, kDef_ret, kDef_nx, kDef_exc, brOnly_br, brOnly_no, brOnly_sh, brOnly_mu, lent1, lent2, lent3, lent4, lent5, ty_int_int, ty_bool_int, ty_int_bl, ty_bool_bl, ↓evAnd_one, ↓evOr_one, unwipe, wipe, bt_ok, bt_exc, bt_stuck, lift_some, liftE_some, calm_ok, b_and, b_or, b_andP, cmp_eq_i, cmp_ne_i, cmp_lt_i, cmp_le_i, cmp_gt_i, cmp_ge_i, cmp_is_non, cmp_isnot_non, cmp_is_b, cmp_isnot_b, bin_add_i, bin_sub_i, List.cons_append, List.nil_append, List.append_nil, List.replicate_succ, List.replicate_zero, Nat.reduceSub, Nat.reduceAdd, Nat.reduceLT, Nat.reduceLeDiff, Nat.zero_le, Nat.le_refl, if_true, ite_true, if_false, ite_false, ↓reduceIte, List.length_cons, List.length_nil, Option.isSome_some, ne_eq, not_true_eq_false, not_false_eq_true, eq_self, decide_true, decide_false, Bool.not_true, Bool.not_false, Bool.and_true, Bool.true_and, Bool.false_and, Bool.or_false, Bool.false_or, Bool.true_or, endsV_snoc, lastE_snoc]
          rfl)
  simp only [E] at e1
  have e0 : (D.lst []) = lT (endsV J (zeros k) []) := rfl
  have e4 : zeros k = lastE J (zeros k) [] := rfl
  simp only [r_var, kVar_sh, kVar_mu, kVar_br, kVar_lk, r_look0, r_look1, r_set0, r_set1, cont_sh, cont_mu, cont_br, cont_lk, peek_slot, peek_sh, peek_mu, frz_slot, frz_sh, frz_mu, kFrz_sh, kFrz_mu, kO_some, r_frzR, r_cst, r_glb, r_tup, r_lst, r_dnew, kBin_some, r_bin, kRep_some, r_lrep, kNeg_i, r_neg, kB_b, r_asB, r_not, r_and, r_or, kCmpR_some, kCmp_some, r_cmp, kCh2_some, kCh_some, r_chain, r_ite, kOut_sh, kOut_mu, kOut_exc, kCall_some, r_call, lends_nil, lends_val, lends_len, lends_mov, kSl_some, kOw_some, sl_nil, sl_val, sl_mov, sl_len, r_own, kOwn_mu, kOwn_br, bk_nil, bk_val, bk_mov, kBk_some, bk_len, r_upd, kUpd_mu, kUpd_br, kLend_mu, kLend_br, arg_lend, arg_mov, kVal_some, arg_val, arg_nil, arg_cons0, arg_cons, evs_nil, evs_cons, evAnd_cons, evOr_cons, evAnd_nil, if_tt, if_ff, kBi1_some, kBi2_some, r_bi1, r_bi2, r_isi, kIsi_non, kIsi_bl, kIsi_int, kIsi_str, kIsi_tup, kIsi_lst, kIsi_wr, kIt1_some, kIdx_some, r_idx, kOI_i, oi_nil, oi_one, kSlc_some, r_slc, kRev_some, r_rev, kIts_some, kAs_some, r_asIt, items_lst, items_tup, items_wr, kRng_i, r_rng1, r_listRng, r_tupRng, kRng2_i, r_rng2, kZip_some, r_zip, kLz_some, r_listZip, kEn_lst, r_enum, kApp_lst, kIsL_lst, r_isL, r_app, kExt_lst, r_ext, kPop_lst, r_pop, kPopAt_lst, r_popAt, x_asg, kPut_no, kPut_sh, kPut_mu, r_put, st_mu, st_sh, st_slot, sts_nil, sts_cons, x_unp, x_par, evps_nil, evps_cons, settle_sh, settle_mu, settle_slot, x_ex, x_ite, x_for, x_wh, kRet_sh, kRet_mu, kRetP_slot, kRetP_sh, kRetP_mu, x_ret, x_raise, x_pass, kSeq_nx, kSeq_ret, xs_nil, xs_cons, r_setItem, kSI_lst, kSI_dct, x_setI, kAug_add, kAug_sub, kAugS_sh, x_aug, t_nm, t_tp, kTs_some, ts_nil, ts_cons, kDef_ret, kDef_nx, kDef_exc, brOnly_br, brOnly_no, brOnly_sh, brOnly_mu, lent1, lent2, lent3, lent4, lent5, ty_int_int, ty_bool_int, ty_int_bl, ty_bool_bl, ↓evAnd_one, ↓evOr_one, unwipe, wipe, bt_ok, bt_exc, bt_stuck, lift_some, liftE_some, calm_ok, b_and, b_or, b_andP, cmp_eq_i, cmp_ne_i, cmp_lt_i, cmp_le_i, cmp_gt_i, cmp_ge_i, cmp_is_non, cmp_isnot_non, cmp_is_b, cmp_isnot_b, bin_add_i, bin_sub_i, List.cons_append, List.nil_append, List.append_nil, List.replicate_succ, List.replicate_zero, Nat.reduceSub, Nat.reduceAdd, Nat.reduceLT, Nat.reduceLeDiff, Nat.zero_le, Nat.le_refl, if_true, ite_true, if_false, ite_false, ↓reduceIte, List.length_cons, List.length_nil, Option.isSome_some, ne_eq, not_true_eq_false, not_false_eq_true, eq_self, decide_true, decide_false, Bool.not_true, Bool.not_false, Bool.and_true, Bool.true_and, Bool.false_and, Bool.or_false, Bool.false_or, Bool.true_or, h.i0, len_tI, h.l0, rep_zero (show 1 ≤ k by have := h.k2; omega) (show k ≤ 1000 by omega), items_tN]
  rw [show (D.lst []) = lT (endsV J (zeros k) []) from rfl, show tI (zeros k) = tI (lastE J (zeros k) []) from rfl, e1]
  simp only [r_var, kVar_sh, kVar_mu, kVar_br, kVar_lk, r_look0, r_look1, r_set0, r_set1, cont_sh, cont_mu, cont_br, cont_lk, peek_slot, peek_sh, peek_mu, frz_slot, frz_sh, frz_mu, kFrz_sh, kFrz_mu, kO_some, r_frzR, r_cst, r_glb, r_tup, r_lst, r_dnew, kBin_some, r_bin, kRep_some, r_lrep, kNeg_i, r_neg, kB_b, r_asB, r_not, r_and, r_or, kCmpR_some, kCmp_some, r_cmp, kCh2_some, kCh_some, r_chain, r_ite, kOut_sh, kOut_mu, kOut_exc, kCall_some, r_call, lends_nil, lends_val, lends_len, lends_mov, kSl_some, kOw_some, sl_nil, sl_val, sl_mov, sl_len, r_own, kOwn_mu, kOwn_br, bk_nil, bk_val, bk_mov, kBk_some, bk_len, r_upd, kUpd_mu, kUpd_br, kLend_mu, kLend_br, arg_lend, arg_mov, kVal_some, arg_val, arg_nil, arg_cons0, arg_cons, evs_nil, evs_cons, evAnd_cons, evOr_cons, evAnd_nil, if_tt, if_ff, kBi1_some, kBi2_some, r_bi1, r_bi2, r_isi, kIsi_non, kIsi_bl, kIsi_int, kIsi_str, kIsi_tup, kIsi_lst, kIsi_wr, kIt1_some, kIdx_some, r_idx, kOI_i, oi_nil, oi_one, kSlc_some, r_slc, kRev_some, r_rev, kIts_some, kAs_some, r_asIt, items_lst, items_tup, items_wr, kRng_i, r_rng1, r_listRng, r_tupRng, kRng2_i, r_rng2, kZip_some, r_zip, kLz_some, r_listZip, kEn_lst, r_enum, kApp_lst, kIsL_lst, r_isL, r_app, kExt_lst, r_ext, kPop_lst, r_pop, kPopAt_lst, r_popAt, x_asg, kPut_no, kPut_sh, kPut_mu, r_put, st_mu, st_sh, st_slot, sts_nil, sts_cons, x_unp, x_par, evps_nil, evps_cons, settle_sh, settle_mu, settle_slot, x_ex, x_ite, x_for, x_wh, kRet_sh, kRet_mu, kRetP_slot, kRetP_sh, kRetP_mu, x_ret, x_raise, x_pass, kSeq_nx, kSeq_ret, xs_nil, xs_cons, r_setItem, kSI_lst, kSI_dct, x_setI, kAug_add, kAug_sub, kAugS_sh, x_aug, t_nm, t_tp, kTs_some, ts_nil, ts_cons, kDef_ret, kDef_nx, kDef_exc, brOnly_br, brOnly_no, brOnly_sh, brOnly_mu, lent1, lent2, lent3, lent4, lent5, ty_int_int, ty_bool_int, ty_int_bl, ty_bool_bl, ↓evAnd_one, ↓evOr_one, unwipe, wipe, bt_ok, bt_exc, bt_stuck, lift_some, liftE_some, calm_ok, b_and, b_or, b_andP, cmp_eq_i, cmp_ne_i, cmp_lt_i, cmp_le_i, cmp_gt_i, cmp_ge_i, cmp_is_non, cmp_isnot_non, cmp_is_b, cmp_isnot_b, bin_add_i, bin_sub_i, List.cons_append, List.nil_append, List.append_nil, List.replicate_succ, List.replicate_zero, Nat.reduceSub, Nat.reduceAdd, Nat.reduceLT, Nat.reduceLeDiff, Nat.zero_le, Nat.le_refl, if_true, ite_true, if_false, ite_false, ↓reduceIte, List.length_cons, List.length_nil, Option.isSome_some, ne_eq, not_true_eq_false, not_false_eq_true, eq_self, decide_true, decide_false, Bool.not_true, Bool.not_false, Bool.and_true, Bool.true_and, Bool.false_and, Bool.or_false, Bool.false_or, Bool.true_or]
theorem item_lastI {p : List Int} {x : Int} (h : p.getLast? = some x) : item (tI p) (.int (-1)) = some (.int x) := by
  have hne : p ≠ [] := by intro e; rw [e] at h; simp at h
  have hpos : 0 < p.length := List.length_pos_iff.mpr hne
  have e : place p.length (-1) = some (p.length - 1) := by
    unfold place; rw [if_neg (by omega), if_pos (by omega)]
    congr 1; omega
  simp only [item, tI, List.length_map, e, Option.bind_some]
  rw [List.getLast?_eq_getElem?] at h
  simp [h]
def endV (J : List (List Int)) (k : Nat) (o : List Nat) : Int := (lastE J (zeros k) o).getD (k - 1) 0
theorem end_sp (hn : 6 ≤ n) (h : Jobs k J) (ho : Order J o) : run GA n i_end [.sh (tT J), .sh (tN o)] = .ret (.sh (.int (endV J k o))) [.no, .no] := by
  obtain ⟨n, rfl⟩ : ∃ m, n = m + 1 := ⟨n - 1, by omega⟩
  rw [run_def rfl rfl]
  have n8 := h.n8
  have n1 := h.n1
  have k2 := h.k2
  have hl := Order.len ho
  have hr := fun i (hi : i ∈ o) => Order.lt ho hi
  have hle := lastE_len h (zeros_len k) o hr
  have i1 := item_last (endsV_last J o (zeros k) (by intro e; rw [e] at hl; simp at hl; omega))
  have i2 : item (tI (lastE J (zeros k) o)) (.int (-1)) = some (.int (endV J k o)) := item_lastI (by
    rw [List.getLast?_eq_getElem?, hle, endV, List.getD_eq_getElem?_getD]
    rw [List.getElem?_eq_getElem (by omega)]; rfl)
  simp only [r_var, kVar_sh, kVar_mu, kVar_br, kVar_lk, r_look0, r_look1, r_set0, r_set1, cont_sh, cont_mu, cont_br, cont_lk, peek_slot, peek_sh, peek_mu, frz_slot, frz_sh, frz_mu, kFrz_sh, kFrz_mu, kO_some, r_frzR, r_cst, r_glb, r_tup, r_lst, r_dnew, kBin_some, r_bin, kRep_some, r_lrep, kNeg_i, r_neg, kB_b, r_asB, r_not, r_and, r_or, kCmpR_some, kCmp_some, r_cmp, kCh2_some, kCh_some, r_chain, r_ite, kOut_sh, kOut_mu, kOut_exc, kCall_some, r_call, lends_nil, lends_val, lends_len, lends_mov, kSl_some, kOw_some, sl_nil, sl_val, sl_mov, sl_len, r_own, kOwn_mu, kOwn_br, bk_nil, bk_val, bk_mov, kBk_some, bk_len, r_upd, kUpd_mu, kUpd_br, kLend_mu, kLend_br, arg_lend, arg_mov, kVal_some, arg_val, arg_nil, arg_cons0, arg_cons, evs_nil, evs_cons, evAnd_cons, evOr_cons, evAnd_nil, if_tt, if_ff, kBi1_some, kBi2_some, r_bi1, r_bi2, r_isi, kIsi_non, kIsi_bl, kIsi_int, kIsi_str, kIsi_tup, kIsi_lst, kIsi_wr, kIt1_some, kIdx_some, r_idx, kOI_i, oi_nil, oi_one, kSlc_some, r_slc, kRev_some, r_rev, kIts_some, kAs_some, r_asIt, items_lst, items_tup, items_wr, kRng_i, r_rng1, r_listRng, r_tupRng, kRng2_i, r_rng2, kZip_some, r_zip, kLz_some, r_listZip, kEn_lst, r_enum, kApp_lst, kIsL_lst, r_isL, r_app, kExt_lst, r_ext, kPop_lst, r_pop, kPopAt_lst, r_popAt, x_asg, kPut_no, kPut_sh, kPut_mu, r_put, st_mu, st_sh, st_slot, sts_nil, sts_cons, x_unp, x_par, evps_nil, evps_cons, settle_sh, settle_mu, settle_slot, x_ex, x_ite, x_for, x_wh, kRet_sh, kRet_mu, kRetP_slot, kRetP_sh, kRetP_mu, x_ret, x_raise, x_pass, kSeq_nx, kSeq_ret, xs_nil, xs_cons, r_setItem, kSI_lst, kSI_dct, x_setI, kAug_add, kAug_sub, kAugS_sh, x_aug, t_nm, t_tp, kTs_some, ts_nil, ts_cons, kDef_ret, kDef_nx, kDef_exc, brOnly_br, brOnly_no, brOnly_sh, brOnly_mu, lent1, lent2, lent3, lent4, lent5, ty_int_int, ty_bool_int, ty_int_bl, ty_bool_bl, ↓evAnd_one, ↓evOr_one, unwipe, wipe, bt_ok, bt_exc, bt_stuck, lift_some, liftE_some, calm_ok, b_and, b_or, b_andP, cmp_eq_i, cmp_ne_i, cmp_lt_i, cmp_le_i, cmp_gt_i, cmp_ge_i, cmp_is_non, cmp_isnot_non, cmp_is_b, cmp_isnot_b, bin_add_i, bin_sub_i, List.cons_append, List.nil_append, List.append_nil, List.replicate_succ, List.replicate_zero, Nat.reduceSub, Nat.reduceAdd, Nat.reduceLT, Nat.reduceLeDiff, Nat.zero_le, Nat.le_refl, if_true, ite_true, if_false, ite_false, ↓reduceIte, List.length_cons, List.length_nil, Option.isSome_some, ne_eq, not_true_eq_false, not_false_eq_true, eq_self, decide_true, decide_false, Bool.not_true, Bool.not_false, Bool.and_true, Bool.true_and, Bool.false_and, Bool.or_false, Bool.false_or, Bool.true_or, need_passing_sp (show 5 ≤ n by omega) h ho, ends_of_sp (show 1 ≤ n by omega) h hr (show o.length ≤ 1000 by omega), i1, i2]
/-! the loads of jobs -/
end
end SL

/-! ## P29 -/
set_option maxRecDepth 100000
set_option linter.all false
set_option autoImplicit false
namespace SL
/-! ### jobs drawn; highs -/
theorem jobs_sp {n : Nat} (hn : 4 ≤ n) (ns : List Int) (hs : ns.length ≤ 63) (t : List D) (ht : t.length < 80000) (m : Nat) (m1 : 1 ≤ m) (m8 : m ≤ 8) {M : Int} (hM : M = (m : Nat)) :
    ∃ k J t', run GA n i_Ljobs [sS ns, .br (.lst t), .sh (.int M)] = .ret (.sh (tT J)) [.no, .br (.lst t'), .no] ∧ Jobs k J ∧ J.length ≤ m ∧ t'.length ≤ t.length + 50 := by
  subst hM
  obtain ⟨n, rfl⟩ : ∃ m, n = m + 1 := ⟨n - 1, by omega⟩
  rw [run_def rfl rfl]
  obtain ⟨v1, d1, a1, b1⟩ := draw_sp (show 3 ≤ n by omega) ns hs t (by omega) (m : Nat) (by omega)
  obtain ⟨k1, rfl, c1⟩ := nat_of a1 b1
  obtain ⟨v2, d2, a2, b2⟩ := draw_sp (show 3 ≤ n by omega) ns hs (t ++ [.int 0]) (by simp; omega) 3 (by omega)
  obtain ⟨k2, rfl, c2⟩ := nat_of (m := 3) a2 b2
  obtain ⟨v3, d3, a3, b3⟩ := draw_sp (show 3 ≤ n by omega) ns hs (t ++ [.int 0] ++ [.int 0]) (by simp; omega) 30 (by omega)
  obtain ⟨k3, rfl, c3⟩ := nat_of (m := 30) a3 b3
  let w := 2 + k2
  let T : List D := t ++ [.int 0] ++ [.int 0] ++ [.int 0]
  have hT : T.length = t.length + 3 := by simp [T]
  let E : List D → Slot → Slot → Slot → Env := fun t' sp v7 v8 => [sS ns, .br (.lst t'), .sh (.int (m : Nat)), .sh (.int (1 + (k1 : Int))), .sh (.int (2 + (k2 : Int))), sp, .sh (.int (1 + (k3 : Int))), v7, v8]
  have rw1 : ∀ ρ, kRng (fun n => .sh (.lst (range 0 n))) (some (.int (2 + (k2 : Int)))) ρ = .ok (.sh (.lst ((List.range w).map (fun k : Nat => D.int k)))) ρ := fun ρ => by
    have := rng1_i (n := 2 + (k2 : Int)) (ρ := ρ) (by rw [lim_eq]; omega) (by rw [lim_eq]; omega)
    rw [this, show (2 + (k2 : Int)).toNat = w by simp only [w]; omega]
  have draw : ∀ (t : List D) (hl : t.length < 90000) (v8 : Slot) (sp : List (List Int)) (x : Nat), (v8 = .no) → ∃ (p : List Int) (t' : List D), ev (run GA n) q_Ljobs_0 (E t (.mu (lT sp)) (.sh (.int (x : Nat))) .no) = .ok (.mu (.lst (p.map D.int))) (E t' (.mu (lT sp)) (.sh (.int (x : Nat))) .no) ∧ p.length = w ∧ (∀ y ∈ p, 0 ≤ y ∧ y ≤ 30) ∧ t'.length = t.length + w := by
    intro t hl v8 sp x h8
    obtain ⟨a, ρ2, e, p, t', s, rfl, rfl, h1, h2, h3, _⟩ := ev_comp_inv (Φ := run GA n) (d := .lst ((List.range w).map (fun k : Nat => D.int k))) (own := [8]) (t := .nm 8) (it := .rng1 (.var 4)) (cs := []) (elt := .call i_Ldraw [false, true, false] [.var 0, .var 1, .bin .add (.var 6) (.cst (.int 1))]) (ys := List.range w) (g := (fun k : Nat => D.int k)) (ρ := E t (.mu (lT sp)) (.sh (.int (x : Nat))) .no) (ρ1 := E t (.mu (lT sp)) (.sh (.int (x : Nat))) .no)
      (fun d a ρ => ∃ (p : List Int) (t' : List D) (s : Slot), a = p.map D.int ∧ ρ = E t' (.mu (lT sp)) (.sh (.int (x : Nat))) s ∧ p.length = d.length ∧ (∀ y ∈ p, 0 ≤ y ∧ y ≤ 30) ∧ t'.length = t.length + d.length ∧ (s = .no ∨ ∃ x, s = .sh x))
      (by simp only [E, r_var, kVar_sh, kVar_mu, kVar_br, kVar_lk, r_look0, r_look1, r_set0, r_set1, cont_sh, cont_mu, cont_br, cont_lk, peek_slot, peek_sh, peek_mu, frz_slot, frz_sh, frz_mu, kFrz_sh, kFrz_mu, kO_some, r_frzR, r_cst, r_glb, r_tup, r_lst, r_dnew, kBin_some, r_bin, kRep_some, r_lrep, kNeg_i, r_neg, kB_b, r_asB, r_not, r_and, r_or, kCmpR_some, kCmp_some, r_cmp, kCh2_some, kCh_some, r_chain, r_ite, kOut_sh, kOut_mu, kOut_exc, kCall_some, r_call, lends_nil, lends_val, lends_len, lends_mov, kSl_some, kOw_some, sl_nil, sl_val, sl_mov, sl_len, r_own, kOwn_mu, kOwn_br, bk_nil, bk_val, bk_mov, kBk_some, bk_len, r_upd, kUpd_mu, kUpd_br, kLend_mu, kLend_br, arg_lend, arg_mov, kVal_some, arg_val, arg_nil, arg_cons0, arg_cons, evs_nil, evs_cons, evAnd_cons, evOr_cons, evAnd_nil, if_tt, if_ff, kBi1_some, kBi2_some, r_bi1, r_bi2, r_isi, kIsi_non, kIsi_bl, kIsi_int, kIsi_str, kIsi_tup, kIsi_lst, kIsi_wr, kIt1_some, kIdx_some, r_idx, kOI_i, oi_nil, oi_one, kSlc_some, r_slc, kRev_some, r_rev, kIts_some, kAs_some, r_asIt, items_lst, items_tup, items_wr, kRng_i, r_rng1, r_listRng, r_tupRng, kRng2_i, r_rng2, kZip_some, r_zip, kLz_some, r_listZip, kEn_lst, r_enum, kApp_lst, kIsL_lst, r_isL, r_app, kExt_lst, r_ext, kPop_lst, r_pop, kPopAt_lst, r_popAt, x_asg, kPut_no, kPut_sh, kPut_mu, r_put, st_mu, st_sh, st_slot, sts_nil, sts_cons, x_unp, x_par, evps_nil, evps_cons, settle_sh, settle_mu, settle_slot, x_ex, x_ite, x_for, x_wh, kRet_sh, kRet_mu, kRetP_slot, kRetP_sh, kRetP_mu, x_ret, x_raise, x_pass, kSeq_nx, kSeq_ret, xs_nil, xs_cons, r_setItem, kSI_lst, kSI_dct, x_setI, kAug_add, kAug_sub, kAugS_sh, x_aug, t_nm, t_tp, kTs_some, ts_nil, ts_cons, kDef_ret, kDef_nx, kDef_exc, brOnly_br, brOnly_no, brOnly_sh, brOnly_mu, lent1, lent2, lent3, lent4, lent5, ty_int_int, ty_bool_int, ty_int_bl, ty_bool_bl, ↓evAnd_one, ↓evOr_one, unwipe, wipe, bt_ok, bt_exc, bt_stuck, lift_some, liftE_some, calm_ok, b_and, b_or, b_andP, cmp_eq_i, cmp_ne_i, cmp_lt_i, cmp_le_i, cmp_gt_i, cmp_ge_i, cmp_is_non, cmp_isnot_non, cmp_is_b, cmp_isnot_b, bin_add_i, bin_sub_i, List.cons_append, List.nil_append, List.append_nil, List.replicate_succ, List.replicate_zero, Nat.reduceSub, Nat.reduceAdd, Nat.reduceLT, Nat.reduceLeDiff, Nat.zero_le, Nat.le_refl, if_true, ite_true, if_false, ite_false, ↓reduceIte, List.length_cons, List.length_nil, Option.isSome_some, ne_eq, not_true_eq_false, not_false_eq_true, eq_self, decide_true, decide_false, Bool.not_true, Bool.not_false, Bool.and_true, Bool.true_and, Bool.false_and, Bool.or_false, Bool.false_or, Bool.true_or, rw1]) (by rw [List.length_range, lim_eq]; simp only [w]; omega) rfl ⟨[], t, .no, rfl, rfl, rfl, fun _ h => (nomatch h), rfl, .inl rfl⟩ (fun d y rest a ρ e ⟨p, t', s, ea, eρ, h1, h2, h3, h4⟩ => by
        subst ea eρ
        have hd : d.length < w := by have := congrArg List.length e; simp at this; omega
        obtain ⟨v, dv, av, bv⟩ := draw_sp (show 3 ≤ n by omega) ns hs t' (by simp only [w] at hd; omega) (1 + (k3 : Int) + 1) (by omega)
        refine ⟨E t' (.mu (lT sp)) (.sh (.int (x : Nat))) (.sh (.int (y : Nat))), ?_, (p ++ [v]).map D.int, E (t' ++ [.int 0]) (.mu (lT sp)) (.sh (.int (x : Nat))) (.sh (.int (y : Nat))), ?_, p ++ [v], t' ++ [.int 0], _, rfl, rfl, by simp [h1], ?_, by simp [h3]; omega, .inr ⟨_, rfl⟩⟩
        · rcases h4 with rfl | ⟨z, rfl⟩ <;> rfl
        · simp only [E, r_var, kVar_sh, kVar_mu, kVar_br, kVar_lk, r_look0, r_look1, r_set0, r_set1, cont_sh, cont_mu, cont_br, cont_lk, peek_slot, peek_sh, peek_mu, frz_slot, frz_sh, frz_mu, kFrz_sh, kFrz_mu, kO_some, r_frzR, r_cst, r_glb, r_tup, r_lst, r_dnew, kBin_some, r_bin, kRep_some, r_lrep, kNeg_i, r_neg, kB_b, r_asB, r_not, r_and, r_or, kCmpR_some, kCmp_some, r_cmp, kCh2_some, kCh_some, r_chain, r_ite, kOut_sh, kOut_mu, kOut_exc, kCall_some, r_call, lends_nil, lends_val, lends_len, lends_mov, kSl_some, kOw_some, sl_nil, sl_val, sl_mov, sl_len, r_own, kOwn_mu, kOwn_br, bk_nil, bk_val, bk_mov, kBk_some, bk_len, r_upd, kUpd_mu, kUpd_br, kLend_mu, kLend_br, arg_lend, arg_mov, kVal_some, arg_val, arg_nil, arg_cons0, arg_cons, evs_nil, evs_cons, evAnd_cons, evOr_cons, evAnd_nil, if_tt, if_ff, kBi1_some, kBi2_some, r_bi1, r_bi2, r_isi, kIsi_non, kIsi_bl, kIsi_int, kIsi_str, kIsi_tup, kIsi_lst, kIsi_wr, kIt1_some, kIdx_some, r_idx, kOI_i, oi_nil, oi_one, kSlc_some, r_slc, kRev_some, r_rev, kIts_some, kAs_some, r_asIt, items_lst, items_tup, items_wr, kRng_i, r_rng1, r_listRng, r_tupRng, kRng2_i, r_rng2, kZip_some, r_zip, kLz_some, r_listZip, kEn_lst, r_enum, kApp_lst, kIsL_lst, r_isL, r_app, kExt_lst, r_ext, kPop_lst, r_pop, kPopAt_lst, r_popAt, x_asg, kPut_no, kPut_sh, kPut_mu, r_put, st_mu, st_sh, st_slot, sts_nil, sts_cons, x_unp, x_par, evps_nil, evps_cons, settle_sh, settle_mu, settle_slot, x_ex, x_ite, x_for, x_wh, kRet_sh, kRet_mu, kRetP_slot, kRetP_sh, kRetP_mu, x_ret, x_raise, x_pass, kSeq_nx, kSeq_ret, xs_nil, xs_cons, r_setItem, kSI_lst, kSI_dct, x_setI, kAug_add, kAug_sub, kAugS_sh, x_aug, t_nm, t_tp, kTs_some, ts_nil, ts_cons, kDef_ret, kDef_nx, kDef_exc, brOnly_br, brOnly_no, brOnly_sh, brOnly_mu, lent1, lent2, lent3, lent4, lent5, ty_int_int, ty_bool_int, ty_int_bl, ty_bool_bl, ↓evAnd_one, ↓evOr_one, unwipe, wipe, bt_ok, bt_exc, bt_stuck, lift_some, liftE_some, calm_ok, b_and, b_or, b_andP, cmp_eq_i, cmp_ne_i, cmp_lt_i, cmp_le_i, cmp_gt_i, cmp_ge_i, cmp_is_non, cmp_isnot_non, cmp_is_b, cmp_isnot_b, bin_add_i, bin_sub_i, List.cons_append, List.nil_append, List.append_nil, List.replicate_succ, List.replicate_zero, Nat.reduceSub, Nat.reduceAdd, Nat.reduceLT, Nat.reduceLeDiff, Nat.zero_le, Nat.le_refl, if_true, ite_true, if_false, ite_false, ↓reduceIte, List.length_cons, List.length_nil, Option.isSome_some, ne_eq, not_true_eq_false, not_false_eq_true, eq_self, decide_true, decide_false, Bool.not_true, Bool.not_false, Bool.and_true, Bool.true_and, Bool.false_and, Bool.or_false, Bool.false_or, Bool.true_or, dv, List.map_append, List.map_cons, List.map_nil]
        · intro y hy
          rcases List.mem_append.mp hy with hy | hy
          · exact h2 y hy
          · rw [List.mem_singleton.mp hy]; omega)
    exact ⟨p, t', e, by simpa using h1, h2, by simpa using h3⟩
  obtain ⟨ρ1, e1, sp, t1, v7, rfl, hsp, hw1, hb, ht1, _⟩ := forD_nx (t := .nm 7) (b := exes (run GA n) b_Ljobs_0) (g := (fun k : Nat => D.int k)) (ys := List.range (1 + k1)) (ρ := E T (.mu (lT [])) .no .no)
    (fun d ρ => ∃ (sp : List (List Int)) (t' : List D) (v7 : Slot), ρ = E t' (.mu (lT sp)) v7 .no ∧ sp.length = d.length ∧ (∀ p ∈ sp, p.length = w) ∧ (∀ p ∈ sp, ∀ x ∈ p, 0 ≤ x ∧ x ≤ 30) ∧ t'.length = T.length + d.length * w ∧ (v7 = .no ∨ ∃ x, v7 = .sh x))
    ⟨[], T, .no, rfl, rfl, by simp, by simp, by simp, .inl rfl⟩ (fun d x rest ρ e ⟨sp, t', v7, eρ, hsp, hw1, hb, ht1, h7⟩ => by
      subst eρ
      have hd : d.length < 1 + k1 := by have := congrArg List.length e; simp at this; omega
      have hdw : d.length * w ≤ 8 * 4 := Nat.mul_le_mul (by omega) (by simp only [w]; omega)
      obtain ⟨p, t2, hp, hp1, hp2, ht2⟩ := draw t' (by omega) .no sp x rfl
      refine ⟨E t' (.mu (lT sp)) (.sh (.int (x : Nat))) .no, ?_, E t2 (.mu (lT (sp ++ [p]))) (.sh (.int (x : Nat))) .no, ?_, sp ++ [p], t2, _, rfl, by simp [hsp], ?_, ?_, ?_, .inr ⟨_, rfl⟩⟩
      · rcases h7 with rfl | ⟨y, rfl⟩ <;> simp only [E, r_var, kVar_sh, kVar_mu, kVar_br, kVar_lk, r_look0, r_look1, r_set0, r_set1, cont_sh, cont_mu, cont_br, cont_lk, peek_slot, peek_sh, peek_mu, frz_slot, frz_sh, frz_mu, kFrz_sh, kFrz_mu, kO_some, r_frzR, r_cst, r_glb, r_tup, r_lst, r_dnew, kBin_some, r_bin, kRep_some, r_lrep, kNeg_i, r_neg, kB_b, r_asB, r_not, r_and, r_or, kCmpR_some, kCmp_some, r_cmp, kCh2_some, kCh_some, r_chain, r_ite, kOut_sh, kOut_mu, kOut_exc, kCall_some, r_call, lends_nil, lends_val, lends_len, lends_mov, kSl_some, kOw_some, sl_nil, sl_val, sl_mov, sl_len, r_own, kOwn_mu, kOwn_br, bk_nil, bk_val, bk_mov, kBk_some, bk_len, r_upd, kUpd_mu, kUpd_br, kLend_mu, kLend_br, arg_lend, arg_mov, kVal_some, arg_val, arg_nil, arg_cons0, arg_cons, evs_nil, evs_cons, evAnd_cons, evOr_cons, evAnd_nil, if_tt, if_ff, kBi1_some, kBi2_some, r_bi1, r_bi2, r_isi, kIsi_non, kIsi_bl, kIsi_int, kIsi_str, kIsi_tup, kIsi_lst, kIsi_wr, kIt1_some, kIdx_some, r_idx, kOI_i, oi_nil, oi_one, kSlc_some, r_slc, kRev_some, r_rev, kIts_some, kAs_some, r_asIt, items_lst, items_tup, items_wr, kRng_i, r_rng1, r_listRng, r_tupRng, kRng2_i, r_rng2, kZip_some, r_zip, kLz_some, r_listZip, kEn_lst, r_enum, kApp_lst, kIsL_lst, r_isL, r_app, kExt_lst, r_ext, kPop_lst, r_pop, kPopAt_lst, r_popAt, x_asg, kPut_no, kPut_sh, kPut_mu, r_put, st_mu, st_sh, st_slot, sts_nil, sts_cons, x_unp, x_par, evps_nil, evps_cons, settle_sh, settle_mu, settle_slot, x_ex, x_ite, x_for, x_wh, kRet_sh, kRet_mu, kRetP_slot, kRetP_sh, kRetP_mu, x_ret, x_raise, x_pass, kSeq_nx, kSeq_ret, xs_nil, xs_cons, r_setItem, kSI_lst, kSI_dct, x_setI, kAug_add, kAug_sub, kAugS_sh, x_aug, t_nm, t_tp, kTs_some, ts_nil, ts_cons, kDef_ret, kDef_nx, kDef_exc, brOnly_br, brOnly_no, brOnly_sh, brOnly_mu, lent1, lent2, lent3, lent4, lent5, ty_int_int, ty_bool_int, ty_int_bl, ty_bool_bl, ↓evAnd_one, ↓evOr_one, unwipe, wipe, bt_ok, bt_exc, bt_stuck, lift_some, liftE_some, calm_ok, b_and, b_or, b_andP, cmp_eq_i, cmp_ne_i, cmp_lt_i, cmp_le_i, cmp_gt_i, cmp_ge_i, cmp_is_non, cmp_isnot_non, cmp_is_b, cmp_isnot_b, bin_add_i, bin_sub_i, List.cons_append, List.nil_append, List.append_nil, List.replicate_succ, List.replicate_zero, Nat.reduceSub, Nat.reduceAdd, Nat.reduceLT, Nat.reduceLeDiff, Nat.zero_le, Nat.le_refl, if_true, ite_true, if_false, ite_false, ↓reduceIte, List.length_cons, List.length_nil, Option.isSome_some, ne_eq, not_true_eq_false, not_false_eq_true, eq_self, decide_true, decide_false, Bool.not_true, Bool.not_false, Bool.and_true, Bool.true_and, Bool.false_and, Bool.or_false, Bool.false_or, Bool.true_or]
      · simp only [E, r_var, kVar_sh, kVar_mu, kVar_br, kVar_lk, r_look0, r_look1, r_set0, r_set1, cont_sh, cont_mu, cont_br, cont_lk, peek_slot, peek_sh, peek_mu, frz_slot, frz_sh, frz_mu, kFrz_sh, kFrz_mu, kO_some, r_frzR, r_cst, r_glb, r_tup, r_lst, r_dnew, kBin_some, r_bin, kRep_some, r_lrep, kNeg_i, r_neg, kB_b, r_asB, r_not, r_and, r_or, kCmpR_some, kCmp_some, r_cmp, kCh2_some, kCh_some, r_chain, r_ite, kOut_sh, kOut_mu, kOut_exc, kCall_some, r_call, lends_nil, lends_val, lends_len, lends_mov, kSl_some, kOw_some, sl_nil, sl_val, sl_mov, sl_len, r_own, kOwn_mu, kOwn_br, bk_nil, bk_val, bk_mov, kBk_some, bk_len, r_upd, kUpd_mu, kUpd_br, kLend_mu, kLend_br, arg_lend, arg_mov, kVal_some, arg_val, arg_nil, arg_cons0, arg_cons, evs_nil, evs_cons, evAnd_cons, evOr_cons, evAnd_nil, if_tt, if_ff, kBi1_some, kBi2_some, r_bi1, r_bi2, r_isi, kIsi_non, kIsi_bl, kIsi_int, kIsi_str, kIsi_tup, kIsi_lst, kIsi_wr, kIt1_some, kIdx_some, r_idx, kOI_i, oi_nil, oi_one, kSlc_some, r_slc, kRev_some, r_rev, kIts_some, kAs_some, r_asIt, items_lst, items_tup, items_wr, kRng_i, r_rng1, r_listRng, r_tupRng, kRng2_i, r_rng2, kZip_some, r_zip, kLz_some, r_listZip, kEn_lst, r_enum, kApp_lst, kIsL_lst, r_isL, r_app, kExt_lst, r_ext, kPop_lst, r_pop, kPopAt_lst, r_popAt, x_asg, kPut_no, kPut_sh, kPut_mu, r_put, st_mu, st_sh, st_slot, sts_nil, sts_cons, x_unp, x_par, evps_nil, evps_cons, settle_sh, settle_mu, settle_slot, x_ex, x_ite, x_for, x_wh, kRet_sh, kRet_mu, kRetP_slot, kRetP_sh, kRetP_mu, x_ret, x_raise, x_pass, kSeq_nx, kSeq_ret, xs_nil, xs_cons, r_setItem, kSI_lst, kSI_dct, x_setI, kAug_add, kAug_sub, kAugS_sh, x_aug, t_nm, t_tp, kTs_some, ts_nil, ts_cons, kDef_ret, kDef_nx, kDef_exc, brOnly_br, brOnly_no, brOnly_sh, brOnly_mu, lent1, lent2, lent3, lent4, lent5, ty_int_int, ty_bool_int, ty_int_bl, ty_bool_bl, ↓evAnd_one, ↓evOr_one, unwipe, wipe, bt_ok, bt_exc, bt_stuck, lift_some, liftE_some, calm_ok, b_and, b_or, b_andP, cmp_eq_i, cmp_ne_i, cmp_lt_i, cmp_le_i, cmp_gt_i, cmp_ge_i, cmp_is_non, cmp_isnot_non, cmp_is_b, cmp_isnot_b, bin_add_i, bin_sub_i, List.cons_append, List.nil_append, List.append_nil, List.replicate_succ, List.replicate_zero, Nat.reduceSub, Nat.reduceAdd, Nat.reduceLT, Nat.reduceLeDiff, Nat.zero_le, Nat.le_refl, if_true, ite_true, if_false, ite_false, ↓reduceIte, List.length_cons, List.length_nil, Option.isSome_some, ne_eq, not_true_eq_false, not_false_eq_true, eq_self, decide_true, decide_false, Bool.not_true, Bool.not_false, Bool.and_true, Bool.true_and, Bool.false_and, Bool.or_false, Bool.false_or, Bool.true_or] at hp
        simp only [b_Ljobs_0, E, r_var, kVar_sh, kVar_mu, kVar_br, kVar_lk, r_look0, r_look1, r_set0, r_set1, cont_sh, cont_mu, cont_br, cont_lk, peek_slot, peek_sh, peek_mu, frz_slot, frz_sh, frz_mu, kFrz_sh, kFrz_mu, kO_some, r_frzR, r_cst, r_glb, r_tup, r_lst, r_dnew, kBin_some, r_bin, kRep_some, r_lrep, kNeg_i, r_neg, kB_b, r_asB, r_not, r_and, r_or, kCmpR_some, kCmp_some, r_cmp, kCh2_some, kCh_some, r_chain, r_ite, kOut_sh, kOut_mu, kOut_exc, kCall_some, r_call, lends_nil, lends_val, lends_len, lends_mov, kSl_some, kOw_some, sl_nil, sl_val, sl_mov, sl_len, r_own, kOwn_mu, kOwn_br, bk_nil, bk_val, bk_mov, kBk_some, bk_len, r_upd, kUpd_mu, kUpd_br, kLend_mu, kLend_br, arg_lend, arg_mov, kVal_some, arg_val, arg_nil, arg_cons0, arg_cons, evs_nil, evs_cons, evAnd_cons, evOr_cons, evAnd_nil, if_tt, if_ff, kBi1_some, kBi2_some, r_bi1, r_bi2, r_isi, kIsi_non, kIsi_bl, kIsi_int, kIsi_str, kIsi_tup, kIsi_lst, kIsi_wr, kIt1_some, kIdx_some, r_idx, kOI_i, oi_nil, oi_one, kSlc_some, r_slc, kRev_some, r_rev, kIts_some, kAs_some, r_asIt, items_lst, items_tup, items_wr, kRng_i, r_rng1, r_listRng, r_tupRng, kRng2_i, r_rng2, kZip_some, r_zip, kLz_some, r_listZip, kEn_lst, r_enum, kApp_lst, kIsL_lst, r_isL, r_app, kExt_lst, r_ext, kPop_lst, r_pop, kPopAt_lst, r_popAt, x_asg, kPut_no, kPut_sh, kPut_mu, r_put, st_mu, st_sh, st_slot, sts_nil, sts_cons, x_unp, x_par, evps_nil, evps_cons, settle_sh, settle_mu, settle_slot, x_ex, x_ite, x_for, x_wh, kRet_sh, kRet_mu, kRetP_slot, kRetP_sh, kRetP_mu, x_ret, x_raise, x_pass, kSeq_nx, kSeq_ret, xs_nil, xs_cons, r_setItem, kSI_lst, kSI_dct, x_setI, kAug_add, kAug_sub, kAugS_sh, x_aug, t_nm, t_tp, kTs_some, ts_nil, ts_cons, kDef_ret, kDef_nx, kDef_exc, brOnly_br, brOnly_no, brOnly_sh, brOnly_mu, lent1, lent2, lent3, lent4, lent5, ty_int_int, ty_bool_int, ty_int_bl, ty_bool_bl, ↓evAnd_one, ↓evOr_one, unwipe, wipe, bt_ok, bt_exc, bt_stuck, lift_some, liftE_some, calm_ok, b_and, b_or, b_andP, cmp_eq_i, cmp_ne_i, cmp_lt_i, cmp_le_i, cmp_gt_i, cmp_ge_i, cmp_is_non, cmp_isnot_non, cmp_is_b, cmp_isnot_b, bin_add_i, bin_sub_i, List.cons_append, List.nil_append, List.append_nil, List.replicate_succ, List.replicate_zero, Nat.reduceSub, Nat.reduceAdd, Nat.reduceLT, Nat.reduceLeDiff, Nat.zero_le, Nat.le_refl, if_true, ite_true, if_false, ite_false, ↓reduceIte, List.length_cons, List.length_nil, Option.isSome_some, ne_eq, not_true_eq_false, not_false_eq_true, eq_self, decide_true, decide_false, Bool.not_true, Bool.not_false, Bool.and_true, Bool.true_and, Bool.false_and, Bool.or_false, Bool.false_or, Bool.true_or, hp, tuple_tI, isL_lT, kApp_lT (show sp.length < lim by rw [hsp, lim_eq]; omega)]
      · intro q hq
        rcases List.mem_append.mp hq with hq | hq
        · exact hw1 q hq
        · rw [List.mem_singleton.mp hq]; exact hp1
      · intro q hq
        rcases List.mem_append.mp hq with hq | hq
        · exact hb q hq
        · rw [List.mem_singleton.mp hq]; exact hp2
      · have h1 : (d ++ [x]).length = d.length + 1 := by simp
        rw [ht2, ht1, h1, Nat.add_mul]; omega)
  rw [List.length_range] at hsp ht1
  have hkw : (1 + k1) * w ≤ 8 * 4 := Nat.mul_le_mul (by omega) (by simp only [w]; omega)
  refine ⟨w, sp, t1, ?_, ⟨by simp only [w]; omega, by simp only [w]; omega, by omega, by omega, fun p hp => ⟨hw1 p hp, fun x hx => by have := hb p hp x hx; omega⟩⟩, by omega, by omega⟩
  have r1 : ∀ ρ, kRng (fun n => .sh (.lst (range 0 n))) (some (.int (1 + (k1 : Int)))) ρ = .ok (.sh (.lst ((List.range (1 + k1)).map (fun k : Nat => D.int k)))) ρ := fun ρ => by
    have := rng1_i (n := 1 + (k1 : Int)) (ρ := ρ) (by rw [lim_eq]; omega) (by rw [lim_eq]; omega)
    rw [this, show (1 + (k1 : Int)).toNat = 1 + k1 by omega]
  have lT0 : (D.lst []) = lT [] := rfl
  have e4 : bi1 .tuple (lT sp) = some (.sh (tT sp)) := rfl
  simp only [E] at e1
  simp only [T] at e1
  simp only [r_var, kVar_sh, kVar_mu, kVar_br, kVar_lk, r_look0, r_look1, r_set0, r_set1, cont_sh, cont_mu, cont_br, cont_lk, peek_slot, peek_sh, peek_mu, frz_slot, frz_sh, frz_mu, kFrz_sh, kFrz_mu, kO_some, r_frzR, r_cst, r_glb, r_tup, r_lst, r_dnew, kBin_some, r_bin, kRep_some, r_lrep, kNeg_i, r_neg, kB_b, r_asB, r_not, r_and, r_or, kCmpR_some, kCmp_some, r_cmp, kCh2_some, kCh_some, r_chain, r_ite, kOut_sh, kOut_mu, kOut_exc, kCall_some, r_call, lends_nil, lends_val, lends_len, lends_mov, kSl_some, kOw_some, sl_nil, sl_val, sl_mov, sl_len, r_own, kOwn_mu, kOwn_br, bk_nil, bk_val, bk_mov, kBk_some, bk_len, r_upd, kUpd_mu, kUpd_br, kLend_mu, kLend_br, arg_lend, arg_mov, kVal_some, arg_val, arg_nil, arg_cons0, arg_cons, evs_nil, evs_cons, evAnd_cons, evOr_cons, evAnd_nil, if_tt, if_ff, kBi1_some, kBi2_some, r_bi1, r_bi2, r_isi, kIsi_non, kIsi_bl, kIsi_int, kIsi_str, kIsi_tup, kIsi_lst, kIsi_wr, kIt1_some, kIdx_some, r_idx, kOI_i, oi_nil, oi_one, kSlc_some, r_slc, kRev_some, r_rev, kIts_some, kAs_some, r_asIt, items_lst, items_tup, items_wr, kRng_i, r_rng1, r_listRng, r_tupRng, kRng2_i, r_rng2, kZip_some, r_zip, kLz_some, r_listZip, kEn_lst, r_enum, kApp_lst, kIsL_lst, r_isL, r_app, kExt_lst, r_ext, kPop_lst, r_pop, kPopAt_lst, r_popAt, x_asg, kPut_no, kPut_sh, kPut_mu, r_put, st_mu, st_sh, st_slot, sts_nil, sts_cons, x_unp, x_par, evps_nil, evps_cons, settle_sh, settle_mu, settle_slot, x_ex, x_ite, x_for, x_wh, kRet_sh, kRet_mu, kRetP_slot, kRetP_sh, kRetP_mu, x_ret, x_raise, x_pass, kSeq_nx, kSeq_ret, xs_nil, xs_cons, r_setItem, kSI_lst, kSI_dct, x_setI, kAug_add, kAug_sub, kAugS_sh, x_aug, t_nm, t_tp, kTs_some, ts_nil, ts_cons, kDef_ret, kDef_nx, kDef_exc, brOnly_br, brOnly_no, brOnly_sh, brOnly_mu, lent1, lent2, lent3, lent4, lent5, ty_int_int, ty_bool_int, ty_int_bl, ty_bool_bl, ↓evAnd_one, ↓evOr_one, unwipe, wipe, bt_ok, bt_exc, bt_stuck, lift_some, liftE_some, calm_ok, b_and, b_or, b_andP, cmp_eq_i, cmp_ne_i, cmp_lt_i, cmp_le_i, cmp_gt_i, cmp_ge_i, cmp_is_non, cmp_isnot_non, cmp_is_b, cmp_isnot_b, bin_add_i, bin_sub_i, List.cons_append, List.nil_append, List.append_nil, List.replicate_succ, List.replicate_zero, Nat.reduceSub, Nat.reduceAdd, Nat.reduceLT, Nat.reduceLeDiff, Nat.zero_le, Nat.le_refl, if_true, ite_true, if_false, ite_false, ↓reduceIte, List.length_cons, List.length_nil, Option.isSome_some, ne_eq, not_true_eq_false, not_false_eq_true, eq_self, decide_true, decide_false, Bool.not_true, Bool.not_false, Bool.and_true, Bool.true_and, Bool.false_and, Bool.or_false, Bool.false_or, Bool.true_or, d1, d2, d3, r1]
  simp only [lT0, e1]
  simp only [r_var, kVar_sh, kVar_mu, kVar_br, kVar_lk, r_look0, r_look1, r_set0, r_set1, cont_sh, cont_mu, cont_br, cont_lk, peek_slot, peek_sh, peek_mu, frz_slot, frz_sh, frz_mu, kFrz_sh, kFrz_mu, kO_some, r_frzR, r_cst, r_glb, r_tup, r_lst, r_dnew, kBin_some, r_bin, kRep_some, r_lrep, kNeg_i, r_neg, kB_b, r_asB, r_not, r_and, r_or, kCmpR_some, kCmp_some, r_cmp, kCh2_some, kCh_some, r_chain, r_ite, kOut_sh, kOut_mu, kOut_exc, kCall_some, r_call, lends_nil, lends_val, lends_len, lends_mov, kSl_some, kOw_some, sl_nil, sl_val, sl_mov, sl_len, r_own, kOwn_mu, kOwn_br, bk_nil, bk_val, bk_mov, kBk_some, bk_len, r_upd, kUpd_mu, kUpd_br, kLend_mu, kLend_br, arg_lend, arg_mov, kVal_some, arg_val, arg_nil, arg_cons0, arg_cons, evs_nil, evs_cons, evAnd_cons, evOr_cons, evAnd_nil, if_tt, if_ff, kBi1_some, kBi2_some, r_bi1, r_bi2, r_isi, kIsi_non, kIsi_bl, kIsi_int, kIsi_str, kIsi_tup, kIsi_lst, kIsi_wr, kIt1_some, kIdx_some, r_idx, kOI_i, oi_nil, oi_one, kSlc_some, r_slc, kRev_some, r_rev, kIts_some, kAs_some, r_asIt, items_lst, items_tup, items_wr, kRng_i, r_rng1, r_listRng, r_tupRng, kRng2_i, r_rng2, kZip_some, r_zip, kLz_some, r_listZip, kEn_lst, r_enum, kApp_lst, kIsL_lst, r_isL, r_app, kExt_lst, r_ext, kPop_lst, r_pop, kPopAt_lst, r_popAt, x_asg, kPut_no, kPut_sh, kPut_mu, r_put, st_mu, st_sh, st_slot, sts_nil, sts_cons, x_unp, x_par, evps_nil, evps_cons, settle_sh, settle_mu, settle_slot, x_ex, x_ite, x_for, x_wh, kRet_sh, kRet_mu, kRetP_slot, kRetP_sh, kRetP_mu, x_ret, x_raise, x_pass, kSeq_nx, kSeq_ret, xs_nil, xs_cons, r_setItem, kSI_lst, kSI_dct, x_setI, kAug_add, kAug_sub, kAugS_sh, x_aug, t_nm, t_tp, kTs_some, ts_nil, ts_cons, kDef_ret, kDef_nx, kDef_exc, brOnly_br, brOnly_no, brOnly_sh, brOnly_mu, lent1, lent2, lent3, lent4, lent5, ty_int_int, ty_bool_int, ty_int_bl, ty_bool_bl, ↓evAnd_one, ↓evOr_one, unwipe, wipe, bt_ok, bt_exc, bt_stuck, lift_some, liftE_some, calm_ok, b_and, b_or, b_andP, cmp_eq_i, cmp_ne_i, cmp_lt_i, cmp_le_i, cmp_gt_i, cmp_ge_i, cmp_is_non, cmp_isnot_non, cmp_is_b, cmp_isnot_b, bin_add_i, bin_sub_i, List.cons_append, List.nil_append, List.append_nil, List.replicate_succ, List.replicate_zero, Nat.reduceSub, Nat.reduceAdd, Nat.reduceLT, Nat.reduceLeDiff, Nat.zero_le, Nat.le_refl, if_true, ite_true, if_false, ite_false, ↓reduceIte, List.length_cons, List.length_nil, Option.isSome_some, ne_eq, not_true_eq_false, not_false_eq_true, eq_self, decide_true, decide_false, Bool.not_true, Bool.not_false, Bool.and_true, Bool.true_and, Bool.false_and, Bool.or_false, Bool.false_or, Bool.true_or, e4]
section
variable {n k : Nat} {J : List (List Int)} {o : List Nat}
end
end SL

/-! ## P30 -/
set_option maxRecDepth 100000
set_option linter.all false
set_option autoImplicit false
namespace SL
theorem endR_getS : ∀ (r : List (Int × Int)) (h : Int) (j : Nat), j + 1 < r.length → (endR h r).getD (j + 1) 0 = max ((endR h r).getD j 0) (r.getD (j + 1) (0, 0)).2 + (r.getD (j + 1) (0, 0)).1
  | [_], _, j, hj => by simp at hj
  | q :: q' :: r, h, 0, _ => rfl
  | q :: q' :: r, h, j + 1, hj => by
    have := endR_getS (q' :: r) (max h q.2 + q.1) j (by simpa using hj)
    simpa only [endR, List.getD_cons_succ] using this
theorem endR_get0 : ∀ (r : List (Int × Int)) (h : Int), 0 < r.length → (endR h r).getD 0 0 = max h (r.getD 0 (0, 0)).2 + (r.getD 0 (0, 0)).1
  | q :: r, h, _ => rfl
theorem zip_getD {a b : List Int} (h : a.length = b.length) (j : Nat) : (a.zip b).getD j (0, 0) = (a.getD j 0, b.getD j 0) := by
  simp only [List.getD_eq_getElem?_getD]
  by_cases hj : j < a.length
  · have hb : j < b.length := by omega
    have e : (a.zip b)[j]? = some (a[j], b[j]) := by
      rw [List.getElem?_zip_eq_some]
      exact ⟨List.getElem?_eq_getElem hj, List.getElem?_eq_getElem hb⟩
    rw [e, List.getElem?_eq_getElem hj, List.getElem?_eq_getElem hb]; rfl
  · have hb : ¬ j < b.length := by omega
    have e1 : (a.zip b)[j]? = none := List.getElem?_eq_none (by rw [List.length_zip]; omega)
    rw [e1, List.getElem?_eq_none (by omega), List.getElem?_eq_none (by omega)]; rfl
theorem endRow_get0 {p f : List Int} (h : p.length = f.length) (hp : 0 < p.length) : (endRow p f).getD 0 0 = max 0 (f.getD 0 0) + p.getD 0 0 := by
  unfold endRow
  rw [endR_get0 _ _ (by rw [List.length_zip]; omega), zip_getD h]
theorem endRow_getS {p f : List Int} (h : p.length = f.length) {j : Nat} (hp : j + 1 < p.length) : (endRow p f).getD (j + 1) 0 = max ((endRow p f).getD j 0) (f.getD (j + 1) 0) + p.getD (j + 1) 0 := by
  unfold endRow
  rw [endR_getS _ _ _ (by rw [List.length_zip]; omega), zip_getD h]
section
variable {k : Nat} {J : List (List Int)} {o : List Nat}
theorem endRow_len {p f : List Int} (h : p.length = f.length) : (endRow p f).length = p.length := by
  unfold endRow; rw [endR_len, List.length_zip, h, Nat.min_self]
theorem getD_bound {p : List Int} {j : Nat} (hp : ∀ x ∈ p, 0 ≤ x ∧ x ≤ 99) : 0 ≤ p.getD j 0 := by
  by_cases hj : j < p.length
  · exact (hp _ (way_mem hj)).1
  · rw [List.getD_eq_getElem?_getD, List.getElem?_eq_none (by omega)]; exact Int.le_refl _
end
end SL

/-! ## L27 -/
set_option maxRecDepth 100000
set_option linter.all false
set_option autoImplicit false
namespace SL
end SL

/-! ## P31 -/
set_option maxRecDepth 100000
set_option linter.all false
set_option autoImplicit false
namespace SL
/-! ### jobs levelled -/
def lI (xs : List Int) : D := .lst (xs.map D.int)
theorem item_lI {L : List Int} {i : Int} (h : 0 ≤ i) (h2 : i < L.length) : item (lI L) (.int i) = some (.int (L.getD i.toNat 0)) := item_li h h2
theorem max_lI {ys : List Int} (h : ys ≠ []) : bi1 .max (lI ys) = some (.sh (.int (maxL ys))) := max_I h
theorem tuple_lI (ys : List Int) : bi1 .tuple (lI ys) = some (.sh (tI ys)) := rfl
theorem isL_lI (xs : List Int) : kIsL (some (lI xs)) = true := rfl
theorem kApp_lI {x : Int} {xs : List Int} {ρ : Env} {i : Nat} (h : xs.length < lim) : kApp (.int x) (some (lI xs)) ρ i = (liftE (upd ρ i (lI (xs ++ [x])))).bt fun _ ρ2 => .ok (.sh .non) ρ2 := by
  unfold lI; rw [kApp_lst (by rw [List.length_map]; exact h)]; simp [Res.bt]
section
variable {n k : Nat} {J : List (List Int)} {o : List Nat}
end
end SL

/-! ## P32 -/
set_option maxRecDepth 100000
set_option linter.all false
set_option autoImplicit false
namespace SL
section
variable {k : Nat} {J J' : List (List Int)} {o : List Nat}
theorem Jobs.ne (h : Jobs k J) : J ≠ [] := by intro e; have := h.n1; simp [e] at this
end
end SL

/-! ## P33 -/
set_option maxRecDepth 100000
set_option linter.all false
set_option autoImplicit false
namespace SL
/-! ### orders turned on: sums of one way -/
section
variable {n w : Nat} {L : List (List Int)} {o : List Nat}
/-! the functions -/
end
end SL

/-! ## P34 -/
set_option maxRecDepth 100000
set_option linter.all false
set_option autoImplicit false
namespace SL
/-! ### slots that may be stored, whatever stands there -/
def okS : Slot → Prop
  | .no => True
  | .sh _ => True
  | .mu _ => True
  | _ => False
theorem okS_sh (d : D) : okS (.sh d) := trivial
theorem okS_mu (d : D) : okS (.mu d) := trivial
theorem kPut_ok {s : Slot} (h : okS s) {ρ : Env} {i : Nat} {t : Slot} (hi : i < ρ.length) : kPut s ρ i t = some (ρ.set i t) := by
  cases s with
  | no => exact kPut_no hi
  | sh d => exact kPut_sh hi
  | mu d => exact kPut_mu hi
  | br d => exact h.elim
  | lk d => exact h.elim
end SL

/-! ## P35 -/
set_option maxRecDepth 100000
set_option linter.all false
set_option autoImplicit false
namespace SL
/-! ### the least of rated signs -/
section
variable (f : List Int → Int)
end
/-! all signs -/
section
variable {n w : Nat} {L : List (List Int)} {o : List Nat} {s : List Int}
end
end SL

/-! ## P36 -/
set_option maxRecDepth 100000
set_option linter.all false
set_option autoImplicit false
namespace SL
/-! ### good next pieces -/
section
variable {n w : Nat} {L : List (List Int)} {row : List Nat}
end
end SL

/-! ## P37 -/
set_option maxRecDepth 100000
set_option linter.all false
set_option autoImplicit false
namespace SL
/-! ### an order begun goes on -/
section
variable {w : Nat} {L : List (List Int)} {row : List Nat}
end
/-! ### one way -/
def val (L : List (List Int)) (k : Nat) : Int := (L.getD k []).getD 0 0
section
variable {L : List (List Int)} {T : Int}
end
/-! a number taken out of a list -/
end SL

/-! ## P38 -/
set_option maxRecDepth 100000
set_option linter.all false
set_option autoImplicit false
namespace SL
/-! ### loads mirrored, made greater, their ways exchanged -/
section
variable {n w : Nat} {L L' : List (List Int)} {o : List Nat}
/-! ways exchanged -/
theorem rev_get (L : List (List Int)) (k : Nat) : (L.map List.reverse).getD k [] = (L.getD k []).reverse := by
  by_cases h : k < L.length
  · simp [h]
  · simp [h]
/-! the functions -/
end
end SL

/-! ## P39 -/
set_option maxRecDepth 100000
set_option linter.all false
set_option autoImplicit false
namespace SL
/-! ### parted orders -/
section
variable {n w : Nat} {L : List (List Int)} {o : List Nat} {s : List Int}
def okZ (L : List (List Int)) (z : List (Nat × Int)) : Prop := ∀ p ∈ z, p.1 < L.length ∧ (p.2 = 1 ∨ p.2 = -1)
theorem okZ.take {z : List (Nat × Int)} (hz : okZ L z) (i : Nat) : okZ L (z.take i) := fun p hp => hz p (List.mem_of_mem_take hp)
end
end SL

/-! ## P40 -/
set_option maxRecDepth 100000
set_option linter.all false
set_option autoImplicit false
namespace SL
section
variable {n w : Nat} {L : List (List Int)} {o : List Nat} {s : List Int}
theorem rev_tN (xs : List Nat) : revD (tN xs) = some (.sh (tN xs.reverse)) := by simp [revD, tN]
end
end SL

/-! ## P41 -/
set_option maxRecDepth 100000
set_option linter.all false
set_option autoImplicit false
namespace SL
/-! ### where to begin -/
section
variable {n w : Nat} {L : List (List Int)} {o : List Nat} {j : Nat}
end
end SL

/-! ## P42 -/
set_option maxRecDepth 100000
set_option linter.all false
set_option autoImplicit false
namespace SL
/-! ### unloaded in the order told -/
section
variable {n w : Nat} {L : List (List Int)} {o : List Nat}
end
/-! rising lists -/
end SL

/-! ## P43 -/
set_option maxRecDepth 100000
set_option linter.all false
set_option autoImplicit false
namespace SL
/-! ### the greatest of all ways through a table -/
def fw (p : Nat → Nat → Int) : Nat → Nat → Int
  | 0, 0 => p 0 0
  | 0, j + 1 => fw p 0 j + p 0 (j + 1)
  | i + 1, 0 => fw p i 0 + p (i + 1) 0
  | i + 1, j + 1 => max (fw p i (j + 1)) (fw p (i + 1) j) + p (i + 1) (j + 1)
termination_by i j => (i, j)
theorem fw00 (p : Nat → Nat → Int) : fw p 0 0 = p 0 0 := by rw [fw]
theorem fw0S (p : Nat → Nat → Int) (j : Nat) : fw p 0 (j + 1) = fw p 0 j + p 0 (j + 1) := by rw [fw]
theorem fwS0 (p : Nat → Nat → Int) (i : Nat) : fw p (i + 1) 0 = fw p i 0 + p (i + 1) 0 := by rw [fw]
theorem fwSS (p : Nat → Nat → Int) (i j : Nat) : fw p (i + 1) (j + 1) = max (fw p i (j + 1)) (fw p (i + 1) j) + p (i + 1) (j + 1) := by rw [fw]
theorem fw_down (p : Nat → Nat → Int) (i j : Nat) : fw p i j + p (i + 1) j ≤ fw p (i + 1) j := by
  cases j with
  | zero => rw [fwS0]; exact Int.le_refl _
  | succ j => rw [fwSS]; omega
theorem fw_right (p : Nat → Nat → Int) (i j : Nat) : fw p i j + p i (j + 1) ≤ fw p i (j + 1) := by
  cases i with
  | zero => rw [fw0S]; exact Int.le_refl _
  | succ i => rw [fwSS]; omega
theorem fw_congr {p q : Nat → Nat → Int} {m l : Nat} (h : ∀ i ≤ m, ∀ j ≤ l, p i j = q i j) : ∀ i ≤ m, ∀ j ≤ l, fw p i j = fw q i j := by
  intro i
  induction i with
  | zero =>
    intro hi j
    induction j with
    | zero => intro hj; rw [fw00, fw00, h 0 hi 0 hj]
    | succ j ih => intro hj; rw [fw0S, fw0S, ih (by omega), h 0 hi _ hj]
  | succ i ihi =>
    intro hi j
    induction j with
    | zero => intro hj; rw [fwS0, fwS0, ihi (by omega) 0 hj, h _ hi 0 hj]
    | succ j ih => intro hj; rw [fwSS, fwSS, ihi (by omega) _ hj, ih (by omega), h _ hi _ hj]
def bk (p : Nat → Nat → Int) (m l : Nat) : Nat → Nat → Int := fun i j => p (m - i) (l - j)
theorem fw_bk (p : Nat → Nat → Int) (m l : Nat) : ∀ a ≤ m, ∀ b ≤ l, fw p (m - a) (l - b) + fw (bk p m l) a b - p (m - a) (l - b) ≤ fw p m l := by
  intro a
  induction a with
  | zero =>
    intro ha b
    induction b with
    | zero => intro hb; rw [fw00]; simp only [bk, Nat.sub_zero]; omega
    | succ b ih =>
      intro hb
      have h1 := ih (by omega)
      have h2 := fw_right p (m - 0) (l - (b + 1))
      rw [show l - (b + 1) + 1 = l - b by omega] at h2
      rw [fw0S]
      simp only [bk] at *
      omega
  | succ a iha =>
    intro ha b
    have dn : ∀ b, fw p (m - (a + 1)) (l - b) + p (m - a) (l - b) ≤ fw p (m - a) (l - b) := fun b => by
      have := fw_down p (m - (a + 1)) (l - b)
      rwa [show m - (a + 1) + 1 = m - a by omega] at this
    induction b with
    | zero =>
      intro hb
      have h1 := iha (by omega) 0 hb
      have h2 := dn 0
      rw [fwS0]
      simp only [bk] at *
      omega
    | succ b ih =>
      intro hb
      have h1 := iha (by omega) (b + 1) hb
      have h2 := dn (b + 1)
      have h3 := ih (by omega)
      have h4 := fw_right p (m - (a + 1)) (l - (b + 1))
      rw [show l - (b + 1) + 1 = l - b by omega] at h4
      rw [fwSS]
      simp only [bk] at *
      omega
theorem fw_back (p : Nat → Nat → Int) (m l : Nat) : fw (bk p m l) m l = fw p m l := by
  have key : ∀ p : Nat → Nat → Int, fw (bk p m l) m l ≤ fw p m l := fun p => by
    have := fw_bk p m l m (Nat.le_refl _) l (Nat.le_refl _)
    rw [Nat.sub_self, Nat.sub_self, fw00] at this
    omega
  have h1 := key p
  have h2 := key (bk p m l)
  have e : fw (bk (bk p m l) m l) m l = fw p m l := fw_congr (m := m) (l := l) (fun i hi j hj => by simp only [bk]; rw [show m - (m - i) = i by omega, show l - (l - j) = j by omega]) m (Nat.le_refl _) l (Nat.le_refl _)
  omega
end SL

/-! ## P44 -/
set_option maxRecDepth 100000
set_option linter.all false
set_option autoImplicit false
namespace SL
section
variable {n k : Nat} {J : List (List Int)} {o : List Nat}
def tmO (J : List (List Int)) (o : List Nat) (i j : Nat) : Int := (J.getD (o.getD i 0) []).getD j 0
theorem fw_nonneg {p : Nat → Nat → Int} {m l : Nat} (h : ∀ i ≤ m, ∀ j ≤ l, 0 ≤ p i j) : ∀ i ≤ m, ∀ j ≤ l, 0 ≤ fw p i j := by
  intro i
  induction i with
  | zero =>
    intro hi j
    induction j with
    | zero => intro hj; rw [fw00]; exact h 0 hi 0 hj
    | succ j ih => intro hj; rw [fw0S]; have := ih (by omega); have := h 0 hi _ hj; omega
  | succ i ihi =>
    intro hi j
    cases j with
    | zero => intro hj; rw [fwS0]; have := ihi (by omega) 0 hj; have := h _ hi 0 hj; omega
    | succ j => intro hj; rw [fwSS]; have := ihi (by omega) _ hj; have := h _ hi _ hj; omega
theorem tmO_nonneg (h : Jobs k J) (hr : ∀ i ∈ o, i < J.length) : ∀ i ≤ o.length - 1, ∀ j ≤ k - 1, 0 ≤ tmO J o i j := by
  intro i hi j _
  unfold tmO
  by_cases hl : i < o.length
  · have e : o.getD i 0 = o[i] := by simp [hl]
    rw [e]
    exact getD_bound (h.at (hr _ (List.getElem_mem hl))).2
  · have e : o.getD i 0 = 0 := by simp [hl]
    rw [e]
    exact getD_bound (h.at h.n1).2
/-- each job's end at each station, by the greatest of all ways there -/
theorem end_fw (h : Jobs k J) (hr : ∀ i ∈ o, i < J.length) : ∀ i, i < o.length → ∀ j < k, (lastE J (zeros k) (o.take (i + 1))).getD j 0 = fw (tmO J o) i j := by
  have k2 := h.k2
  have nn := tmO_nonneg h hr
  intro i
  induction i with
  | zero =>
    intro hi j
    have e : o.take 1 = [o.getD 0 0] := by
      cases o with
      | nil => simp at hi
      | cons x o => rfl
    have hx := (h.at (hr (o.getD 0 0) (by cases o with | nil => simp at hi | cons x o => exact List.mem_cons_self ..))).1
    have le : lastE J (zeros k) (o.take (0 + 1)) = endRow (J.getD (o.getD 0 0) []) (zeros k) := by rw [show 0 + 1 = 1 from rfl, e]; rfl
    rw [le]
    have hl : (J.getD (o.getD 0 0) []).length = (zeros k).length := by rw [zeros_len, hx]
    induction j with
    | zero =>
      intro hj
      rw [endRow_get0 hl (by omega), zeros_get, fw00]
      show max 0 0 + tmO J o 0 0 = tmO J o 0 0
      omega
    | succ j ih =>
      intro hj
      have ihj := ih (by omega)
      have p0 := fw_nonneg (m := o.length - 1) (l := k - 1) nn 0 (by omega) j (by omega)
      rw [endRow_getS hl (by omega), zeros_get, ihj, fw0S]
      show max (fw (tmO J o) 0 j) 0 + tmO J o 0 (j + 1) = _
      omega
  | succ i ihi =>
    intro hi j
    have e : o.take (i + 1 + 1) = o.take (i + 1) ++ [o.getD (i + 1) 0] := by
      rw [List.take_add_one]; congr 1; simp [hi]
    have hx := (h.at (hr (o.getD (i + 1) 0) (by have e9 : o.getD (i + 1) 0 = o[i + 1] := by simp [hi]
                                                rw [e9]; exact List.getElem_mem hi))).1
    have hf := lastE_len h (zeros_len k) (o.take (i + 1)) (fun q hq => hr q (List.mem_of_mem_take hq))
    rw [e, lastE_snoc]
    have hl : (J.getD (o.getD (i + 1) 0) []).length = (lastE J (zeros k) (o.take (i + 1))).length := by rw [hf, hx]
    induction j with
    | zero =>
      intro hj
      have p0 := fw_nonneg (m := o.length - 1) (l := k - 1) nn i (by omega) 0 (by omega)
      rw [endRow_get0 hl (by omega), ihi (by omega) 0 hj, fwS0]
      show max 0 (fw (tmO J o) i 0) + tmO J o (i + 1) 0 = _
      omega
    | succ j ih =>
      intro hj
      rw [endRow_getS hl (by omega), ih (by omega), ihi (by omega) _ hj, fwSS]
      show max (fw (tmO J o) (i + 1) j) (fw (tmO J o) i (j + 1)) + tmO J o (i + 1) (j + 1) = _
      omega
theorem endV_fw (h : Jobs k J) (ho : Order J o) : endV J k o = fw (tmO J o) (J.length - 1) (k - 1) := by
  have n1 := h.n1
  have k2 := h.k2
  have ol := Order.len ho
  have := end_fw h (fun i hi => Order.lt ho hi) (o.length - 1) (by omega) (k - 1) (by omega)
  rw [show o.length - 1 + 1 = o.length by omega, List.take_length, ol] at this
  exact this
theorem rev_jobs (h : Jobs k J) : Jobs k (J.map List.reverse) := by
  refine ⟨h.k2, h.k4, by simpa using h.n1, by simpa using h.n8, fun p hp => ?_⟩
  obtain ⟨q, hq, rfl⟩ := List.mem_map.mp hp
  obtain ⟨h1, h2⟩ := h.row q hq
  exact ⟨by simpa using h1, fun x hx => h2 x (by simpa using hx)⟩
/-- done backwards, jobs and stations turned round, the end is the same -/
theorem end_back (h : Jobs k J) (ho : Order J o) : endV (J.map List.reverse) k o.reverse = endV J k o := by
  have n1 := h.n1
  have k2 := h.k2
  have ol := Order.len ho
  have ho' : Order (J.map List.reverse) o.reverse := by unfold Order; rw [List.length_map]; exact (List.reverse_perm o).trans ho
  rw [endV_fw (rev_jobs h) ho', endV_fw h ho, List.length_map, ← fw_back (tmO J o) (J.length - 1) (k - 1)]
  refine fw_congr (m := J.length - 1) (l := k - 1) (fun i hi j hj => ?_) _ (Nat.le_refl _) _ (Nat.le_refl _)
  simp only [tmO, bk]
  have e1 : o.reverse.getD i 0 = o.getD (J.length - 1 - i) 0 := by
    simp only [List.getD_eq_getElem?_getD]
    rw [List.getElem?_reverse (by omega), ol]
  rw [e1, rev_get]
  have hlt : o.getD (J.length - 1 - i) 0 < J.length := by
    have hh : J.length - 1 - i < o.length := by omega
    have e9 : o.getD (J.length - 1 - i) 0 = o[J.length - 1 - i] := by simp [hh]
    rw [e9]; exact Order.lt ho (List.getElem_mem hh)
  have hl := (h.at hlt).1
  simp only [List.getD_eq_getElem?_getD] at hl ⊢
  rw [List.getElem?_reverse (by omega), hl]
end
end SL

/-! ## P45 -/
set_option maxRecDepth 100000
set_option linter.all false
set_option autoImplicit false
namespace SL
section
variable {n k : Nat} {J : List (List Int)} {o : List Nat}
theorem endRow_nonneg {p f : List Int} (h : p.length = f.length) (hp : ∀ x ∈ p, 0 ≤ x ∧ x ≤ 99) : ∀ j < p.length, 0 ≤ (endRow p f).getD j 0 := by
  intro j
  induction j with
  | zero => intro hj; rw [endRow_get0 h hj]; have := getD_bound (j := 0) hp; omega
  | succ j ih => intro hj; rw [endRow_getS h hj]; have := ih (by omega); have := getD_bound (j := j + 1) hp; omega
/-- what is ahead of a job at a station -/
def aheadV (J : List (List Int)) (k : Nat) (o : List Nat) (i j : Nat) : List Int :=
  (if i = 0 ∧ j = 0 then [0] else []) ++ (if 0 < i then [(lastE J (zeros k) (o.take i)).getD j 0] else []) ++ (if 0 < j then [(endRow (J.getD (o.getD i 0) []) (lastE J (zeros k) (o.take i))).getD (j - 1) 0] else [])
theorem ahead_max (h : Jobs k J) (hr : ∀ q ∈ o, q < J.length) {i j : Nat} (hi : i < o.length) (hj : j < k) :
    aheadV J k o i j ≠ [] ∧ maxL (aheadV J k o i j) + tmO J o i j = (endRow (J.getD (o.getD i 0) []) (lastE J (zeros k) (o.take i))).getD j 0 := by
  have hx := h.at (hr (o.getD i 0) (by have e9 : o.getD i 0 = o[i] := by simp [hi]
                                       rw [e9]; exact List.getElem_mem hi))
  have hf := lastE_len h (zeros_len k) (o.take i) (fun q hq => hr q (List.mem_of_mem_take hq))
  have hl : (J.getD (o.getD i 0) []).length = (lastE J (zeros k) (o.take i)).length := by rw [hf, hx.1]
  have z0 : i = 0 → ∀ j, (lastE J (zeros k) (o.take i)).getD j 0 = 0 := fun e j => by
    subst e
    show (zeros k).getD j 0 = 0
    exact zeros_get k j
  have fn : 0 < i → 0 ≤ (lastE J (zeros k) (o.take i)).getD j 0 := fun hi0 => by
    have := end_fw h hr (i - 1) (by omega) j hj
    rw [show i - 1 + 1 = i by omega] at this
    rw [this]
    exact fw_nonneg (m := o.length - 1) (l := k - 1) (tmO_nonneg h hr) (i - 1) (by omega) j (by omega)
  have rn := endRow_nonneg hl hx.2
  unfold aheadV
  cases j with
  | zero =>
    rw [endRow_get0 hl (by rw [hx.1]; omega)]
    by_cases c : i = 0
    · rw [if_pos ⟨c, rfl⟩, if_neg (by omega), if_neg (by omega), z0 c 0]
      refine ⟨by simp, ?_⟩
      simp only [List.append_nil, maxL, most, tmO]; omega
    · rw [if_neg (by omega), if_pos (by omega), if_neg (by omega)]
      refine ⟨by simp, ?_⟩
      have := fn (by omega)
      simp only [List.append_nil, List.nil_append, maxL, most, tmO]; omega
  | succ j =>
    have r0 := rn j (by rw [hx.1]; omega)
    rw [endRow_getS hl (by rw [hx.1]; omega), if_neg (by omega), if_pos (show 0 < j + 1 by omega), Nat.add_sub_cancel]
    by_cases c : i = 0
    · rw [if_neg (by omega), z0 c (j + 1)]
      refine ⟨by simp, ?_⟩
      simp only [List.nil_append, maxL, most, tmO]; omega
    · rw [if_pos (by omega)]
      refine ⟨by simp, ?_⟩
      simp only [List.nil_append, List.singleton_append, maxL, most, tmO]
      split <;> omega
end
end SL

/-! ## P46 -/
set_option maxRecDepth 100000
set_option linter.all false
set_option autoImplicit false
namespace SL
section
variable {n k : Nat} {J : List (List Int)} {o : List Nat}
theorem ways_end_sp (hn : 1 ≤ n) (h : Jobs k J) (ho : Order J o) : run GA n i_Lways_end [.sh (tT J), .sh (tN o)] = .ret (.mu (lT (endsV J (zeros k) o))) [.no, .no] := by
  obtain ⟨n, rfl⟩ : ∃ m, n = m + 1 := ⟨n - 1, by omega⟩
  rw [run_def rfl rfl]
  have n8 := h.n8
  have n1 := h.n1
  have k2 := h.k2
  have k4 := h.k4
  have ol := Order.len ho
  have hr : ∀ q ∈ o, q < J.length := fun q hq => Order.lt ho hq
  let M : Nat → List (List Int) := fun i => endsV J (zeros k) (o.take i)
  let R : Nat → List Int := fun i => endRow (J.getD (o.getD i 0) []) (lastE J (zeros k) (o.take i))
  have hx : ∀ i, i < o.length → o.getD i 0 < J.length := fun i hi => hr _ (by
    have e9 : o.getD i 0 = o[i] := by simp [hi]
    rw [e9]; exact List.getElem_mem hi)
  have hRl : ∀ i, i < o.length → (R i).length = k := fun i hi => by
    have hf := lastE_len h (zeros_len k) (o.take i) (fun q hq => hr q (List.mem_of_mem_take hq))
    simp only [R]
    rw [endRow_len (by rw [hf, (h.at (hx i hi)).1]), (h.at (hx i hi)).1]
  have hMl : ∀ i, i ≤ o.length → (M i).length = i := fun i hi => by simp only [M]; rw [endsV_len, List.length_take]; omega
  have hMS : ∀ i, i < o.length → M (i + 1) = M i ++ [R i] := fun i hi => by
    simp only [M, R]
    rw [List.take_add_one, show o[i]?.toList = [o.getD i 0] by simp [hi], endsV_snoc]
  have hMi : ∀ i, 0 < i → i ≤ o.length → (M i).getD (i - 1) [] = lastE J (zeros k) (o.take i) := fun i hi hio => by
    have e1 := endsV_last J (o.take i) (zeros k) (by intro e; have := congrArg List.length e; rw [List.length_take, List.length_nil] at this; omega)
    rw [List.getLast?_eq_getElem?] at e1
    simp only [M, List.getD_eq_getElem?_getD]
    rw [endsV_len, List.length_take, Nat.min_eq_left hio] at e1
    rw [e1]; rfl
  let A : List (List Int) → Slot → Slot → Slot → Slot → Env := fun m a b c d => [.sh (tT J), .sh (tN o), .mu (lT m), a, b, c, d]
  have rk : ∀ ρ, kRng (fun n => .sh (.lst (range 0 n))) (some (.int (k : Nat))) ρ = .ok (.sh (.lst ((List.range k).map (fun k : Nat => D.int k)))) ρ := fun ρ => by
    have := rng1_i (n := (k : Nat)) (ρ := ρ) (by rw [lim_eq]; omega) (by rw [lim_eq]; omega)
    simpa using this
  have ro : ∀ ρ, kRng (fun n => .sh (.lst (range 0 n))) (some (.int (o.length : Nat))) ρ = .ok (.sh (.lst ((List.range o.length).map (fun k : Nat => D.int k)))) ρ := fun ρ => by
    have := rng1_i (n := (o.length : Nat)) (ρ := ρ) (by rw [lim_eq]; omega) (by rw [lim_eq]; omega)
    simpa using this
  obtain ⟨ρ1, e1, s3, s4, s5, s6, rfl, _⟩ := forD_nx (t := .nm 3) (b := exes (run GA n) b_Lways_end_1) (g := (fun k : Nat => D.int k)) (ys := List.range o.length) (ρ := A (M 0) .no .no .no .no)
    (fun d ρ => ∃ a b c e, ρ = A (M d.length) a b c e ∧ okS a ∧ okS b ∧ okS c ∧ okS e) ⟨_, _, _, _, rfl, trivial, trivial, trivial, trivial⟩ (fun d i rest ρ e ⟨s3, s4, s5, s6, e2, h3, h4, h5, h6⟩ => by
      subst e2
      have hi : i = d.length := by
        have z1 : (List.range o.length)[d.length]? = some i := by rw [← e]; simp
        obtain ⟨z3, z4⟩ := List.getElem?_eq_some_iff.mp z1
        rw [List.getElem_range] at z4
        exact z4.symm
      have hil : i < o.length := by
        have : i ∈ List.range o.length := by rw [← e]; simp
        simpa using this
      subst hi
      obtain ⟨i, hid⟩ : ∃ i, i = d.length := ⟨_, rfl⟩
      rw [← hid] at hil ⊢
      have iO : item (tN o) (.int (i : Nat)) = some (.int (o.getD i 0 : Nat)) := by
        have e9 : place o.length (i : Int) = some i := by unfold place; simp [hil]
        simp [item, tN, e9, hil]
      have iJ : item (tT J) (.int (o.getD i 0 : Nat)) = some (tI (J.getD (o.getD i 0) [])) := by
        have := item_tT (L := J) (i := ((o.getD i 0 : Nat) : Int)) (by omega) (by have := hx i hil; omega)
        simpa using this
      obtain ⟨ρ2, e3, w5, w6, rfl, ok5, ok6⟩ := forD_nx (t := .nm 5) (b := exes (run GA n) b_Lways_end_0) (g := (fun k : Nat => D.int k)) (ys := List.range k) (ρ := A (M i) (.sh (.int (i : Nat))) (.mu (lI [])) s5 s6)
        (fun c ρ => ∃ a b, ρ = A (M i) (.sh (.int (i : Nat))) (.mu (lI ((R i).take c.length))) a b ∧ okS a ∧ okS b) ⟨_, _, rfl, h5, h6⟩ (fun c j rest ρ e ⟨s5, s6, e2, h5, h6⟩ => by
          subst e2
          have hj : j = c.length := by
            have z1 : (List.range k)[c.length]? = some j := by rw [← e]; simp
            obtain ⟨z3, z4⟩ := List.getElem?_eq_some_iff.mp z1
            rw [List.getElem_range] at z4
            exact z4.symm
          have hjl : j < k := by
            have : j ∈ List.range k := by rw [← e]; simp
            simpa using this
          subst hj
          obtain ⟨j, hjd⟩ : ∃ j, j = c.length := ⟨_, rfl⟩
          have hcl : (c ++ [c.length]).length = j + 1 := by simp [hjd]
          rw [hcl]
          rw [← hjd] at hjl ⊢
          obtain ⟨hne, hmx⟩ := ahead_max h hr hil hjl
          have hRi := hRl i hil
          have tk : (R i).take (j + 1) = (R i).take j ++ [(R i).getD j 0] := by
            rw [List.take_add_one]; congr 1; simp [hRi, hjl]
          have iT : item (tI (J.getD (o.getD i 0) [])) (.int (j : Nat)) = some (.int (tmO J o i j)) := by
            have := item_tI (L := J.getD (o.getD i 0) []) (i := (j : Nat)) (by omega) (by rw [(h.at (hx i hil)).1]; omega)
            simpa [tmO] using this
          have tl : ((R i).take j).length = j := by rw [List.length_take]; omega
          have bm := max_lI hne
          have hv : maxL (aheadV J k o i j) + tmO J o i j = (R i).getD j 0 := hmx
          refine ⟨A (M i) (.sh (.int (i : Nat))) (.mu (lI ((R i).take j))) (.sh (.int (j : Nat))) s6, by simp only [A, r_var, kVar_sh, kVar_mu, kVar_br, kVar_lk, r_look0, r_look1, r_set0, r_set1, cont_sh, cont_mu, cont_br, cont_lk, peek_slot, peek_sh, peek_mu, frz_slot, frz_sh, frz_mu, kFrz_sh, kFrz_mu, kO_some, r_frzR, r_cst, r_glb, r_tup, r_lst, r_dnew, kBin_some, r_bin, kRep_some, r_lrep, kNeg_i, r_neg, kB_b, r_asB, r_not, r_and, r_or, kCmpR_some, kCmp_some, r_cmp, kCh2_some, kCh_some, r_chain, r_ite, kOut_sh, kOut_mu, kOut_exc, kCall_some, r_call, lends_nil, lends_val, lends_len, lends_mov, kSl_some, kOw_some, sl_nil, sl_val, sl_mov, sl_len, r_own, kOwn_mu, kOwn_br, bk_nil, bk_val, bk_mov, kBk_some, bk_len, r_upd, kUpd_mu, kUpd_br, kLend_mu, kLend_br, arg_lend, arg_mov, kVal_some, arg_val, arg_nil, arg_cons0, arg_cons, evs_nil, evs_cons, evAnd_cons, evOr_cons, evAnd_nil, if_tt, if_ff, kBi1_some, kBi2_some, r_bi1, r_bi2, r_isi, kIsi_non, kIsi_bl, kIsi_int, kIsi_str, kIsi_tup, kIsi_lst, kIsi_wr, kIt1_some, kIdx_some, r_idx, kOI_i, oi_nil, oi_one, kSlc_some, r_slc, kRev_some, r_rev, kIts_some, kAs_some, r_asIt, items_lst, items_tup, items_wr, kRng_i, r_rng1, r_listRng, r_tupRng, kRng2_i, r_rng2, kZip_some, r_zip, kLz_some, r_listZip, kEn_lst, r_enum, kApp_lst, kIsL_lst, r_isL, r_app, kExt_lst, r_ext, kPop_lst, r_pop, kPopAt_lst, r_popAt, x_asg, kPut_no, kPut_sh, kPut_mu, r_put, st_mu, st_sh, st_slot, sts_nil, sts_cons, x_unp, x_par, evps_nil, evps_cons, settle_sh, settle_mu, settle_slot, x_ex, x_ite, x_for, x_wh, kRet_sh, kRet_mu, kRetP_slot, kRetP_sh, kRetP_mu, x_ret, x_raise, x_pass, kSeq_nx, kSeq_ret, xs_nil, xs_cons, r_setItem, kSI_lst, kSI_dct, x_setI, kAug_add, kAug_sub, kAugS_sh, x_aug, t_nm, t_tp, kTs_some, ts_nil, ts_cons, kDef_ret, kDef_nx, kDef_exc, brOnly_br, brOnly_no, brOnly_sh, brOnly_mu, lent1, lent2, lent3, lent4, lent5, ty_int_int, ty_bool_int, ty_int_bl, ty_bool_bl, ↓evAnd_one, ↓evOr_one, unwipe, wipe, bt_ok, bt_exc, bt_stuck, lift_some, liftE_some, calm_ok, b_and, b_or, b_andP, cmp_eq_i, cmp_ne_i, cmp_lt_i, cmp_le_i, cmp_gt_i, cmp_ge_i, cmp_is_non, cmp_isnot_non, cmp_is_b, cmp_isnot_b, bin_add_i, bin_sub_i, List.cons_append, List.nil_append, List.append_nil, List.replicate_succ, List.replicate_zero, Nat.reduceSub, Nat.reduceAdd, Nat.reduceLT, Nat.reduceLeDiff, Nat.zero_le, Nat.le_refl, if_true, ite_true, if_false, ite_false, ↓reduceIte, List.length_cons, List.length_nil, Option.isSome_some, ne_eq, not_true_eq_false, not_false_eq_true, eq_self, decide_true, decide_false, Bool.not_true, Bool.not_false, Bool.and_true, Bool.true_and, Bool.false_and, Bool.or_false, Bool.false_or, Bool.true_or, kPut_ok h5], A (M i) (.sh (.int (i : Nat))) (.mu (lI ((R i).take (j + 1)))) (.sh (.int (j : Nat))) (.mu (lI (aheadV J k o i j))), ?_, _, _, rfl, trivial, trivial⟩
          rw [tk, ← hv]
          have iM : 0 < i → item (lT (M i)) (.int ((i : Int) - 1)) = some (tI (lastE J (zeros k) (o.take i))) := fun hi0 => by
            have hp : place (M i).length ((i : Int) - 1) = some (i - 1) := by
              unfold place; rw [hMl i (by omega), if_pos (by omega), if_pos (by omega)]; congr 1; omega
            have hm := hMi i hi0 (by omega)
            have hlt : i - 1 < (M i).length := by rw [hMl i (by omega)]; omega
            rw [List.getD_eq_getElem?_getD, List.getElem?_eq_getElem hlt] at hm
            simp only [item, lT, List.length_map, hp, Option.bind_some, List.getElem?_map, List.getElem?_eq_getElem hlt, Option.map_some]
            rw [← hm]; rfl
          have iMj : item (tI (lastE J (zeros k) (o.take i))) (.int (j : Nat)) = some (.int ((lastE J (zeros k) (o.take i)).getD j 0)) := by
            have hf := lastE_len h (zeros_len k) (o.take i) (fun q hq => hr q (List.mem_of_mem_take hq))
            have := item_tI (L := lastE J (zeros k) (o.take i)) (i := (j : Nat)) (by omega) (by rw [hf]; omega)
            simpa using this
          have iR : 0 < j → item (lI ((R i).take j)) (.int ((j : Int) - 1)) = some (.int ((R i).getD (j - 1) 0)) := fun hj0 => by
            have := item_lI (L := (R i).take j) (i := (j : Int) - 1) (by omega) (by rw [tl]; omega)
            rw [this, show ((j : Int) - 1).toNat = j - 1 by omega]
            congr 2
            simp only [List.getD_eq_getElem?_getD]
            rw [List.getElem?_take, if_pos (by omega)]
          have one : D.lst [.int 0] = lI [0] := rfl
          have nil : D.lst [] = lI [] := rfl
          have kA : ∀ (x : Int) (xs : List Int) (ρ : Env) (t : Nat), xs.length ≤ 10 → kApp (.int x) (some (lI xs)) ρ t = (liftE (upd ρ t (lI (xs ++ [x])))).bt fun _ ρ2 => .ok (.sh .non) ρ2 := fun x xs ρ t hl => kApp_lI (by rw [lim_eq]; omega)
          have kR : ∀ (x : Int) (ρ : Env) (t : Nat), kApp (.int x) (some (lI ((R i).take j))) ρ t = (liftE (upd ρ t (lI ((R i).take j ++ [x])))).bt fun _ ρ2 => .ok (.sh .non) ρ2 := fun x ρ t => kApp_lI (by rw [tl, lim_eq]; omega)
          by_cases ci : i = 0 <;> by_cases cj : j = 0
          · have a0 : aheadV J k o i j = [0] := by simp [aheadV, ci, cj]
            rw [a0] at bm ⊢
            have g1 : decide ((i : Int) = 0) = true := decide_eq_true (by omega)
            have g2 : decide ((j : Int) = 0) = true := decide_eq_true (by omega)
            have g3 : decide ((0 : Int) < (i : Int)) = false := decide_eq_false (by omega)
            have g4 : decide ((0 : Int) < (j : Int)) = false := decide_eq_false (by omega)
            simp only [b_Lways_end_0, A, r_var, kVar_sh, kVar_mu, kVar_br, kVar_lk, r_look0, r_look1, r_set0, r_set1, cont_sh, cont_mu, cont_br, cont_lk, peek_slot, peek_sh, peek_mu, frz_slot, frz_sh, frz_mu, kFrz_sh, kFrz_mu, kO_some, r_frzR, r_cst, r_glb, r_tup, r_lst, r_dnew, kBin_some, r_bin, kRep_some, r_lrep, kNeg_i, r_neg, kB_b, r_asB, r_not, r_and, r_or, kCmpR_some, kCmp_some, r_cmp, kCh2_some, kCh_some, r_chain, r_ite, kOut_sh, kOut_mu, kOut_exc, kCall_some, r_call, lends_nil, lends_val, lends_len, lends_mov, kSl_some, kOw_some, sl_nil, sl_val, sl_mov, sl_len, r_own, kOwn_mu, kOwn_br, bk_nil, bk_val, bk_mov, kBk_some, bk_len, r_upd, kUpd_mu, kUpd_br, kLend_mu, kLend_br, arg_lend, arg_mov, kVal_some, arg_val, arg_nil, arg_cons0, arg_cons, evs_nil, evs_cons, evAnd_cons, evOr_cons, evAnd_nil, if_tt, if_ff, kBi1_some, kBi2_some, r_bi1, r_bi2, r_isi, kIsi_non, kIsi_bl, kIsi_int, kIsi_str, kIsi_tup, kIsi_lst, kIsi_wr, kIt1_some, kIdx_some, r_idx, kOI_i, oi_nil, oi_one, kSlc_some, r_slc, kRev_some, r_rev, kIts_some, kAs_some, r_asIt, items_lst, items_tup, items_wr, kRng_i, r_rng1, r_listRng, r_tupRng, kRng2_i, r_rng2, kZip_some, r_zip, kLz_some, r_listZip, kEn_lst, r_enum, kApp_lst, kIsL_lst, r_isL, r_app, kExt_lst, r_ext, kPop_lst, r_pop, kPopAt_lst, r_popAt, x_asg, kPut_no, kPut_sh, kPut_mu, r_put, st_mu, st_sh, st_slot, sts_nil, sts_cons, x_unp, x_par, evps_nil, evps_cons, settle_sh, settle_mu, settle_slot, x_ex, x_ite, x_for, x_wh, kRet_sh, kRet_mu, kRetP_slot, kRetP_sh, kRetP_mu, x_ret, x_raise, x_pass, kSeq_nx, kSeq_ret, xs_nil, xs_cons, r_setItem, kSI_lst, kSI_dct, x_setI, kAug_add, kAug_sub, kAugS_sh, x_aug, t_nm, t_tp, kTs_some, ts_nil, ts_cons, kDef_ret, kDef_nx, kDef_exc, brOnly_br, brOnly_no, brOnly_sh, brOnly_mu, lent1, lent2, lent3, lent4, lent5, ty_int_int, ty_bool_int, ty_int_bl, ty_bool_bl, ↓evAnd_one, ↓evOr_one, unwipe, wipe, bt_ok, bt_exc, bt_stuck, lift_some, liftE_some, calm_ok, b_and, b_or, b_andP, cmp_eq_i, cmp_ne_i, cmp_lt_i, cmp_le_i, cmp_gt_i, cmp_ge_i, cmp_is_non, cmp_isnot_non, cmp_is_b, cmp_isnot_b, bin_add_i, bin_sub_i, List.cons_append, List.nil_append, List.append_nil, List.replicate_succ, List.replicate_zero, Nat.reduceSub, Nat.reduceAdd, Nat.reduceLT, Nat.reduceLeDiff, Nat.zero_le, Nat.le_refl, if_true, ite_true, if_false, ite_false, ↓reduceIte, List.length_cons, List.length_nil, Option.isSome_some, ne_eq, not_true_eq_false, not_false_eq_true, eq_self, decide_true, decide_false, Bool.not_true, Bool.not_false, Bool.and_true, Bool.true_and, Bool.false_and, Bool.or_false, Bool.false_or, Bool.true_or, g1, g2, g3, g4, one, kPut_ok h6, bm, iO, iJ, iT, isL_lI, kR, Bool.false_eq_true, if_false]
          · have a0 : aheadV J k o i j = [(R i).getD (j - 1) 0] := by simp [aheadV, ci, cj, R]
            rw [a0] at bm ⊢
            have g1 : decide ((i : Int) = 0) = true := decide_eq_true (by omega)
            have g2 : decide ((j : Int) = 0) = false := decide_eq_false (by omega)
            have g3 : decide ((0 : Int) < (i : Int)) = false := decide_eq_false (by omega)
            have g4 : decide ((0 : Int) < (j : Int)) = true := decide_eq_true (by omega)
            simp only [b_Lways_end_0, A, r_var, kVar_sh, kVar_mu, kVar_br, kVar_lk, r_look0, r_look1, r_set0, r_set1, cont_sh, cont_mu, cont_br, cont_lk, peek_slot, peek_sh, peek_mu, frz_slot, frz_sh, frz_mu, kFrz_sh, kFrz_mu, kO_some, r_frzR, r_cst, r_glb, r_tup, r_lst, r_dnew, kBin_some, r_bin, kRep_some, r_lrep, kNeg_i, r_neg, kB_b, r_asB, r_not, r_and, r_or, kCmpR_some, kCmp_some, r_cmp, kCh2_some, kCh_some, r_chain, r_ite, kOut_sh, kOut_mu, kOut_exc, kCall_some, r_call, lends_nil, lends_val, lends_len, lends_mov, kSl_some, kOw_some, sl_nil, sl_val, sl_mov, sl_len, r_own, kOwn_mu, kOwn_br, bk_nil, bk_val, bk_mov, kBk_some, bk_len, r_upd, kUpd_mu, kUpd_br, kLend_mu, kLend_br, arg_lend, arg_mov, kVal_some, arg_val, arg_nil, arg_cons0, arg_cons, evs_nil, evs_cons, evAnd_cons, evOr_cons, evAnd_nil, if_tt, if_ff, kBi1_some, kBi2_some, r_bi1, r_bi2, r_isi, kIsi_non, kIsi_bl, kIsi_int, kIsi_str, kIsi_tup, kIsi_lst, kIsi_wr, kIt1_some, kIdx_some, r_idx, kOI_i, oi_nil, oi_one, kSlc_some, r_slc, kRev_some, r_rev, kIts_some, kAs_some, r_asIt, items_lst, items_tup, items_wr, kRng_i, r_rng1, r_listRng, r_tupRng, kRng2_i, r_rng2, kZip_some, r_zip, kLz_some, r_listZip, kEn_lst, r_enum, kApp_lst, kIsL_lst, r_isL, r_app, kExt_lst, r_ext, kPop_lst, r_pop, kPopAt_lst, r_popAt, x_asg, kPut_no, kPut_sh, kPut_mu, r_put, st_mu, st_sh, st_slot, sts_nil, sts_cons, x_unp, x_par, evps_nil, evps_cons, settle_sh, settle_mu, settle_slot, x_ex, x_ite, x_for, x_wh, kRet_sh, kRet_mu, kRetP_slot, kRetP_sh, kRetP_mu, x_ret, x_raise, x_pass, kSeq_nx, kSeq_ret, xs_nil, xs_cons, r_setItem, kSI_lst, kSI_dct, x_setI, kAug_add, kAug_sub, kAugS_sh, x_aug, t_nm, t_tp, kTs_some, ts_nil, ts_cons, kDef_ret, kDef_nx, kDef_exc, brOnly_br, brOnly_no, brOnly_sh, brOnly_mu, lent1, lent2, lent3, lent4, lent5, ty_int_int, ty_bool_int, ty_int_bl, ty_bool_bl, ↓evAnd_one, ↓evOr_one, unwipe, wipe, bt_ok, bt_exc, bt_stuck, lift_some, liftE_some, calm_ok, b_and, b_or, b_andP, cmp_eq_i, cmp_ne_i, cmp_lt_i, cmp_le_i, cmp_gt_i, cmp_ge_i, cmp_is_non, cmp_isnot_non, cmp_is_b, cmp_isnot_b, bin_add_i, bin_sub_i, List.cons_append, List.nil_append, List.append_nil, List.replicate_succ, List.replicate_zero, Nat.reduceSub, Nat.reduceAdd, Nat.reduceLT, Nat.reduceLeDiff, Nat.zero_le, Nat.le_refl, if_true, ite_true, if_false, ite_false, ↓reduceIte, List.length_cons, List.length_nil, Option.isSome_some, ne_eq, not_true_eq_false, not_false_eq_true, eq_self, decide_true, decide_false, Bool.not_true, Bool.not_false, Bool.and_true, Bool.true_and, Bool.false_and, Bool.or_false, Bool.false_or, Bool.true_or, g1, g2, g3, g4, nil, kPut_ok h6, bm, iO, iJ, iT, isL_lI, kR, iR (by omega), kA _ [] _ _ (by simp), Bool.false_eq_true, if_false]
          · have a0 : aheadV J k o i j = [(lastE J (zeros k) (o.take i)).getD j 0] := by simp [aheadV, ci, cj]
            rw [a0] at bm ⊢
            have g1 : decide ((i : Int) = 0) = false := decide_eq_false (by omega)
            have g3 : decide ((0 : Int) < (i : Int)) = true := decide_eq_true (by omega)
            have g4 : decide ((0 : Int) < (j : Int)) = false := decide_eq_false (by omega)
            simp only [b_Lways_end_0, A, r_var, kVar_sh, kVar_mu, kVar_br, kVar_lk, r_look0, r_look1, r_set0, r_set1, cont_sh, cont_mu, cont_br, cont_lk, peek_slot, peek_sh, peek_mu, frz_slot, frz_sh, frz_mu, kFrz_sh, kFrz_mu, kO_some, r_frzR, r_cst, r_glb, r_tup, r_lst, r_dnew, kBin_some, r_bin, kRep_some, r_lrep, kNeg_i, r_neg, kB_b, r_asB, r_not, r_and, r_or, kCmpR_some, kCmp_some, r_cmp, kCh2_some, kCh_some, r_chain, r_ite, kOut_sh, kOut_mu, kOut_exc, kCall_some, r_call, lends_nil, lends_val, lends_len, lends_mov, kSl_some, kOw_some, sl_nil, sl_val, sl_mov, sl_len, r_own, kOwn_mu, kOwn_br, bk_nil, bk_val, bk_mov, kBk_some, bk_len, r_upd, kUpd_mu, kUpd_br, kLend_mu, kLend_br, arg_lend, arg_mov, kVal_some, arg_val, arg_nil, arg_cons0, arg_cons, evs_nil, evs_cons, evAnd_cons, evOr_cons, evAnd_nil, if_tt, if_ff, kBi1_some, kBi2_some, r_bi1, r_bi2, r_isi, kIsi_non, kIsi_bl, kIsi_int, kIsi_str, kIsi_tup, kIsi_lst, kIsi_wr, kIt1_some, kIdx_some, r_idx, kOI_i, oi_nil, oi_one, kSlc_some, r_slc, kRev_some, r_rev, kIts_some, kAs_some, r_asIt, items_lst, items_tup, items_wr, kRng_i, r_rng1, r_listRng, r_tupRng, kRng2_i, r_rng2, kZip_some, r_zip, kLz_some, r_listZip, kEn_lst, r_enum, kApp_lst, kIsL_lst, r_isL, r_app, kExt_lst, r_ext, kPop_lst, r_pop, kPopAt_lst, r_popAt, x_asg, kPut_no, kPut_sh, kPut_mu, r_put, st_mu, st_sh, st_slot, sts_nil, sts_cons, x_unp, x_par, evps_nil, evps_cons, settle_sh, settle_mu, settle_slot, x_ex, x_ite, x_for, x_wh, kRet_sh, kRet_mu, kRetP_slot, kRetP_sh, kRetP_mu, x_ret, x_raise, x_pass, kSeq_nx, kSeq_ret, xs_nil, xs_cons, r_setItem, kSI_lst, kSI_dct, x_setI, kAug_add, kAug_sub, kAugS_sh, x_aug, t_nm, t_tp, kTs_some, ts_nil, ts_cons, kDef_ret, kDef_nx, kDef_exc, brOnly_br, brOnly_no, brOnly_sh, brOnly_mu, lent1, lent2, lent3, lent4, lent5, ty_int_int, ty_bool_int, ty_int_bl, ty_bool_bl, ↓evAnd_one, ↓evOr_one, unwipe, wipe, bt_ok, bt_exc, bt_stuck, lift_some, liftE_some, calm_ok, b_and, b_or, b_andP, cmp_eq_i, cmp_ne_i, cmp_lt_i, cmp_le_i, cmp_gt_i, cmp_ge_i, cmp_is_non, cmp_isnot_non, cmp_is_b, cmp_isnot_b, bin_add_i, bin_sub_i, List.cons_append, List.nil_append, List.append_nil, List.replicate_succ, List.replicate_zero, Nat.reduceSub, Nat.reduceAdd, Nat.reduceLT, Nat.reduceLeDiff, Nat.zero_le, Nat.le_refl, if_true, ite_true, if_false, ite_false, ↓reduceIte, List.length_cons, List.length_nil, Option.isSome_some, ne_eq, not_true_eq_false, not_false_eq_true, eq_self, decide_true, decide_false, Bool.not_true, Bool.not_false, Bool.and_true, Bool.true_and, Bool.false_and, Bool.or_false, Bool.false_or, Bool.true_or, g1, g3, g4, nil, kPut_ok h6, bm, iO, iJ, iT, isL_lI, kR, iM (by omega), iMj, kA _ [] _ _ (by simp), Bool.false_eq_true, if_false]
          · have a0 : aheadV J k o i j = [(lastE J (zeros k) (o.take i)).getD j 0, (R i).getD (j - 1) 0] := by
              simp only [aheadV, R]
              rw [if_neg (by omega), if_pos (by omega), if_pos (by omega)]; rfl
            rw [a0] at bm ⊢
            have g1 : decide ((i : Int) = 0) = false := decide_eq_false (by omega)
            have g3 : decide ((0 : Int) < (i : Int)) = true := decide_eq_true (by omega)
            have g4 : decide ((0 : Int) < (j : Int)) = true := decide_eq_true (by omega)
            simp only [b_Lways_end_0, A, r_var, kVar_sh, kVar_mu, kVar_br, kVar_lk, r_look0, r_look1, r_set0, r_set1, cont_sh, cont_mu, cont_br, cont_lk, peek_slot, peek_sh, peek_mu, frz_slot, frz_sh, frz_mu, kFrz_sh, kFrz_mu, kO_some, r_frzR, r_cst, r_glb, r_tup, r_lst, r_dnew, kBin_some, r_bin, kRep_some, r_lrep, kNeg_i, r_neg, kB_b, r_asB, r_not, r_and, r_or, kCmpR_some, kCmp_some, r_cmp, kCh2_some, kCh_some, r_chain, r_ite, kOut_sh, kOut_mu, kOut_exc, kCall_some, r_call, lends_nil, lends_val, lends_len, lends_mov, kSl_some, kOw_some, sl_nil, sl_val, sl_mov, sl_len, r_own, kOwn_mu, kOwn_br, bk_nil, bk_val, bk_mov, kBk_some, bk_len, r_upd, kUpd_mu, kUpd_br, kLend_mu, kLend_br, arg_lend, arg_mov, kVal_some, arg_val, arg_nil, arg_cons0, arg_cons, evs_nil, evs_cons, evAnd_cons, evOr_cons, evAnd_nil, if_tt, if_ff, kBi1_some, kBi2_some, r_bi1, r_bi2, r_isi, kIsi_non, kIsi_bl, kIsi_int, kIsi_str, kIsi_tup, kIsi_lst, kIsi_wr, kIt1_some, kIdx_some, r_idx, kOI_i, oi_nil, oi_one, kSlc_some, r_slc, kRev_some, r_rev, kIts_some, kAs_some, r_asIt, items_lst, items_tup, items_wr, kRng_i, r_rng1, r_listRng, r_tupRng, kRng2_i, r_rng2, kZip_some, r_zip, kLz_some, r_listZip, kEn_lst, r_enum, kApp_lst, kIsL_lst, r_isL, r_app, kExt_lst, r_ext, kPop_lst, r_pop, kPopAt_lst, r_popAt, x_asg, kPut_no, kPut_sh, kPut_mu, r_put, st_mu, st_sh, st_slot, sts_nil, sts_cons, x_unp, x_par, evps_nil, evps_cons, settle_sh, settle_mu, settle_slot, x_ex, x_ite, x_for, x_wh, kRet_sh, kRet_mu, kRetP_slot, kRetP_sh, kRetP_mu, x_ret, x_raise, x_pass, kSeq_nx, kSeq_ret, xs_nil, xs_cons, r_setItem, kSI_lst, kSI_dct, x_setI, kAug_add, kAug_sub, kAugS_sh, x_aug, t_nm, t_tp, kTs_some, ts_nil, ts_cons, kDef_ret, kDef_nx, kDef_exc, brOnly_br, brOnly_no, brOnly_sh, brOnly_mu, lent1, lent2, lent3, lent4, lent5, ty_int_int, ty_bool_int, ty_int_bl, ty_bool_bl, ↓evAnd_one, ↓evOr_one, unwipe, wipe, bt_ok, bt_exc, bt_stuck, lift_some, liftE_some, calm_ok, b_and, b_or, b_andP, cmp_eq_i, cmp_ne_i, cmp_lt_i, cmp_le_i, cmp_gt_i, cmp_ge_i, cmp_is_non, cmp_isnot_non, cmp_is_b, cmp_isnot_b, bin_add_i, bin_sub_i, List.cons_append, List.nil_append, List.append_nil, List.replicate_succ, List.replicate_zero, Nat.reduceSub, Nat.reduceAdd, Nat.reduceLT, Nat.reduceLeDiff, Nat.zero_le, Nat.le_refl, if_true, ite_true, if_false, ite_false, ↓reduceIte, List.length_cons, List.length_nil, Option.isSome_some, ne_eq, not_true_eq_false, not_false_eq_true, eq_self, decide_true, decide_false, Bool.not_true, Bool.not_false, Bool.and_true, Bool.true_and, Bool.false_and, Bool.or_false, Bool.false_or, Bool.true_or, g1, g3, g4, nil, kPut_ok h6, bm, iO, iJ, iT, isL_lI, kR, iM (by omega), iMj, iR (by omega), kA _ [] _ _ (by simp), kA _ [_] _ _ (by simp), Bool.false_eq_true, if_false])
      rw [List.length_range] at e3
      have full : (R i).take k = R i := List.take_of_length_le (by rw [hRl i hil]; omega)
      rw [full] at e3
      have hlen : (d ++ [i]).length = i + 1 := by simp [hid]
      refine ⟨A (M i) (.sh (.int (i : Nat))) s4 s5 s6, by simp only [A, r_var, kVar_sh, kVar_mu, kVar_br, kVar_lk, r_look0, r_look1, r_set0, r_set1, cont_sh, cont_mu, cont_br, cont_lk, peek_slot, peek_sh, peek_mu, frz_slot, frz_sh, frz_mu, kFrz_sh, kFrz_mu, kO_some, r_frzR, r_cst, r_glb, r_tup, r_lst, r_dnew, kBin_some, r_bin, kRep_some, r_lrep, kNeg_i, r_neg, kB_b, r_asB, r_not, r_and, r_or, kCmpR_some, kCmp_some, r_cmp, kCh2_some, kCh_some, r_chain, r_ite, kOut_sh, kOut_mu, kOut_exc, kCall_some, r_call, lends_nil, lends_val, lends_len, lends_mov, kSl_some, kOw_some, sl_nil, sl_val, sl_mov, sl_len, r_own, kOwn_mu, kOwn_br, bk_nil, bk_val, bk_mov, kBk_some, bk_len, r_upd, kUpd_mu, kUpd_br, kLend_mu, kLend_br, arg_lend, arg_mov, kVal_some, arg_val, arg_nil, arg_cons0, arg_cons, evs_nil, evs_cons, evAnd_cons, evOr_cons, evAnd_nil, if_tt, if_ff, kBi1_some, kBi2_some, r_bi1, r_bi2, r_isi, kIsi_non, kIsi_bl, kIsi_int, kIsi_str, kIsi_tup, kIsi_lst, kIsi_wr, kIt1_some, kIdx_some, r_idx, kOI_i, oi_nil, oi_one, kSlc_some, r_slc, kRev_some, r_rev, kIts_some, kAs_some, r_asIt, items_lst, items_tup, items_wr, kRng_i, r_rng1, r_listRng, r_tupRng, kRng2_i, r_rng2, kZip_some, r_zip, kLz_some, r_listZip, kEn_lst, r_enum, kApp_lst, kIsL_lst, r_isL, r_app, kExt_lst, r_ext, kPop_lst, r_pop, kPopAt_lst, r_popAt, x_asg, kPut_no, kPut_sh, kPut_mu, r_put, st_mu, st_sh, st_slot, sts_nil, sts_cons, x_unp, x_par, evps_nil, evps_cons, settle_sh, settle_mu, settle_slot, x_ex, x_ite, x_for, x_wh, kRet_sh, kRet_mu, kRetP_slot, kRetP_sh, kRetP_mu, x_ret, x_raise, x_pass, kSeq_nx, kSeq_ret, xs_nil, xs_cons, r_setItem, kSI_lst, kSI_dct, x_setI, kAug_add, kAug_sub, kAugS_sh, x_aug, t_nm, t_tp, kTs_some, ts_nil, ts_cons, kDef_ret, kDef_nx, kDef_exc, brOnly_br, brOnly_no, brOnly_sh, brOnly_mu, lent1, lent2, lent3, lent4, lent5, ty_int_int, ty_bool_int, ty_int_bl, ty_bool_bl, ↓evAnd_one, ↓evOr_one, unwipe, wipe, bt_ok, bt_exc, bt_stuck, lift_some, liftE_some, calm_ok, b_and, b_or, b_andP, cmp_eq_i, cmp_ne_i, cmp_lt_i, cmp_le_i, cmp_gt_i, cmp_ge_i, cmp_is_non, cmp_isnot_non, cmp_is_b, cmp_isnot_b, bin_add_i, bin_sub_i, List.cons_append, List.nil_append, List.append_nil, List.replicate_succ, List.replicate_zero, Nat.reduceSub, Nat.reduceAdd, Nat.reduceLT, Nat.reduceLeDiff, Nat.zero_le, Nat.le_refl, if_true, ite_true, if_false, ite_false, ↓reduceIte, List.length_cons, List.length_nil, Option.isSome_some, ne_eq, not_true_eq_false, not_false_eq_true, eq_self, decide_true, decide_false, Bool.not_true, Bool.not_false, Bool.and_true, Bool.true_and, Bool.false_and, Bool.or_false, Bool.false_or, Bool.true_or, kPut_ok h3], A (M (i + 1)) (.sh (.int (i : Nat))) (.mu (lI (R i))) w5 w6, ?_, _, _, _, _, by rw [hlen], okS_sh _, okS_mu _, ok5, ok6⟩
      have nil : D.lst [] = lI [] := rfl
      simp only [A] at e3
      rw [hMS i hil]
      simp only [b_Lways_end_1, A, r_var, kVar_sh, kVar_mu, kVar_br, kVar_lk, r_look0, r_look1, r_set0, r_set1, cont_sh, cont_mu, cont_br, cont_lk, peek_slot, peek_sh, peek_mu, frz_slot, frz_sh, frz_mu, kFrz_sh, kFrz_mu, kO_some, r_frzR, r_cst, r_glb, r_tup, r_lst, r_dnew, kBin_some, r_bin, kRep_some, r_lrep, kNeg_i, r_neg, kB_b, r_asB, r_not, r_and, r_or, kCmpR_some, kCmp_some, r_cmp, kCh2_some, kCh_some, r_chain, r_ite, kOut_sh, kOut_mu, kOut_exc, kCall_some, r_call, lends_nil, lends_val, lends_len, lends_mov, kSl_some, kOw_some, sl_nil, sl_val, sl_mov, sl_len, r_own, kOwn_mu, kOwn_br, bk_nil, bk_val, bk_mov, kBk_some, bk_len, r_upd, kUpd_mu, kUpd_br, kLend_mu, kLend_br, arg_lend, arg_mov, kVal_some, arg_val, arg_nil, arg_cons0, arg_cons, evs_nil, evs_cons, evAnd_cons, evOr_cons, evAnd_nil, if_tt, if_ff, kBi1_some, kBi2_some, r_bi1, r_bi2, r_isi, kIsi_non, kIsi_bl, kIsi_int, kIsi_str, kIsi_tup, kIsi_lst, kIsi_wr, kIt1_some, kIdx_some, r_idx, kOI_i, oi_nil, oi_one, kSlc_some, r_slc, kRev_some, r_rev, kIts_some, kAs_some, r_asIt, items_lst, items_tup, items_wr, kRng_i, r_rng1, r_listRng, r_tupRng, kRng2_i, r_rng2, kZip_some, r_zip, kLz_some, r_listZip, kEn_lst, r_enum, kApp_lst, kIsL_lst, r_isL, r_app, kExt_lst, r_ext, kPop_lst, r_pop, kPopAt_lst, r_popAt, x_asg, kPut_no, kPut_sh, kPut_mu, r_put, st_mu, st_sh, st_slot, sts_nil, sts_cons, x_unp, x_par, evps_nil, evps_cons, settle_sh, settle_mu, settle_slot, x_ex, x_ite, x_for, x_wh, kRet_sh, kRet_mu, kRetP_slot, kRetP_sh, kRetP_mu, x_ret, x_raise, x_pass, kSeq_nx, kSeq_ret, xs_nil, xs_cons, r_setItem, kSI_lst, kSI_dct, x_setI, kAug_add, kAug_sub, kAugS_sh, x_aug, t_nm, t_tp, kTs_some, ts_nil, ts_cons, kDef_ret, kDef_nx, kDef_exc, brOnly_br, brOnly_no, brOnly_sh, brOnly_mu, lent1, lent2, lent3, lent4, lent5, ty_int_int, ty_bool_int, ty_int_bl, ty_bool_bl, ↓evAnd_one, ↓evOr_one, unwipe, wipe, bt_ok, bt_exc, bt_stuck, lift_some, liftE_some, calm_ok, b_and, b_or, b_andP, cmp_eq_i, cmp_ne_i, cmp_lt_i, cmp_le_i, cmp_gt_i, cmp_ge_i, cmp_is_non, cmp_isnot_non, cmp_is_b, cmp_isnot_b, bin_add_i, bin_sub_i, List.cons_append, List.nil_append, List.append_nil, List.replicate_succ, List.replicate_zero, Nat.reduceSub, Nat.reduceAdd, Nat.reduceLT, Nat.reduceLeDiff, Nat.zero_le, Nat.le_refl, if_true, ite_true, if_false, ite_false, ↓reduceIte, List.length_cons, List.length_nil, Option.isSome_some, ne_eq, not_true_eq_false, not_false_eq_true, eq_self, decide_true, decide_false, Bool.not_true, Bool.not_false, Bool.and_true, Bool.true_and, Bool.false_and, Bool.or_false, Bool.false_or, Bool.true_or, kPut_ok h4, h.i0, len_tI, h.l0, rk, items_lst, nil, e3, tuple_lI, isL_lT]
      rw [kApp_lT (by rw [hMl i (by omega), lim_eq]; omega)]
      simp only [r_var, kVar_sh, kVar_mu, kVar_br, kVar_lk, r_look0, r_look1, r_set0, r_set1, cont_sh, cont_mu, cont_br, cont_lk, peek_slot, peek_sh, peek_mu, frz_slot, frz_sh, frz_mu, kFrz_sh, kFrz_mu, kO_some, r_frzR, r_cst, r_glb, r_tup, r_lst, r_dnew, kBin_some, r_bin, kRep_some, r_lrep, kNeg_i, r_neg, kB_b, r_asB, r_not, r_and, r_or, kCmpR_some, kCmp_some, r_cmp, kCh2_some, kCh_some, r_chain, r_ite, kOut_sh, kOut_mu, kOut_exc, kCall_some, r_call, lends_nil, lends_val, lends_len, lends_mov, kSl_some, kOw_some, sl_nil, sl_val, sl_mov, sl_len, r_own, kOwn_mu, kOwn_br, bk_nil, bk_val, bk_mov, kBk_some, bk_len, r_upd, kUpd_mu, kUpd_br, kLend_mu, kLend_br, arg_lend, arg_mov, kVal_some, arg_val, arg_nil, arg_cons0, arg_cons, evs_nil, evs_cons, evAnd_cons, evOr_cons, evAnd_nil, if_tt, if_ff, kBi1_some, kBi2_some, r_bi1, r_bi2, r_isi, kIsi_non, kIsi_bl, kIsi_int, kIsi_str, kIsi_tup, kIsi_lst, kIsi_wr, kIt1_some, kIdx_some, r_idx, kOI_i, oi_nil, oi_one, kSlc_some, r_slc, kRev_some, r_rev, kIts_some, kAs_some, r_asIt, items_lst, items_tup, items_wr, kRng_i, r_rng1, r_listRng, r_tupRng, kRng2_i, r_rng2, kZip_some, r_zip, kLz_some, r_listZip, kEn_lst, r_enum, kApp_lst, kIsL_lst, r_isL, r_app, kExt_lst, r_ext, kPop_lst, r_pop, kPopAt_lst, r_popAt, x_asg, kPut_no, kPut_sh, kPut_mu, r_put, st_mu, st_sh, st_slot, sts_nil, sts_cons, x_unp, x_par, evps_nil, evps_cons, settle_sh, settle_mu, settle_slot, x_ex, x_ite, x_for, x_wh, kRet_sh, kRet_mu, kRetP_slot, kRetP_sh, kRetP_mu, x_ret, x_raise, x_pass, kSeq_nx, kSeq_ret, xs_nil, xs_cons, r_setItem, kSI_lst, kSI_dct, x_setI, kAug_add, kAug_sub, kAugS_sh, x_aug, t_nm, t_tp, kTs_some, ts_nil, ts_cons, kDef_ret, kDef_nx, kDef_exc, brOnly_br, brOnly_no, brOnly_sh, brOnly_mu, lent1, lent2, lent3, lent4, lent5, ty_int_int, ty_bool_int, ty_int_bl, ty_bool_bl, ↓evAnd_one, ↓evOr_one, unwipe, wipe, bt_ok, bt_exc, bt_stuck, lift_some, liftE_some, calm_ok, b_and, b_or, b_andP, cmp_eq_i, cmp_ne_i, cmp_lt_i, cmp_le_i, cmp_gt_i, cmp_ge_i, cmp_is_non, cmp_isnot_non, cmp_is_b, cmp_isnot_b, bin_add_i, bin_sub_i, List.cons_append, List.nil_append, List.append_nil, List.replicate_succ, List.replicate_zero, Nat.reduceSub, Nat.reduceAdd, Nat.reduceLT, Nat.reduceLeDiff, Nat.zero_le, Nat.le_refl, if_true, ite_true, if_false, ite_false, ↓reduceIte, List.length_cons, List.length_nil, Option.isSome_some, ne_eq, not_true_eq_false, not_false_eq_true, eq_self, decide_true, decide_false, Bool.not_true, Bool.not_false, Bool.and_true, Bool.true_and, Bool.false_and, Bool.or_false, Bool.false_or, Bool.true_or])
  rw [List.length_range] at e1
  have fullO : M o.length = endsV J (zeros k) o := by simp only [M, List.take_length]
  rw [fullO] at e1
  have nil : D.lst [] = lT (M 0) := rfl
  simp only [A] at e1
  simp only [r_var, kVar_sh, kVar_mu, kVar_br, kVar_lk, r_look0, r_look1, r_set0, r_set1, cont_sh, cont_mu, cont_br, cont_lk, peek_slot, peek_sh, peek_mu, frz_slot, frz_sh, frz_mu, kFrz_sh, kFrz_mu, kO_some, r_frzR, r_cst, r_glb, r_tup, r_lst, r_dnew, kBin_some, r_bin, kRep_some, r_lrep, kNeg_i, r_neg, kB_b, r_asB, r_not, r_and, r_or, kCmpR_some, kCmp_some, r_cmp, kCh2_some, kCh_some, r_chain, r_ite, kOut_sh, kOut_mu, kOut_exc, kCall_some, r_call, lends_nil, lends_val, lends_len, lends_mov, kSl_some, kOw_some, sl_nil, sl_val, sl_mov, sl_len, r_own, kOwn_mu, kOwn_br, bk_nil, bk_val, bk_mov, kBk_some, bk_len, r_upd, kUpd_mu, kUpd_br, kLend_mu, kLend_br, arg_lend, arg_mov, kVal_some, arg_val, arg_nil, arg_cons0, arg_cons, evs_nil, evs_cons, evAnd_cons, evOr_cons, evAnd_nil, if_tt, if_ff, kBi1_some, kBi2_some, r_bi1, r_bi2, r_isi, kIsi_non, kIsi_bl, kIsi_int, kIsi_str, kIsi_tup, kIsi_lst, kIsi_wr, kIt1_some, kIdx_some, r_idx, kOI_i, oi_nil, oi_one, kSlc_some, r_slc, kRev_some, r_rev, kIts_some, kAs_some, r_asIt, items_lst, items_tup, items_wr, kRng_i, r_rng1, r_listRng, r_tupRng, kRng2_i, r_rng2, kZip_some, r_zip, kLz_some, r_listZip, kEn_lst, r_enum, kApp_lst, kIsL_lst, r_isL, r_app, kExt_lst, r_ext, kPop_lst, r_pop, kPopAt_lst, r_popAt, x_asg, kPut_no, kPut_sh, kPut_mu, r_put, st_mu, st_sh, st_slot, sts_nil, sts_cons, x_unp, x_par, evps_nil, evps_cons, settle_sh, settle_mu, settle_slot, x_ex, x_ite, x_for, x_wh, kRet_sh, kRet_mu, kRetP_slot, kRetP_sh, kRetP_mu, x_ret, x_raise, x_pass, kSeq_nx, kSeq_ret, xs_nil, xs_cons, r_setItem, kSI_lst, kSI_dct, x_setI, kAug_add, kAug_sub, kAugS_sh, x_aug, t_nm, t_tp, kTs_some, ts_nil, ts_cons, kDef_ret, kDef_nx, kDef_exc, brOnly_br, brOnly_no, brOnly_sh, brOnly_mu, lent1, lent2, lent3, lent4, lent5, ty_int_int, ty_bool_int, ty_int_bl, ty_bool_bl, ↓evAnd_one, ↓evOr_one, unwipe, wipe, bt_ok, bt_exc, bt_stuck, lift_some, liftE_some, calm_ok, b_and, b_or, b_andP, cmp_eq_i, cmp_ne_i, cmp_lt_i, cmp_le_i, cmp_gt_i, cmp_ge_i, cmp_is_non, cmp_isnot_non, cmp_is_b, cmp_isnot_b, bin_add_i, bin_sub_i, List.cons_append, List.nil_append, List.append_nil, List.replicate_succ, List.replicate_zero, Nat.reduceSub, Nat.reduceAdd, Nat.reduceLT, Nat.reduceLeDiff, Nat.zero_le, Nat.le_refl, if_true, ite_true, if_false, ite_false, ↓reduceIte, List.length_cons, List.length_nil, Option.isSome_some, ne_eq, not_true_eq_false, not_false_eq_true, eq_self, decide_true, decide_false, Bool.not_true, Bool.not_false, Bool.and_true, Bool.true_and, Bool.false_and, Bool.or_false, Bool.false_or, Bool.true_or, len_tN, ro, items_lst, nil, e1]
end
end SL

/-! ## P47 -/
set_option maxRecDepth 100000
set_option linter.all false
set_option autoImplicit false
namespace SL
/-! ### all ways gone through: what is still to come -/
/-- the greatest that is still to come behind (i, j) -/
def rest (p : Nat → Nat → Int) (m l : Nat) (i j : Nat) : Int := fw (bk p m l) (m - i) (l - j) - p i j
theorem rest_end (p : Nat → Nat → Int) (m l : Nat) : rest p m l m l = 0 := by
  unfold rest
  rw [Nat.sub_self, Nat.sub_self, fw00]
  simp [bk]
theorem rest_zero (p : Nat → Nat → Int) (m l : Nat) : p 0 0 + rest p m l 0 0 = fw p m l := by
  unfold rest
  rw [Nat.sub_zero, Nat.sub_zero, fw_back]; omega
theorem rest_down (p : Nat → Nat → Int) {m l i : Nat} (hi : i < m) : rest p m l i l = p (i + 1) l + rest p m l (i + 1) l := by
  unfold rest
  rw [Nat.sub_self, show m - i = (m - (i + 1)) + 1 by omega, fwS0]
  simp only [bk]
  rw [show m - (m - (i + 1) + 1) = i by omega, Nat.sub_zero]; omega
theorem rest_right (p : Nat → Nat → Int) {m l j : Nat} (hj : j < l) : rest p m l m j = p m (j + 1) + rest p m l m (j + 1) := by
  unfold rest
  rw [Nat.sub_self, show l - j = (l - (j + 1)) + 1 by omega, fw0S]
  simp only [bk]
  rw [show l - (l - (j + 1) + 1) = j by omega, Nat.sub_zero]; omega
theorem rest_both (p : Nat → Nat → Int) {m l i j : Nat} (hi : i < m) (hj : j < l) : rest p m l i j = max (p (i + 1) j + rest p m l (i + 1) j) (p i (j + 1) + rest p m l i (j + 1)) := by
  unfold rest
  rw [show m - i = (m - (i + 1)) + 1 by omega, show l - j = (l - (j + 1)) + 1 by omega, fwSS]
  simp only [bk]
  rw [show m - (m - (i + 1) + 1) = i by omega, show l - (l - (j + 1) + 1) = j by omega]; omega
/-- how many turns are still to come behind a place, itself among them -/
def turnsL : Nat → Nat → Nat
  | 0, 0 => 1
  | 0, b + 1 => 1 + turnsL 0 b
  | a + 1, 0 => 1 + turnsL a 0
  | a + 1, b + 1 => 1 + turnsL a (b + 1) + turnsL (a + 1) b
termination_by a b => (a, b)
theorem turnsL_le : ∀ a b : Nat, turnsL a b + 1 ≤ 2 ^ (a + b + 1) := by
  intro a
  induction a with
  | zero =>
    intro b
    induction b with
    | zero => rw [turnsL]; decide
    | succ b ih =>
      rw [turnsL, show 0 + (b + 1) + 1 = (0 + b + 1) + 1 by omega, Nat.pow_succ]; omega
  | succ a iha =>
    intro b
    induction b with
    | zero =>
      have q := iha 0
      have e : 2 ^ (a + 1 + 0 + 1) = 2 ^ (a + 0 + 1) * 2 := by rw [Nat.add_zero, Nat.add_zero, Nat.pow_succ]
      have p2 := Nat.two_pow_pos (a + 0 + 1)
      have u : turnsL (a + 1) 0 = 1 + turnsL a 0 := by rw [turnsL]
      rw [u, e]
      generalize 2 ^ (a + 0 + 1) = X at *
      omega
    | succ b ih =>
      have := iha (b + 1)
      rw [turnsL, show a + 1 + (b + 1) + 1 = (a + 1 + b + 1) + 1 by omega, Nat.pow_succ]
      rw [show a + (b + 1) + 1 = a + 1 + b + 1 by omega] at this
      omega
end SL

/-! ## P48 -/
set_option maxRecDepth 100000
set_option linter.all false
set_option autoImplicit false
namespace SL
/-- a place gone to, the time till there -/
structure Go where
  i : Nat
  j : Nat
  t : Int
  deriving DecidableEq
def Go.enc (g : Go) : D := .tup [.tup [.int (g.i : Nat), .int (g.j : Nat)], .int g.t]
section
variable (p : Nat → Nat → Int) (m l : Nat)
def Go.val (g : Go) : Int := g.t + rest p m l g.i g.j
structure Going (S : List Go) (mu : Int) : Prop where
  fit : ∀ g ∈ S, g.i ≤ m ∧ g.j ≤ l
  le : ∀ g ∈ S, g.val p m l ≤ fw p m l
  top : mu ≤ fw p m l
  some : mu = fw p m l ∨ ∃ g ∈ S, g.val p m l = fw p m l
def weight (S : List Go) : Nat := (S.map fun g => turnsL (m - g.i) (l - g.j)).sum
end
section
variable {p : Nat → Nat → Int} {m l : Nat} {S : List Go} {g : Go} {mu : Int}
theorem weight_app (S T : List Go) : weight m l (S ++ T) = weight m l S + weight m l T := by simp [weight]
theorem weight_one (g : Go) : weight m l [g] = turnsL (m - g.i) (l - g.j) := by simp [weight]
/-- one place taken, those next to it put -/
theorem Going.step (h : Going p m l (S ++ [g]) mu) (T : List Go) (mu' : Int) (h1 : ∀ x ∈ T, x.i ≤ m ∧ x.j ≤ l) (h2 : ∀ x ∈ T, x.val p m l ≤ g.val p m l) (h3 : mu' = mu ∨ (mu' = max mu (g.val p m l))) (h4 : (mu' = max mu (g.val p m l)) ∨ ∃ x ∈ T, x.val p m l = g.val p m l) :
    Going p m l (S ++ T) mu' := by
  have hg := h.le g (by simp)
  have hmu := h.top
  refine ⟨fun x hx => ?_, fun x hx => ?_, ?_, ?_⟩
  · rcases List.mem_append.mp hx with hx | hx
    · exact h.fit x (List.mem_append_left _ hx)
    · exact h1 x hx
  · rcases List.mem_append.mp hx with hx | hx
    · exact h.le x (List.mem_append_left _ hx)
    · exact Int.le_trans (h2 x hx) hg
  · rcases h3 with rfl | rfl
    · exact hmu
    · omega
  · rcases h.some with e | ⟨x, hx, e⟩
    · left
      rcases h3 with rfl | rfl
      · exact e
      · omega
    · rcases List.mem_append.mp hx with hx | hx
      · exact .inr ⟨x, List.mem_append_left _ hx, e⟩
      · have : x = g := by simpa using hx
        subst this
        rcases h4 with h4 | ⟨y, hy, e2⟩
        · left; omega
        · exact .inr ⟨y, List.mem_append_right _ hy, by omega⟩
end
end SL

/-! ## P49 -/
set_option maxRecDepth 100000
set_option linter.all false
set_option autoImplicit false
namespace SL
def wD (m l : Nat) : D → Nat
  | .tup [.tup [.int i, .int j], _] => turnsL (m - i.toNat) (l - j.toNat)
  | _ => 0
theorem wD_enc (m l : Nat) (g : Go) : wD m l g.enc = turnsL (m - g.i) (l - g.j) := by simp [wD, Go.enc]
def wE (m l : Nat) (ρ : Env) : Nat := match look ρ 4 with
  | .mu (.lst ds) => (ds.map (wD m l)).sum
  | _ => 0
theorem enc_go : Enc 2 (fun g : Go => g.enc) := ⟨fun a b => by
    obtain ⟨i, j, t⟩ := a
    obtain ⟨i', j', t'⟩ := b
    simp [Go.enc, D.eqv, D.eqvs]
    omega, fun a => by simp [Go.enc, D.plain, D.plains], fun a => by simp [Go.enc, D.depth, D.depths]⟩
theorem turns_pos : ∀ a b : Nat, 0 < turnsL a b := by
  intro a b
  cases a <;> cases b <;> rw [turnsL] <;> omega
theorem turns_down (a b : Nat) : turnsL a b < turnsL (a + 1) b := by
  cases b with
  | zero => rw [show turnsL (a + 1) 0 = 1 + turnsL a 0 by rw [turnsL]]; omega
  | succ b => rw [show turnsL (a + 1) (b + 1) = 1 + turnsL a (b + 1) + turnsL (a + 1) b by rw [turnsL]]; omega
theorem turns_right (a b : Nat) : turnsL a b < turnsL a (b + 1) := by
  cases a with
  | zero => rw [show turnsL 0 (b + 1) = 1 + turnsL 0 b by rw [turnsL]]; omega
  | succ a => rw [show turnsL (a + 1) (b + 1) = 1 + turnsL a (b + 1) + turnsL (a + 1) b by rw [turnsL]]; omega
theorem turns_both (a b : Nat) : turnsL a (b + 1) + turnsL (a + 1) b < turnsL (a + 1) (b + 1) := by
  rw [show turnsL (a + 1) (b + 1) = 1 + turnsL a (b + 1) + turnsL (a + 1) b by rw [turnsL]]; omega
end SL

/-! ## P50 -/
set_option maxRecDepth 100000
set_option linter.all false
set_option autoImplicit false
namespace SL
section
variable {n k : Nat} {J : List (List Int)} {o : List Nat}
theorem weight_len (m l : Nat) : ∀ S : List Go, S.length ≤ weight m l S
  | [] => Nat.zero_le _
  | g :: S => by
    have := weight_len m l S
    have h2 := turns_pos (m - g.i) (l - g.j)
    simp only [weight, List.map_cons, List.sum_cons, List.length_cons] at *
    omega
theorem all_ways_sp (hn : 1 ≤ n) (h : Jobs k J) (ho : Order J o) : run GA n i_Lall_ways [.sh (tT J), .sh (tN o)] = .ret (.sh (.int (endV J k o))) [.no, .no] := by
  obtain ⟨n, rfl⟩ : ∃ m, n = m + 1 := ⟨n - 1, by omega⟩
  rw [run_def rfl rfl]
  have n8 := h.n8
  have n1 := h.n1
  have k2 := h.k2
  have k4 := h.k4
  have ol := Order.len ho
  obtain ⟨m, hm⟩ : ∃ m, o.length = m + 1 := ⟨o.length - 1, by omega⟩
  obtain ⟨l, hl⟩ : ∃ l, k = l + 1 := ⟨k - 1, by omega⟩
  let p := tmO J o
  have hend : endV J k o = fw p m l := by rw [endV_fw h ho, show J.length - 1 = m by omega, show k - 1 = l by omega]
  have hx : ∀ i, i ≤ m → o.getD i 0 < J.length := fun i hi => by
    have hh : i < o.length := by omega
    have e9 : o.getD i 0 = o[i] := by simp [hh]
    rw [e9]; exact Order.lt ho (List.getElem_mem hh)
  have nn : ∀ i ≤ m, ∀ j ≤ l, 0 ≤ p i j := fun i hi j hj => tmO_nonneg h (fun q hq => Order.lt ho hq) i (by omega) j (by omega)
  have iO : ∀ i : Nat, i ≤ m → item (tN o) (.int (i : Nat)) = some (.int (o.getD i 0 : Nat)) := fun i hi => by
    have hh : i < o.length := by omega
    have e9 : place o.length (i : Int) = some i := by unfold place; simp [hh]
    simp [item, tN, e9, hh]
  have iJ : ∀ i : Nat, i ≤ m → item (tT J) (.int (o.getD i 0 : Nat)) = some (tI (J.getD (o.getD i 0) [])) := fun i hi => by
    have := item_tT (L := J) (i := ((o.getD i 0 : Nat) : Int)) (by omega) (by have := hx i hi; omega)
    simpa using this
  have iT : ∀ i j : Nat, i ≤ m → j ≤ l → item (tI (J.getD (o.getD i 0) [])) (.int (j : Nat)) = some (.int (p i j)) := fun i j hi hj => by
    have := item_tI (L := J.getD (o.getD i 0) []) (i := (j : Nat)) (by omega) (by rw [(h.at (hx i hi)).1]; omega)
    simpa [p, tmO] using this
  let La : D := .tup [.int (m : Nat), .int (l : Nat)]
  let A : Int → List Go → Slot → Slot → Slot → Env := fun mu S a b c => [.sh (tT J), .sh (tN o), .sh La, .sh (.int mu), .mu (.lst (S.map Go.enc)), a, b, c]
  have i0 : item La (.int 0) = some (.int (m : Nat)) := rfl
  have i1 : item La (.int 1) = some (.int (l : Nat)) := rfl
  obtain ⟨ρ', e1, s5, s6, s7, rfl⟩ := whileC_nx (Φ := run GA n) (c := .cmp .ne (.var 4) (.lst [])) (b := b_Lall_ways_0) (ρ := A 0 [⟨0, 0, p 0 0⟩] .no .no .no)
    (fun ρ => ∃ mu S a b c, ρ = A mu S a b c ∧ Going p m l S mu ∧ weight m l S ≤ 3000 ∧ okS a ∧ okS b ∧ okS c)
    (fun ρ => ∃ a b c, ρ = A (fw p m l) [] a b c)
    (wE m l)
    ⟨0, _, _, _, _, rfl, ⟨fun g hg => by rw [List.mem_singleton.mp hg]; exact ⟨Nat.zero_le _, Nat.zero_le _⟩, fun g hg => by rw [List.mem_singleton.mp hg]; exact Int.le_of_eq (rest_zero p m l), fw_nonneg nn m (Nat.le_refl _) l (Nat.le_refl _), .inr ⟨_, List.mem_singleton.mpr rfl, rest_zero p m l⟩⟩, by
      rw [weight_one]
      show turnsL (m - 0) (l - 0) ≤ 3000
      have := turnsL_le (m - 0) (l - 0)
      have h2 : 2 ^ (m - 0 + (l - 0) + 1) ≤ 2 ^ 11 := Nat.pow_le_pow_right (by omega) (by omega)
      omega, trivial, trivial, trivial⟩
    (by
      simp only [wE, A, r_look0, r_look1, List.map_cons, List.map_nil, wD_enc, List.sum_cons, List.sum_nil]
      have := turnsL_le (m - 0) (l - 0)
      have h2 : 2 ^ (m - 0 + (l - 0) + 1) ≤ 2 ^ 11 := Nat.pow_le_pow_right (by omega) (by omega)
      omega) (fun ρ ⟨mu, S, s5, s6, s7, e, hg, hW, h5, h6, h7⟩ => by
      subst e
      have ec : cmpop .ne (.lst (S.map Go.enc)) (.lst []) = some (decide (S ≠ [])) := cmp_ne_enc enc_go.lst (by omega) S []
      rcases List.eq_nil_or_concat S with hS | ⟨S', g, hS⟩
      · subst hS
        have hmu : mu = fw p m l := by
          rcases hg.some with e | ⟨x, hx, _⟩
          · exact e
          · cases hx
        refine .inl ⟨A mu [] s5 s6 s7, ?_, s5, s6, s7, by rw [hmu]⟩
        simp only [A, r_var, kVar_sh, kVar_mu, kVar_br, kVar_lk, r_look0, r_look1, r_set0, r_set1, cont_sh, cont_mu, cont_br, cont_lk, peek_slot, peek_sh, peek_mu, frz_slot, frz_sh, frz_mu, kFrz_sh, kFrz_mu, kO_some, r_frzR, r_cst, r_glb, r_tup, r_lst, r_dnew, kBin_some, r_bin, kRep_some, r_lrep, kNeg_i, r_neg, kB_b, r_asB, r_not, r_and, r_or, kCmpR_some, kCmp_some, r_cmp, kCh2_some, kCh_some, r_chain, r_ite, kOut_sh, kOut_mu, kOut_exc, kCall_some, r_call, lends_nil, lends_val, lends_len, lends_mov, kSl_some, kOw_some, sl_nil, sl_val, sl_mov, sl_len, r_own, kOwn_mu, kOwn_br, bk_nil, bk_val, bk_mov, kBk_some, bk_len, r_upd, kUpd_mu, kUpd_br, kLend_mu, kLend_br, arg_lend, arg_mov, kVal_some, arg_val, arg_nil, arg_cons0, arg_cons, evs_nil, evs_cons, evAnd_cons, evOr_cons, evAnd_nil, if_tt, if_ff, kBi1_some, kBi2_some, r_bi1, r_bi2, r_isi, kIsi_non, kIsi_bl, kIsi_int, kIsi_str, kIsi_tup, kIsi_lst, kIsi_wr, kIt1_some, kIdx_some, r_idx, kOI_i, oi_nil, oi_one, kSlc_some, r_slc, kRev_some, r_rev, kIts_some, kAs_some, r_asIt, items_lst, items_tup, items_wr, kRng_i, r_rng1, r_listRng, r_tupRng, kRng2_i, r_rng2, kZip_some, r_zip, kLz_some, r_listZip, kEn_lst, r_enum, kApp_lst, kIsL_lst, r_isL, r_app, kExt_lst, r_ext, kPop_lst, r_pop, kPopAt_lst, r_popAt, x_asg, kPut_no, kPut_sh, kPut_mu, r_put, st_mu, st_sh, st_slot, sts_nil, sts_cons, x_unp, x_par, evps_nil, evps_cons, settle_sh, settle_mu, settle_slot, x_ex, x_ite, x_for, x_wh, kRet_sh, kRet_mu, kRetP_slot, kRetP_sh, kRetP_mu, x_ret, x_raise, x_pass, kSeq_nx, kSeq_ret, xs_nil, xs_cons, r_setItem, kSI_lst, kSI_dct, x_setI, kAug_add, kAug_sub, kAugS_sh, x_aug, t_nm, t_tp, kTs_some, ts_nil, ts_cons, kDef_ret, kDef_nx, kDef_exc, brOnly_br, brOnly_no, brOnly_sh, brOnly_mu, lent1, lent2, lent3, lent4, lent5, ty_int_int, ty_bool_int, ty_int_bl, ty_bool_bl, ↓evAnd_one, ↓evOr_one, unwipe, wipe, bt_ok, bt_exc, bt_stuck, lift_some, liftE_some, calm_ok, b_and, b_or, b_andP, cmp_eq_i, cmp_ne_i, cmp_lt_i, cmp_le_i, cmp_gt_i, cmp_ge_i, cmp_is_non, cmp_isnot_non, cmp_is_b, cmp_isnot_b, bin_add_i, bin_sub_i, List.cons_append, List.nil_append, List.append_nil, List.replicate_succ, List.replicate_zero, Nat.reduceSub, Nat.reduceAdd, Nat.reduceLT, Nat.reduceLeDiff, Nat.zero_le, Nat.le_refl, if_true, ite_true, if_false, ite_false, ↓reduceIte, List.length_cons, List.length_nil, Option.isSome_some, ne_eq, not_true_eq_false, not_false_eq_true, eq_self, decide_true, decide_false, Bool.not_true, Bool.not_false, Bool.and_true, Bool.true_and, Bool.false_and, Bool.or_false, Bool.false_or, Bool.true_or, ec]
      · have hS : S = S' ++ [g] := hS.trans (by simp)
        subst hS
        have hne : decide (S' ++ [g] ≠ []) = true := by simp
        obtain ⟨gi, gj⟩ := hg.fit g (by simp)
        let gd : Go := ⟨g.i + 1, g.j, g.t + p (g.i + 1) g.j⟩
        let gr : Go := ⟨g.i, g.j + 1, g.t + p g.i (g.j + 1)⟩
        have epop : (S' ++ [g]).map Go.enc = S'.map Go.enc ++ [.tup [.tup [.int (g.i : Nat), .int (g.j : Nat)], .int g.t]] := by simp [Go.enc]
        have kp : ∀ ρ, kPop (some (.lst ((S' ++ [g]).map Go.enc))) ρ 4 = (liftE (upd ρ 4 (.lst (S'.map Go.enc)))).bt fun _ ρ2 => .ok (.sh (.tup [.tup [.int (g.i : Nat), .int (g.j : Nat)], .int g.t])) ρ2 := fun ρ => by
          rw [epop]; exact kPop_lst _ _ _ _
        have ceq : cmpop .eq (.tup [.int (g.i : Nat), .int (g.j : Nat)]) La = some (decide (([g.i, g.j] : List Nat) = [m, l])) := cmp_eq_enc enc_tN (by omega) [g.i, g.j] [m, l]
        have b6 : okS (.sh (.int (g.i : Nat))) := trivial
        have i6 : item (tN o) (.int ((g.i : Int) + 1)) = some (.int (o.getD (g.i + 1) 0 : Nat)) ∨ ¬ g.i < m := by
          by_cases c : g.i < m
          · left
            have := iO (g.i + 1) (by omega)
            simpa using this
          · exact .inr c
        let B : Int → List Go → Env := fun mu S => A mu S (.sh (.int g.t)) (.sh (.int (g.i : Nat))) (.sh (.int (g.j : Nat)))
        have hw : ∀ mu' T, (∀ x ∈ T, x.i ≤ m ∧ x.j ≤ l) → wE m l (B mu' (S' ++ T)) = weight m l S' + weight m l T := fun mu' T _ => by
          have : wE m l (B mu' (S' ++ T)) = weight m l (S' ++ T) := by
            simp only [wE, B, A, r_look0, r_look1, weight, List.map_map]
            congr 1
          rw [this, weight_app]
        have hw0 : wE m l (A mu (S' ++ [g]) s5 s6 s7) = weight m l S' + turnsL (m - g.i) (l - g.j) := by
          have : wE m l (A mu (S' ++ [g]) s5 s6 s7) = weight m l (S' ++ [g]) := by
            simp only [wE, A, r_look0, r_look1, weight, List.map_map]
            congr 1
          rw [this, weight_app, weight_one]
        have hWS : S'.length + 10 < 1000000 := by
          have := weight_len m l S'
          have h9 := weight_app (m := m) (l := l) S' [g]
          omega
        have kd' : ∀ (x : Go) (T : List Go) ρ, T.length ≤ 10 → kApp x.enc (some (.lst ((S' ++ T).map Go.enc))) ρ 4 = (liftE (upd ρ 4 (.lst ((S' ++ T ++ [x]).map Go.enc)))).bt fun _ ρ2 => .ok (.sh .non) ρ2 := fun x T ρ hT => by
          rw [kApp_lst (by rw [List.length_map, List.length_append, lim_eq]; omega)]; simp [Res.bt]
        refine .inr ⟨A mu (S' ++ [g]) s5 s6 s7, by simp only [A, r_var, kVar_sh, kVar_mu, kVar_br, kVar_lk, r_look0, r_look1, r_set0, r_set1, cont_sh, cont_mu, cont_br, cont_lk, peek_slot, peek_sh, peek_mu, frz_slot, frz_sh, frz_mu, kFrz_sh, kFrz_mu, kO_some, r_frzR, r_cst, r_glb, r_tup, r_lst, r_dnew, kBin_some, r_bin, kRep_some, r_lrep, kNeg_i, r_neg, kB_b, r_asB, r_not, r_and, r_or, kCmpR_some, kCmp_some, r_cmp, kCh2_some, kCh_some, r_chain, r_ite, kOut_sh, kOut_mu, kOut_exc, kCall_some, r_call, lends_nil, lends_val, lends_len, lends_mov, kSl_some, kOw_some, sl_nil, sl_val, sl_mov, sl_len, r_own, kOwn_mu, kOwn_br, bk_nil, bk_val, bk_mov, kBk_some, bk_len, r_upd, kUpd_mu, kUpd_br, kLend_mu, kLend_br, arg_lend, arg_mov, kVal_some, arg_val, arg_nil, arg_cons0, arg_cons, evs_nil, evs_cons, evAnd_cons, evOr_cons, evAnd_nil, if_tt, if_ff, kBi1_some, kBi2_some, r_bi1, r_bi2, r_isi, kIsi_non, kIsi_bl, kIsi_int, kIsi_str, kIsi_tup, kIsi_lst, kIsi_wr, kIt1_some, kIdx_some, r_idx, kOI_i, oi_nil, oi_one, kSlc_some, r_slc, kRev_some, r_rev, kIts_some, kAs_some, r_asIt, items_lst, items_tup, items_wr, kRng_i, r_rng1, r_listRng, r_tupRng, kRng2_i, r_rng2, kZip_some, r_zip, kLz_some, r_listZip, kEn_lst, r_enum, kApp_lst, kIsL_lst, r_isL, r_app, kExt_lst, r_ext, kPop_lst, r_pop, kPopAt_lst, r_popAt, x_asg, kPut_no, kPut_sh, kPut_mu, r_put, st_mu, st_sh, st_slot, sts_nil, sts_cons, x_unp, x_par, evps_nil, evps_cons, settle_sh, settle_mu, settle_slot, x_ex, x_ite, x_for, x_wh, kRet_sh, kRet_mu, kRetP_slot, kRetP_sh, kRetP_mu, x_ret, x_raise, x_pass, kSeq_nx, kSeq_ret, xs_nil, xs_cons, r_setItem, kSI_lst, kSI_dct, x_setI, kAug_add, kAug_sub, kAugS_sh, x_aug, t_nm, t_tp, kTs_some, ts_nil, ts_cons, kDef_ret, kDef_nx, kDef_exc, brOnly_br, brOnly_no, brOnly_sh, brOnly_mu, lent1, lent2, lent3, lent4, lent5, ty_int_int, ty_bool_int, ty_int_bl, ty_bool_bl, ↓evAnd_one, ↓evOr_one, unwipe, wipe, bt_ok, bt_exc, bt_stuck, lift_some, liftE_some, calm_ok, b_and, b_or, b_andP, cmp_eq_i, cmp_ne_i, cmp_lt_i, cmp_le_i, cmp_gt_i, cmp_ge_i, cmp_is_non, cmp_isnot_non, cmp_is_b, cmp_isnot_b, bin_add_i, bin_sub_i, List.cons_append, List.nil_append, List.append_nil, List.replicate_succ, List.replicate_zero, Nat.reduceSub, Nat.reduceAdd, Nat.reduceLT, Nat.reduceLeDiff, Nat.zero_le, Nat.le_refl, if_true, ite_true, if_false, ite_false, ↓reduceIte, List.length_cons, List.length_nil, Option.isSome_some, ne_eq, not_true_eq_false, not_false_eq_true, eq_self, decide_true, decide_false, Bool.not_true, Bool.not_false, Bool.and_true, Bool.true_and, Bool.false_and, Bool.or_false, Bool.false_or, Bool.true_or, ec, hne], ?_⟩
        have main : ∃ mu' T, exes (run GA n) b_Lall_ways_0 (A mu (S' ++ [g]) s5 s6 s7) = .ok .nx (B mu' (S' ++ T)) ∧ Going p m l (S' ++ T) mu' ∧ (∀ x ∈ T, x.i ≤ m ∧ x.j ≤ l) ∧ weight m l T < turnsL (m - g.i) (l - g.j) := by
          have dn : (Go.enc gd) = .tup [.tup [.int ((g.i : Int) + 1), .int (g.j : Nat)], .int (g.t + p (g.i + 1) g.j)] := by simp [Go.enc, gd]
          have rn : (Go.enc gr) = .tup [.tup [.int (g.i : Nat), .int ((g.j : Int) + 1)], .int (g.t + p g.i (g.j + 1))] := by simp [Go.enc, gr]
          have kD : ∀ ρ, kApp (.tup [.tup [.int ((g.i : Int) + 1), .int (g.j : Nat)], .int (g.t + p (g.i + 1) g.j)]) (some (.lst (S'.map Go.enc))) ρ 4 = (liftE (upd ρ 4 (.lst ((S' ++ [gd]).map Go.enc)))).bt fun _ ρ2 => .ok (.sh .non) ρ2 := fun ρ => by
            rw [← dn]; have := kd' gd [] ρ (by simp); simpa using this
          have kR : ∀ ρ, kApp (.tup [.tup [.int (g.i : Nat), .int ((g.j : Int) + 1)], .int (g.t + p g.i (g.j + 1))]) (some (.lst (S'.map Go.enc))) ρ 4 = (liftE (upd ρ 4 (.lst ((S' ++ [gr]).map Go.enc)))).bt fun _ ρ2 => .ok (.sh .non) ρ2 := fun ρ => by
            rw [← rn]; have := kd' gr [] ρ (by simp); simpa using this
          have kR1 : ∀ ρ, kApp (.tup [.tup [.int (g.i : Nat), .int ((g.j : Int) + 1)], .int (g.t + p g.i (g.j + 1))]) (some (.lst ((S' ++ [gd]).map Go.enc))) ρ 4 = (liftE (upd ρ 4 (.lst ((S' ++ [gd, gr]).map Go.enc)))).bt fun _ ρ2 => .ok (.sh .non) ρ2 := fun ρ => by
            rw [← rn, kd' gr [gd] ρ (by simp), List.append_assoc]; rfl
          have iD : g.i < m → item (tI (J.getD (o.getD (g.i + 1) 0) [])) (.int (g.j : Nat)) = some (.int (p (g.i + 1) g.j)) := fun c => iT (g.i + 1) g.j (by omega) gj
          have iDJ : g.i < m → item (tT J) (.int (o.getD (g.i + 1) 0 : Nat)) = some (tI (J.getD (o.getD (g.i + 1) 0) [])) := fun c => iJ (g.i + 1) (by omega)
          have iDO : g.i < m → item (tN o) (.int ((g.i : Int) + 1)) = some (.int (o.getD (g.i + 1) 0 : Nat)) := fun c => i6.resolve_right (by omega)
          have iRT : g.j < l → item (tI (J.getD (o.getD g.i 0) [])) (.int ((g.j : Int) + 1)) = some (.int (p g.i (g.j + 1))) := fun c => by
            have := iT g.i (g.j + 1) gi (by omega)
            simpa using this
          have iRJ := iJ g.i gi
          have iRO := iO g.i gi
          have isLS : ∀ (T : List Go) (a b c : Slot) (mu : Int), isL [.sh (tT J), .sh (tN o), .sh La, .sh (.int mu), .mu (.lst (T.map Go.enc)), a, b, c] 4 = true := fun T a b c mu => rfl
          by_cases c1 : g.i < m <;> by_cases c2 : g.j < l
          · have g0 : decide (([g.i, g.j] : List Nat) = [m, l]) = false := by simp; omega
            have g1 : decide ((g.i : Int) < (m : Nat)) = true := decide_eq_true (by omega)
            have g2 : decide ((g.j : Int) < (l : Nat)) = true := decide_eq_true (by omega)
            refine ⟨mu, [gd, gr], ?_, ?_, ?_, ?_⟩
            · rw [g0] at ceq
              simp only [b_Lall_ways_0, A, B, r_var, kVar_sh, kVar_mu, kVar_br, kVar_lk, r_look0, r_look1, r_set0, r_set1, cont_sh, cont_mu, cont_br, cont_lk, peek_slot, peek_sh, peek_mu, frz_slot, frz_sh, frz_mu, kFrz_sh, kFrz_mu, kO_some, r_frzR, r_cst, r_glb, r_tup, r_lst, r_dnew, kBin_some, r_bin, kRep_some, r_lrep, kNeg_i, r_neg, kB_b, r_asB, r_not, r_and, r_or, kCmpR_some, kCmp_some, r_cmp, kCh2_some, kCh_some, r_chain, r_ite, kOut_sh, kOut_mu, kOut_exc, kCall_some, r_call, lends_nil, lends_val, lends_len, lends_mov, kSl_some, kOw_some, sl_nil, sl_val, sl_mov, sl_len, r_own, kOwn_mu, kOwn_br, bk_nil, bk_val, bk_mov, kBk_some, bk_len, r_upd, kUpd_mu, kUpd_br, kLend_mu, kLend_br, arg_lend, arg_mov, kVal_some, arg_val, arg_nil, arg_cons0, arg_cons, evs_nil, evs_cons, evAnd_cons, evOr_cons, evAnd_nil, if_tt, if_ff, kBi1_some, kBi2_some, r_bi1, r_bi2, r_isi, kIsi_non, kIsi_bl, kIsi_int, kIsi_str, kIsi_tup, kIsi_lst, kIsi_wr, kIt1_some, kIdx_some, r_idx, kOI_i, oi_nil, oi_one, kSlc_some, r_slc, kRev_some, r_rev, kIts_some, kAs_some, r_asIt, items_lst, items_tup, items_wr, kRng_i, r_rng1, r_listRng, r_tupRng, kRng2_i, r_rng2, kZip_some, r_zip, kLz_some, r_listZip, kEn_lst, r_enum, kApp_lst, kIsL_lst, r_isL, r_app, kExt_lst, r_ext, kPop_lst, r_pop, kPopAt_lst, r_popAt, x_asg, kPut_no, kPut_sh, kPut_mu, r_put, st_mu, st_sh, st_slot, sts_nil, sts_cons, x_unp, x_par, evps_nil, evps_cons, settle_sh, settle_mu, settle_slot, x_ex, x_ite, x_for, x_wh, kRet_sh, kRet_mu, kRetP_slot, kRetP_sh, kRetP_mu, x_ret, x_raise, x_pass, kSeq_nx, kSeq_ret, xs_nil, xs_cons, r_setItem, kSI_lst, kSI_dct, x_setI, kAug_add, kAug_sub, kAugS_sh, x_aug, t_nm, t_tp, kTs_some, ts_nil, ts_cons, kDef_ret, kDef_nx, kDef_exc, brOnly_br, brOnly_no, brOnly_sh, brOnly_mu, lent1, lent2, lent3, lent4, lent5, ty_int_int, ty_bool_int, ty_int_bl, ty_bool_bl, ↓evAnd_one, ↓evOr_one, unwipe, wipe, bt_ok, bt_exc, bt_stuck, lift_some, liftE_some, calm_ok, b_and, b_or, b_andP, cmp_eq_i, cmp_ne_i, cmp_lt_i, cmp_le_i, cmp_gt_i, cmp_ge_i, cmp_is_non, cmp_isnot_non, cmp_is_b, cmp_isnot_b, bin_add_i, bin_sub_i, List.cons_append, List.nil_append, List.append_nil, List.replicate_succ, List.replicate_zero, Nat.reduceSub, Nat.reduceAdd, Nat.reduceLT, Nat.reduceLeDiff, Nat.zero_le, Nat.le_refl, if_true, ite_true, if_false, ite_false, ↓reduceIte, List.length_cons, List.length_nil, Option.isSome_some, ne_eq, not_true_eq_false, not_false_eq_true, eq_self, decide_true, decide_false, Bool.not_true, Bool.not_false, Bool.and_true, Bool.true_and, Bool.false_and, Bool.or_false, Bool.false_or, Bool.true_or, kp, kPut_ok h5, kPut_ok h6, kPut_ok h7, ceq, i0, i1, g1, g2, Bool.false_eq_true, if_false, isLS, iDO c1, iDJ c1, iD c1, iRO, iRJ, iRT c2, kD, kR1]
            · refine hg.step [gd, gr] mu (by simp [gd, gr]; omega) ?_ (.inl rfl) (.inr ?_)
              · have := rest_both p c1 c2
                intro x hx
                simp at hx
                rcases hx with rfl | rfl <;> simp only [Go.val, gd, gr] <;> omega
              · have := rest_both p c1 c2
                by_cases q : p (g.i + 1) g.j + rest p m l (g.i + 1) g.j ≤ p g.i (g.j + 1) + rest p m l g.i (g.j + 1)
                · exact ⟨gr, by simp, by simp only [Go.val, gr]; omega⟩
                · exact ⟨gd, by simp, by simp only [Go.val, gd]; omega⟩
            · simp [gd, gr]; omega
            · have e : weight m l [gd, gr] = turnsL (m - (g.i + 1)) (l - g.j) + turnsL (m - g.i) (l - (g.j + 1)) := by simp [weight, gd, gr]
              rw [e]
              have := turns_both (m - (g.i + 1)) (l - (g.j + 1))
              rw [show m - (g.i + 1) + 1 = m - g.i by omega, show l - (g.j + 1) + 1 = l - g.j by omega] at this
              exact this
          · have g0 : decide (([g.i, g.j] : List Nat) = [m, l]) = false := by simp; omega
            have g1 : decide ((g.i : Int) < (m : Nat)) = true := decide_eq_true (by omega)
            have g2 : decide ((g.j : Int) < (l : Nat)) = false := decide_eq_false (by omega)
            have hj : g.j = l := by omega
            refine ⟨mu, [gd], ?_, ?_, ?_, ?_⟩
            · rw [g0] at ceq
              simp only [b_Lall_ways_0, A, B, r_var, kVar_sh, kVar_mu, kVar_br, kVar_lk, r_look0, r_look1, r_set0, r_set1, cont_sh, cont_mu, cont_br, cont_lk, peek_slot, peek_sh, peek_mu, frz_slot, frz_sh, frz_mu, kFrz_sh, kFrz_mu, kO_some, r_frzR, r_cst, r_glb, r_tup, r_lst, r_dnew, kBin_some, r_bin, kRep_some, r_lrep, kNeg_i, r_neg, kB_b, r_asB, r_not, r_and, r_or, kCmpR_some, kCmp_some, r_cmp, kCh2_some, kCh_some, r_chain, r_ite, kOut_sh, kOut_mu, kOut_exc, kCall_some, r_call, lends_nil, lends_val, lends_len, lends_mov, kSl_some, kOw_some, sl_nil, sl_val, sl_mov, sl_len, r_own, kOwn_mu, kOwn_br, bk_nil, bk_val, bk_mov, kBk_some, bk_len, r_upd, kUpd_mu, kUpd_br, kLend_mu, kLend_br, arg_lend, arg_mov, kVal_some, arg_val, arg_nil, arg_cons0, arg_cons, evs_nil, evs_cons, evAnd_cons, evOr_cons, evAnd_nil, if_tt, if_ff, kBi1_some, kBi2_some, r_bi1, r_bi2, r_isi, kIsi_non, kIsi_bl, kIsi_int, kIsi_str, kIsi_tup, kIsi_lst, kIsi_wr, kIt1_some, kIdx_some, r_idx, kOI_i, oi_nil, oi_one, kSlc_some, r_slc, kRev_some, r_rev, kIts_some, kAs_some, r_asIt, items_lst, items_tup, items_wr, kRng_i, r_rng1, r_listRng, r_tupRng, kRng2_i, r_rng2, kZip_some, r_zip, kLz_some, r_listZip, kEn_lst, r_enum, kApp_lst, kIsL_lst, r_isL, r_app, kExt_lst, r_ext, kPop_lst, r_pop, kPopAt_lst, r_popAt, x_asg, kPut_no, kPut_sh, kPut_mu, r_put, st_mu, st_sh, st_slot, sts_nil, sts_cons, x_unp, x_par, evps_nil, evps_cons, settle_sh, settle_mu, settle_slot, x_ex, x_ite, x_for, x_wh, kRet_sh, kRet_mu, kRetP_slot, kRetP_sh, kRetP_mu, x_ret, x_raise, x_pass, kSeq_nx, kSeq_ret, xs_nil, xs_cons, r_setItem, kSI_lst, kSI_dct, x_setI, kAug_add, kAug_sub, kAugS_sh, x_aug, t_nm, t_tp, kTs_some, ts_nil, ts_cons, kDef_ret, kDef_nx, kDef_exc, brOnly_br, brOnly_no, brOnly_sh, brOnly_mu, lent1, lent2, lent3, lent4, lent5, ty_int_int, ty_bool_int, ty_int_bl, ty_bool_bl, ↓evAnd_one, ↓evOr_one, unwipe, wipe, bt_ok, bt_exc, bt_stuck, lift_some, liftE_some, calm_ok, b_and, b_or, b_andP, cmp_eq_i, cmp_ne_i, cmp_lt_i, cmp_le_i, cmp_gt_i, cmp_ge_i, cmp_is_non, cmp_isnot_non, cmp_is_b, cmp_isnot_b, bin_add_i, bin_sub_i, List.cons_append, List.nil_append, List.append_nil, List.replicate_succ, List.replicate_zero, Nat.reduceSub, Nat.reduceAdd, Nat.reduceLT, Nat.reduceLeDiff, Nat.zero_le, Nat.le_refl, if_true, ite_true, if_false, ite_false, ↓reduceIte, List.length_cons, List.length_nil, Option.isSome_some, ne_eq, not_true_eq_false, not_false_eq_true, eq_self, decide_true, decide_false, Bool.not_true, Bool.not_false, Bool.and_true, Bool.true_and, Bool.false_and, Bool.or_false, Bool.false_or, Bool.true_or, kp, kPut_ok h5, kPut_ok h6, kPut_ok h7, ceq, i0, i1, g1, g2, Bool.false_eq_true, if_false, isLS, iDO c1, iDJ c1, iD c1, kD]
            · have := rest_down p (l := l) c1
              have e : gd.val p m l = g.val p m l := by simp only [Go.val, gd, hj]; omega
              exact hg.step [gd] mu (by simp [gd]; omega) (by intro x hx; rw [List.mem_singleton.mp hx]; omega) (.inl rfl) (.inr ⟨gd, by simp, e⟩)
            · simp [gd]; omega
            · rw [weight_one]
              have := turns_down (m - (g.i + 1)) (l - g.j)
              rw [show m - (g.i + 1) + 1 = m - g.i by omega] at this
              exact this
          · have g0 : decide (([g.i, g.j] : List Nat) = [m, l]) = false := by simp; omega
            have g1 : decide ((g.i : Int) < (m : Nat)) = false := decide_eq_false (by omega)
            have g2 : decide ((g.j : Int) < (l : Nat)) = true := decide_eq_true (by omega)
            have hi : g.i = m := by omega
            refine ⟨mu, [gr], ?_, ?_, ?_, ?_⟩
            · rw [g0] at ceq
              simp only [b_Lall_ways_0, A, B, r_var, kVar_sh, kVar_mu, kVar_br, kVar_lk, r_look0, r_look1, r_set0, r_set1, cont_sh, cont_mu, cont_br, cont_lk, peek_slot, peek_sh, peek_mu, frz_slot, frz_sh, frz_mu, kFrz_sh, kFrz_mu, kO_some, r_frzR, r_cst, r_glb, r_tup, r_lst, r_dnew, kBin_some, r_bin, kRep_some, r_lrep, kNeg_i, r_neg, kB_b, r_asB, r_not, r_and, r_or, kCmpR_some, kCmp_some, r_cmp, kCh2_some, kCh_some, r_chain, r_ite, kOut_sh, kOut_mu, kOut_exc, kCall_some, r_call, lends_nil, lends_val, lends_len, lends_mov, kSl_some, kOw_some, sl_nil, sl_val, sl_mov, sl_len, r_own, kOwn_mu, kOwn_br, bk_nil, bk_val, bk_mov, kBk_some, bk_len, r_upd, kUpd_mu, kUpd_br, kLend_mu, kLend_br, arg_lend, arg_mov, kVal_some, arg_val, arg_nil, arg_cons0, arg_cons, evs_nil, evs_cons, evAnd_cons, evOr_cons, evAnd_nil, if_tt, if_ff, kBi1_some, kBi2_some, r_bi1, r_bi2, r_isi, kIsi_non, kIsi_bl, kIsi_int, kIsi_str, kIsi_tup, kIsi_lst, kIsi_wr, kIt1_some, kIdx_some, r_idx, kOI_i, oi_nil, oi_one, kSlc_some, r_slc, kRev_some, r_rev, kIts_some, kAs_some, r_asIt, items_lst, items_tup, items_wr, kRng_i, r_rng1, r_listRng, r_tupRng, kRng2_i, r_rng2, kZip_some, r_zip, kLz_some, r_listZip, kEn_lst, r_enum, kApp_lst, kIsL_lst, r_isL, r_app, kExt_lst, r_ext, kPop_lst, r_pop, kPopAt_lst, r_popAt, x_asg, kPut_no, kPut_sh, kPut_mu, r_put, st_mu, st_sh, st_slot, sts_nil, sts_cons, x_unp, x_par, evps_nil, evps_cons, settle_sh, settle_mu, settle_slot, x_ex, x_ite, x_for, x_wh, kRet_sh, kRet_mu, kRetP_slot, kRetP_sh, kRetP_mu, x_ret, x_raise, x_pass, kSeq_nx, kSeq_ret, xs_nil, xs_cons, r_setItem, kSI_lst, kSI_dct, x_setI, kAug_add, kAug_sub, kAugS_sh, x_aug, t_nm, t_tp, kTs_some, ts_nil, ts_cons, kDef_ret, kDef_nx, kDef_exc, brOnly_br, brOnly_no, brOnly_sh, brOnly_mu, lent1, lent2, lent3, lent4, lent5, ty_int_int, ty_bool_int, ty_int_bl, ty_bool_bl, ↓evAnd_one, ↓evOr_one, unwipe, wipe, bt_ok, bt_exc, bt_stuck, lift_some, liftE_some, calm_ok, b_and, b_or, b_andP, cmp_eq_i, cmp_ne_i, cmp_lt_i, cmp_le_i, cmp_gt_i, cmp_ge_i, cmp_is_non, cmp_isnot_non, cmp_is_b, cmp_isnot_b, bin_add_i, bin_sub_i, List.cons_append, List.nil_append, List.append_nil, List.replicate_succ, List.replicate_zero, Nat.reduceSub, Nat.reduceAdd, Nat.reduceLT, Nat.reduceLeDiff, Nat.zero_le, Nat.le_refl, if_true, ite_true, if_false, ite_false, ↓reduceIte, List.length_cons, List.length_nil, Option.isSome_some, ne_eq, not_true_eq_false, not_false_eq_true, eq_self, decide_true, decide_false, Bool.not_true, Bool.not_false, Bool.and_true, Bool.true_and, Bool.false_and, Bool.or_false, Bool.false_or, Bool.true_or, kp, kPut_ok h5, kPut_ok h6, kPut_ok h7, ceq, i0, i1, g1, g2, Bool.false_eq_true, if_false, isLS, iRO, iRJ, iRT c2, kR]
            · have := rest_right p (m := m) c2
              have e : gr.val p m l = g.val p m l := by simp only [Go.val, gr, hi]; omega
              exact hg.step [gr] mu (by simp [gr]; omega) (by intro x hx; rw [List.mem_singleton.mp hx]; omega) (.inl rfl) (.inr ⟨gr, by simp, e⟩)
            · simp [gr]; omega
            · rw [weight_one]
              have := turns_right (m - g.i) (l - (g.j + 1))
              rw [show l - (g.j + 1) + 1 = l - g.j by omega] at this
              exact this
          · have hi : g.i = m := by omega
            have hj : g.j = l := by omega
            have g0 : decide (([g.i, g.j] : List Nat) = [m, l]) = true := by simp [hi, hj]
            have g1 : decide ((g.i : Int) < (m : Nat)) = false := decide_eq_false (by omega)
            have g2 : decide ((g.j : Int) < (l : Nat)) = false := decide_eq_false (by omega)
            refine ⟨max mu g.t, [], ?_, ?_, ?_, ?_⟩
            · rw [g0] at ceq
              simp only [b_Lall_ways_0, A, B, r_var, kVar_sh, kVar_mu, kVar_br, kVar_lk, r_look0, r_look1, r_set0, r_set1, cont_sh, cont_mu, cont_br, cont_lk, peek_slot, peek_sh, peek_mu, frz_slot, frz_sh, frz_mu, kFrz_sh, kFrz_mu, kO_some, r_frzR, r_cst, r_glb, r_tup, r_lst, r_dnew, kBin_some, r_bin, kRep_some, r_lrep, kNeg_i, r_neg, kB_b, r_asB, r_not, r_and, r_or, kCmpR_some, kCmp_some, r_cmp, kCh2_some, kCh_some, r_chain, r_ite, kOut_sh, kOut_mu, kOut_exc, kCall_some, r_call, lends_nil, lends_val, lends_len, lends_mov, kSl_some, kOw_some, sl_nil, sl_val, sl_mov, sl_len, r_own, kOwn_mu, kOwn_br, bk_nil, bk_val, bk_mov, kBk_some, bk_len, r_upd, kUpd_mu, kUpd_br, kLend_mu, kLend_br, arg_lend, arg_mov, kVal_some, arg_val, arg_nil, arg_cons0, arg_cons, evs_nil, evs_cons, evAnd_cons, evOr_cons, evAnd_nil, if_tt, if_ff, kBi1_some, kBi2_some, r_bi1, r_bi2, r_isi, kIsi_non, kIsi_bl, kIsi_int, kIsi_str, kIsi_tup, kIsi_lst, kIsi_wr, kIt1_some, kIdx_some, r_idx, kOI_i, oi_nil, oi_one, kSlc_some, r_slc, kRev_some, r_rev, kIts_some, kAs_some, r_asIt, items_lst, items_tup, items_wr, kRng_i, r_rng1, r_listRng, r_tupRng, kRng2_i, r_rng2, kZip_some, r_zip, kLz_some, r_listZip, kEn_lst, r_enum, kApp_lst, kIsL_lst, r_isL, r_app, kExt_lst, r_ext, kPop_lst, r_pop, kPopAt_lst, r_popAt, x_asg, kPut_no, kPut_sh, kPut_mu, r_put, st_mu, st_sh, st_slot, sts_nil, sts_cons, x_unp, x_par, evps_nil, evps_cons, settle_sh, settle_mu, settle_slot, x_ex, x_ite, x_for, x_wh, kRet_sh, kRet_mu, kRetP_slot, kRetP_sh, kRetP_mu, x_ret, x_raise, x_pass, kSeq_nx, kSeq_ret, xs_nil, xs_cons, r_setItem, kSI_lst, kSI_dct, x_setI, kAug_add, kAug_sub, kAugS_sh, x_aug, t_nm, t_tp, kTs_some, ts_nil, ts_cons, kDef_ret, kDef_nx, kDef_exc, brOnly_br, brOnly_no, brOnly_sh, brOnly_mu, lent1, lent2, lent3, lent4, lent5, ty_int_int, ty_bool_int, ty_int_bl, ty_bool_bl, ↓evAnd_one, ↓evOr_one, unwipe, wipe, bt_ok, bt_exc, bt_stuck, lift_some, liftE_some, calm_ok, b_and, b_or, b_andP, cmp_eq_i, cmp_ne_i, cmp_lt_i, cmp_le_i, cmp_gt_i, cmp_ge_i, cmp_is_non, cmp_isnot_non, cmp_is_b, cmp_isnot_b, bin_add_i, bin_sub_i, List.cons_append, List.nil_append, List.append_nil, List.replicate_succ, List.replicate_zero, Nat.reduceSub, Nat.reduceAdd, Nat.reduceLT, Nat.reduceLeDiff, Nat.zero_le, Nat.le_refl, if_true, ite_true, if_false, ite_false, ↓reduceIte, List.length_cons, List.length_nil, Option.isSome_some, ne_eq, not_true_eq_false, not_false_eq_true, eq_self, decide_true, decide_false, Bool.not_true, Bool.not_false, Bool.and_true, Bool.true_and, Bool.false_and, Bool.or_false, Bool.false_or, Bool.true_or, kp, kPut_ok h5, kPut_ok h6, kPut_ok h7, ceq, i0, i1, g1, g2, max2_max, Bool.false_eq_true, if_false]
            · have e : max mu g.t = max mu (g.val p m l) := by
                have := rest_end p m l
                simp only [Go.val, hi, hj]; omega
              rw [e]
              exact hg.step [] _ (by simp) (by simp) (.inr rfl) (.inl rfl)
            · simp
            · simp [weight]; exact turns_pos _ _
        obtain ⟨mu', T, e9, hg', hT, hlt⟩ := main
        exact ⟨_, e9, ⟨mu', S' ++ T, _, _, _, rfl, hg', by have := weight_app (m := m) (l := l) S' T; have := weight_app (m := m) (l := l) S' [g]; rw [weight_one] at this; omega, trivial, trivial, trivial⟩, by rw [hw0]; have := hw mu' T hT; simp only [B] at this; rw [this]; omega⟩)
  have q0 : item (tN o) (.int 0) = some (.int (o.getD 0 0 : Nat)) := iO 0 (by omega)
  have q1 : item (tT J) (.int (o.getD 0 0 : Nat)) = some (tI (J.getD (o.getD 0 0) [])) := iJ 0 (by omega)
  have q2 : item (tI (J.getD (o.getD 0 0) [])) (.int 0) = some (.int (p 0 0)) := iT 0 0 (by omega) (by omega)
  have q3 : item (tT J) (.int 0) = some (tI (J.getD 0 [])) := h.i0
  have La' : (D.tup [.int ((o.length : Int) - 1), .int ((k : Int) - 1)]) = La := by simp [La]; omega
  have z0 : (D.lst [.tup [.tup [.int 0, .int 0], .int (p 0 0)]]) = .lst (([⟨0, 0, p 0 0⟩] : List Go).map Go.enc) := rfl
  simp only [A] at e1
  simp only [r_var, kVar_sh, kVar_mu, kVar_br, kVar_lk, r_look0, r_look1, r_set0, r_set1, cont_sh, cont_mu, cont_br, cont_lk, peek_slot, peek_sh, peek_mu, frz_slot, frz_sh, frz_mu, kFrz_sh, kFrz_mu, kO_some, r_frzR, r_cst, r_glb, r_tup, r_lst, r_dnew, kBin_some, r_bin, kRep_some, r_lrep, kNeg_i, r_neg, kB_b, r_asB, r_not, r_and, r_or, kCmpR_some, kCmp_some, r_cmp, kCh2_some, kCh_some, r_chain, r_ite, kOut_sh, kOut_mu, kOut_exc, kCall_some, r_call, lends_nil, lends_val, lends_len, lends_mov, kSl_some, kOw_some, sl_nil, sl_val, sl_mov, sl_len, r_own, kOwn_mu, kOwn_br, bk_nil, bk_val, bk_mov, kBk_some, bk_len, r_upd, kUpd_mu, kUpd_br, kLend_mu, kLend_br, arg_lend, arg_mov, kVal_some, arg_val, arg_nil, arg_cons0, arg_cons, evs_nil, evs_cons, evAnd_cons, evOr_cons, evAnd_nil, if_tt, if_ff, kBi1_some, kBi2_some, r_bi1, r_bi2, r_isi, kIsi_non, kIsi_bl, kIsi_int, kIsi_str, kIsi_tup, kIsi_lst, kIsi_wr, kIt1_some, kIdx_some, r_idx, kOI_i, oi_nil, oi_one, kSlc_some, r_slc, kRev_some, r_rev, kIts_some, kAs_some, r_asIt, items_lst, items_tup, items_wr, kRng_i, r_rng1, r_listRng, r_tupRng, kRng2_i, r_rng2, kZip_some, r_zip, kLz_some, r_listZip, kEn_lst, r_enum, kApp_lst, kIsL_lst, r_isL, r_app, kExt_lst, r_ext, kPop_lst, r_pop, kPopAt_lst, r_popAt, x_asg, kPut_no, kPut_sh, kPut_mu, r_put, st_mu, st_sh, st_slot, sts_nil, sts_cons, x_unp, x_par, evps_nil, evps_cons, settle_sh, settle_mu, settle_slot, x_ex, x_ite, x_for, x_wh, kRet_sh, kRet_mu, kRetP_slot, kRetP_sh, kRetP_mu, x_ret, x_raise, x_pass, kSeq_nx, kSeq_ret, xs_nil, xs_cons, r_setItem, kSI_lst, kSI_dct, x_setI, kAug_add, kAug_sub, kAugS_sh, x_aug, t_nm, t_tp, kTs_some, ts_nil, ts_cons, kDef_ret, kDef_nx, kDef_exc, brOnly_br, brOnly_no, brOnly_sh, brOnly_mu, lent1, lent2, lent3, lent4, lent5, ty_int_int, ty_bool_int, ty_int_bl, ty_bool_bl, ↓evAnd_one, ↓evOr_one, unwipe, wipe, bt_ok, bt_exc, bt_stuck, lift_some, liftE_some, calm_ok, b_and, b_or, b_andP, cmp_eq_i, cmp_ne_i, cmp_lt_i, cmp_le_i, cmp_gt_i, cmp_ge_i, cmp_is_non, cmp_isnot_non, cmp_is_b, cmp_isnot_b, bin_add_i, bin_sub_i, List.cons_append, List.nil_append, List.append_nil, List.replicate_succ, List.replicate_zero, Nat.reduceSub, Nat.reduceAdd, Nat.reduceLT, Nat.reduceLeDiff, Nat.zero_le, Nat.le_refl, if_true, ite_true, if_false, ite_false, ↓reduceIte, List.length_cons, List.length_nil, Option.isSome_some, ne_eq, not_true_eq_false, not_false_eq_true, eq_self, decide_true, decide_false, Bool.not_true, Bool.not_false, Bool.and_true, Bool.true_and, Bool.false_and, Bool.or_false, Bool.false_or, Bool.true_or, len_tN, h.i0, len_tI, h.l0, q0, q1, q2, La', z0, e1, hend]
end
end SL

/-! ## L26 -/
set_option maxRecDepth 100000
set_option linter.all false
set_option autoImplicit false
namespace SL
section
variable {n k : Nat} {J : List (List Int)} {o : List Nat}
theorem are_jobs_sp (hn : 4 ≤ n) (h : Jobs k J) : run GA n i_are_jobs [.sh (tT J)] = .ret (.sh (.bl true)) [.no] := by
  obtain ⟨n, rfl⟩ : ∃ m, n = m + 1 := ⟨n - 1, by omega⟩
  rw [run_def rfl rfl]
  simp only [r_var, kVar_sh, kVar_mu, kVar_br, kVar_lk, r_look0, r_look1, r_set0, r_set1, cont_sh, cont_mu, cont_br, cont_lk, peek_slot, peek_sh, peek_mu, frz_slot, frz_sh, frz_mu, kFrz_sh, kFrz_mu, kO_some, r_frzR, r_cst, r_glb, r_tup, r_lst, r_dnew, kBin_some, r_bin, kRep_some, r_lrep, kNeg_i, r_neg, kB_b, r_asB, r_not, r_and, r_or, kCmpR_some, kCmp_some, r_cmp, kCh2_some, kCh_some, r_chain, r_ite, kOut_sh, kOut_mu, kOut_exc, kCall_some, r_call, lends_nil, lends_val, lends_len, lends_mov, kSl_some, kOw_some, sl_nil, sl_val, sl_mov, sl_len, r_own, kOwn_mu, kOwn_br, bk_nil, bk_val, bk_mov, kBk_some, bk_len, r_upd, kUpd_mu, kUpd_br, kLend_mu, kLend_br, arg_lend, arg_mov, kVal_some, arg_val, arg_nil, arg_cons0, arg_cons, evs_nil, evs_cons, evAnd_cons, evOr_cons, evAnd_nil, if_tt, if_ff, kBi1_some, kBi2_some, r_bi1, r_bi2, r_isi, kIsi_non, kIsi_bl, kIsi_int, kIsi_str, kIsi_tup, kIsi_lst, kIsi_wr, kIt1_some, kIdx_some, r_idx, kOI_i, oi_nil, oi_one, kSlc_some, r_slc, kRev_some, r_rev, kIts_some, kAs_some, r_asIt, items_lst, items_tup, items_wr, kRng_i, r_rng1, r_listRng, r_tupRng, kRng2_i, r_rng2, kZip_some, r_zip, kLz_some, r_listZip, kEn_lst, r_enum, kApp_lst, kIsL_lst, r_isL, r_app, kExt_lst, r_ext, kPop_lst, r_pop, kPopAt_lst, r_popAt, x_asg, kPut_no, kPut_sh, kPut_mu, r_put, st_mu, st_sh, st_slot, sts_nil, sts_cons, x_unp, x_par, evps_nil, evps_cons, settle_sh, settle_mu, settle_slot, x_ex, x_ite, x_for, x_wh, kRet_sh, kRet_mu, kRetP_slot, kRetP_sh, kRetP_mu, x_ret, x_raise, x_pass, kSeq_nx, kSeq_ret, xs_nil, xs_cons, r_setItem, kSI_lst, kSI_dct, x_setI, kAug_add, kAug_sub, kAugS_sh, x_aug, t_nm, t_tp, kTs_some, ts_nil, ts_cons, kDef_ret, kDef_nx, kDef_exc, brOnly_br, brOnly_no, brOnly_sh, brOnly_mu, lent1, lent2, lent3, lent4, lent5, ty_int_int, ty_bool_int, ty_int_bl, ty_bool_bl, ↓evAnd_one, ↓evOr_one, unwipe, wipe, bt_ok, bt_exc, bt_stuck, lift_some, liftE_some, calm_ok, b_and, b_or, b_andP, cmp_eq_i, cmp_ne_i, cmp_lt_i, cmp_le_i, cmp_gt_i, cmp_ge_i, cmp_is_non, cmp_isnot_non, cmp_is_b, cmp_isnot_b, bin_add_i, bin_sub_i, List.cons_append, List.nil_append, List.append_nil, List.replicate_succ, List.replicate_zero, Nat.reduceSub, Nat.reduceAdd, Nat.reduceLT, Nat.reduceLeDiff, Nat.zero_le, Nat.le_refl, if_true, ite_true, if_false, ite_false, ↓reduceIte, List.length_cons, List.length_nil, Option.isSome_some, ne_eq, not_true_eq_false, not_false_eq_true, eq_self, decide_true, decide_false, Bool.not_true, Bool.not_false, Bool.and_true, Bool.true_and, Bool.false_and, Bool.or_false, Bool.false_or, Bool.true_or, good_jobs_sp (show 3 ≤ n by omega) h]
theorem ends_sp (hn : 6 ≤ n) (h : Jobs k J) (ho : Order J o) : run GA n i_ends [.sh (tT J), .sh (tN o)] = .ret (.mu (lT (endsV J (zeros k) o))) [.no, .no] := by
  obtain ⟨n, rfl⟩ : ∃ m, n = m + 1 := ⟨n - 1, by omega⟩
  rw [run_def rfl rfl]
  have n8 := h.n8
  have hl := Order.len ho
  have hr := fun i (hi : i ∈ o) => Order.lt ho hi
  simp only [r_var, kVar_sh, kVar_mu, kVar_br, kVar_lk, r_look0, r_look1, r_set0, r_set1, cont_sh, cont_mu, cont_br, cont_lk, peek_slot, peek_sh, peek_mu, frz_slot, frz_sh, frz_mu, kFrz_sh, kFrz_mu, kO_some, r_frzR, r_cst, r_glb, r_tup, r_lst, r_dnew, kBin_some, r_bin, kRep_some, r_lrep, kNeg_i, r_neg, kB_b, r_asB, r_not, r_and, r_or, kCmpR_some, kCmp_some, r_cmp, kCh2_some, kCh_some, r_chain, r_ite, kOut_sh, kOut_mu, kOut_exc, kCall_some, r_call, lends_nil, lends_val, lends_len, lends_mov, kSl_some, kOw_some, sl_nil, sl_val, sl_mov, sl_len, r_own, kOwn_mu, kOwn_br, bk_nil, bk_val, bk_mov, kBk_some, bk_len, r_upd, kUpd_mu, kUpd_br, kLend_mu, kLend_br, arg_lend, arg_mov, kVal_some, arg_val, arg_nil, arg_cons0, arg_cons, evs_nil, evs_cons, evAnd_cons, evOr_cons, evAnd_nil, if_tt, if_ff, kBi1_some, kBi2_some, r_bi1, r_bi2, r_isi, kIsi_non, kIsi_bl, kIsi_int, kIsi_str, kIsi_tup, kIsi_lst, kIsi_wr, kIt1_some, kIdx_some, r_idx, kOI_i, oi_nil, oi_one, kSlc_some, r_slc, kRev_some, r_rev, kIts_some, kAs_some, r_asIt, items_lst, items_tup, items_wr, kRng_i, r_rng1, r_listRng, r_tupRng, kRng2_i, r_rng2, kZip_some, r_zip, kLz_some, r_listZip, kEn_lst, r_enum, kApp_lst, kIsL_lst, r_isL, r_app, kExt_lst, r_ext, kPop_lst, r_pop, kPopAt_lst, r_popAt, x_asg, kPut_no, kPut_sh, kPut_mu, r_put, st_mu, st_sh, st_slot, sts_nil, sts_cons, x_unp, x_par, evps_nil, evps_cons, settle_sh, settle_mu, settle_slot, x_ex, x_ite, x_for, x_wh, kRet_sh, kRet_mu, kRetP_slot, kRetP_sh, kRetP_mu, x_ret, x_raise, x_pass, kSeq_nx, kSeq_ret, xs_nil, xs_cons, r_setItem, kSI_lst, kSI_dct, x_setI, kAug_add, kAug_sub, kAugS_sh, x_aug, t_nm, t_tp, kTs_some, ts_nil, ts_cons, kDef_ret, kDef_nx, kDef_exc, brOnly_br, brOnly_no, brOnly_sh, brOnly_mu, lent1, lent2, lent3, lent4, lent5, ty_int_int, ty_bool_int, ty_int_bl, ty_bool_bl, ↓evAnd_one, ↓evOr_one, unwipe, wipe, bt_ok, bt_exc, bt_stuck, lift_some, liftE_some, calm_ok, b_and, b_or, b_andP, cmp_eq_i, cmp_ne_i, cmp_lt_i, cmp_le_i, cmp_gt_i, cmp_ge_i, cmp_is_non, cmp_isnot_non, cmp_is_b, cmp_isnot_b, bin_add_i, bin_sub_i, List.cons_append, List.nil_append, List.append_nil, List.replicate_succ, List.replicate_zero, Nat.reduceSub, Nat.reduceAdd, Nat.reduceLT, Nat.reduceLeDiff, Nat.zero_le, Nat.le_refl, if_true, ite_true, if_false, ite_false, ↓reduceIte, List.length_cons, List.length_nil, Option.isSome_some, ne_eq, not_true_eq_false, not_false_eq_true, eq_self, decide_true, decide_false, Bool.not_true, Bool.not_false, Bool.and_true, Bool.true_and, Bool.false_and, Bool.or_false, Bool.false_or, Bool.true_or, need_passing_sp (show 5 ≤ n by omega) h ho, ends_of_sp (show 1 ≤ n by omega) h hr (show o.length ≤ 1000 by omega)]
end
theorem law_k26 (ns : List Int) (hs : ns.length ≤ 63) : ∃ l, run GA 7 i_law_k26 [sS ns] = .ret (.sh (.bl true)) l := by
  rw [show (7:Nat) = 6 + 1 from rfl, run_def rfl rfl]
  obtain ⟨k, J, t1, d1, h, hm, ht1⟩ := jobs_sp (n := 6) (by omega) ns hs [] (by simp) 7 (by omega) (by omega) (M := 7) rfl
  have n8 := h.n8
  have n1 := h.n1
  have k2 := h.k2
  have k4 := h.k4
  simp at ht1
  obtain ⟨o, t2, d2, ho, ht2⟩ := order_of_sp (n := 6) (by omega) ns hs t1 J.length (by omega) (by omega)
  have ol := Order.len ho
  have hr : ∀ i ∈ o, i < J.length := fun i hi => Order.lt ho hi
  have hle := lastE_len h (zeros_len k) o hr
  let A : Slot → Env := fun a => [sS ns, .mu (.lst t2), .sh (tT J), .sh (tN o), .mu (lT (endsV J (zeros k) o)), a]
  have C0 : ev (run GA 6) q_law_k26_0 (A .no) = .ok (.mu (.lst (J.map fun p => tI p.reverse))) (A .no) :=
    ev_comp1 (ys := J) (g := tI) (p := .slot 2) (fun p => tI p.reverse) (fun p => A (.sh (tI p)))
      (by simp only [A, r_var, kVar_sh, kVar_mu, kVar_br, kVar_lk, r_look0, r_look1, r_set0, r_set1, cont_sh, cont_mu, cont_br, cont_lk, peek_slot, peek_sh, peek_mu, frz_slot, frz_sh, frz_mu, kFrz_sh, kFrz_mu, kO_some, r_frzR, r_cst, r_glb, r_tup, r_lst, r_dnew, kBin_some, r_bin, kRep_some, r_lrep, kNeg_i, r_neg, kB_b, r_asB, r_not, r_and, r_or, kCmpR_some, kCmp_some, r_cmp, kCh2_some, kCh_some, r_chain, r_ite, kOut_sh, kOut_mu, kOut_exc, kCall_some, r_call, lends_nil, lends_val, lends_len, lends_mov, kSl_some, kOw_some, sl_nil, sl_val, sl_mov, sl_len, r_own, kOwn_mu, kOwn_br, bk_nil, bk_val, bk_mov, kBk_some, bk_len, r_upd, kUpd_mu, kUpd_br, kLend_mu, kLend_br, arg_lend, arg_mov, kVal_some, arg_val, arg_nil, arg_cons0, arg_cons, evs_nil, evs_cons, evAnd_cons, evOr_cons, evAnd_nil, if_tt, if_ff, kBi1_some, kBi2_some, r_bi1, r_bi2, r_isi, kIsi_non, kIsi_bl, kIsi_int, kIsi_str, kIsi_tup, kIsi_lst, kIsi_wr, kIt1_some, kIdx_some, r_idx, kOI_i, oi_nil, oi_one, kSlc_some, r_slc, kRev_some, r_rev, kIts_some, kAs_some, r_asIt, items_lst, items_tup, items_wr, kRng_i, r_rng1, r_listRng, r_tupRng, kRng2_i, r_rng2, kZip_some, r_zip, kLz_some, r_listZip, kEn_lst, r_enum, kApp_lst, kIsL_lst, r_isL, r_app, kExt_lst, r_ext, kPop_lst, r_pop, kPopAt_lst, r_popAt, x_asg, kPut_no, kPut_sh, kPut_mu, r_put, st_mu, st_sh, st_slot, sts_nil, sts_cons, x_unp, x_par, evps_nil, evps_cons, settle_sh, settle_mu, settle_slot, x_ex, x_ite, x_for, x_wh, kRet_sh, kRet_mu, kRetP_slot, kRetP_sh, kRetP_mu, x_ret, x_raise, x_pass, kSeq_nx, kSeq_ret, xs_nil, xs_cons, r_setItem, kSI_lst, kSI_dct, x_setI, kAug_add, kAug_sub, kAugS_sh, x_aug, t_nm, t_tp, kTs_some, ts_nil, ts_cons, kDef_ret, kDef_nx, kDef_exc, brOnly_br, brOnly_no, brOnly_sh, brOnly_mu, lent1, lent2, lent3, lent4, lent5, ty_int_int, ty_bool_int, ty_int_bl, ty_bool_bl, ↓evAnd_one, ↓evOr_one, unwipe, wipe, bt_ok, bt_exc, bt_stuck, lift_some, liftE_some, calm_ok, b_and, b_or, b_andP, cmp_eq_i, cmp_ne_i, cmp_lt_i, cmp_le_i, cmp_gt_i, cmp_ge_i, cmp_is_non, cmp_isnot_non, cmp_is_b, cmp_isnot_b, bin_add_i, bin_sub_i, List.cons_append, List.nil_append, List.append_nil, List.replicate_succ, List.replicate_zero, Nat.reduceSub, Nat.reduceAdd, Nat.reduceLT, Nat.reduceLeDiff, Nat.zero_le, Nat.le_refl, if_true, ite_true, if_false, ite_false, ↓reduceIte, List.length_cons, List.length_nil, Option.isSome_some, ne_eq, not_true_eq_false, not_false_eq_true, eq_self, decide_true, decide_false, Bool.not_true, Bool.not_false, Bool.and_true, Bool.true_and, Bool.false_and, Bool.or_false, Bool.false_or, Bool.true_or, items_tT]) (by rw [lim_eq]; omega) rfl rfl rfl (fun p hp => ⟨rfl, fun acc => (by
        have e : revD (tI p) = some (.sh (tI p.reverse)) := by simp [revD, tI]
        simp only [A, r_var, kVar_sh, kVar_mu, kVar_br, kVar_lk, r_look0, r_look1, r_set0, r_set1, cont_sh, cont_mu, cont_br, cont_lk, peek_slot, peek_sh, peek_mu, frz_slot, frz_sh, frz_mu, kFrz_sh, kFrz_mu, kO_some, r_frzR, r_cst, r_glb, r_tup, r_lst, r_dnew, kBin_some, r_bin, kRep_some, r_lrep, kNeg_i, r_neg, kB_b, r_asB, r_not, r_and, r_or, kCmpR_some, kCmp_some, r_cmp, kCh2_some, kCh_some, r_chain, r_ite, kOut_sh, kOut_mu, kOut_exc, kCall_some, r_call, lends_nil, lends_val, lends_len, lends_mov, kSl_some, kOw_some, sl_nil, sl_val, sl_mov, sl_len, r_own, kOwn_mu, kOwn_br, bk_nil, bk_val, bk_mov, kBk_some, bk_len, r_upd, kUpd_mu, kUpd_br, kLend_mu, kLend_br, arg_lend, arg_mov, kVal_some, arg_val, arg_nil, arg_cons0, arg_cons, evs_nil, evs_cons, evAnd_cons, evOr_cons, evAnd_nil, if_tt, if_ff, kBi1_some, kBi2_some, r_bi1, r_bi2, r_isi, kIsi_non, kIsi_bl, kIsi_int, kIsi_str, kIsi_tup, kIsi_lst, kIsi_wr, kIt1_some, kIdx_some, r_idx, kOI_i, oi_nil, oi_one, kSlc_some, r_slc, kRev_some, r_rev, kIts_some, kAs_some, r_asIt, items_lst, items_tup, items_wr, kRng_i, r_rng1, r_listRng, r_tupRng, kRng2_i, r_rng2, kZip_some, r_zip, kLz_some, r_listZip, kEn_lst, r_enum, kApp_lst, kIsL_lst, r_isL, r_app, kExt_lst, r_ext, kPop_lst, r_pop, kPopAt_lst, r_popAt, x_asg, kPut_no, kPut_sh, kPut_mu, r_put, st_mu, st_sh, st_slot, sts_nil, sts_cons, x_unp, x_par, evps_nil, evps_cons, settle_sh, settle_mu, settle_slot, x_ex, x_ite, x_for, x_wh, kRet_sh, kRet_mu, kRetP_slot, kRetP_sh, kRetP_mu, x_ret, x_raise, x_pass, kSeq_nx, kSeq_ret, xs_nil, xs_cons, r_setItem, kSI_lst, kSI_dct, x_setI, kAug_add, kAug_sub, kAugS_sh, x_aug, t_nm, t_tp, kTs_some, ts_nil, ts_cons, kDef_ret, kDef_nx, kDef_exc, brOnly_br, brOnly_no, brOnly_sh, brOnly_mu, lent1, lent2, lent3, lent4, lent5, ty_int_int, ty_bool_int, ty_int_bl, ty_bool_bl, ↓evAnd_one, ↓evOr_one, unwipe, wipe, bt_ok, bt_exc, bt_stuck, lift_some, liftE_some, calm_ok, b_and, b_or, b_andP, cmp_eq_i, cmp_ne_i, cmp_lt_i, cmp_le_i, cmp_gt_i, cmp_ge_i, cmp_is_non, cmp_isnot_non, cmp_is_b, cmp_isnot_b, bin_add_i, bin_sub_i, List.cons_append, List.nil_append, List.append_nil, List.replicate_succ, List.replicate_zero, Nat.reduceSub, Nat.reduceAdd, Nat.reduceLT, Nat.reduceLeDiff, Nat.zero_le, Nat.le_refl, if_true, ite_true, if_false, ite_false, ↓reduceIte, List.length_cons, List.length_nil, Option.isSome_some, ne_eq, not_true_eq_false, not_false_eq_true, eq_self, decide_true, decide_false, Bool.not_true, Bool.not_false, Bool.and_true, Bool.true_and, Bool.false_and, Bool.or_false, Bool.false_or, Bool.true_or, e]), rfl, rfl, rfl⟩) rfl
  have e0 : bi1 .tuple (.lst (J.map fun p => tI p.reverse)) = some (.sh (tT (J.map List.reverse))) := tuple_I J List.reverse
  have ho' : Order (J.map List.reverse) o.reverse := by unfold Order; rw [List.length_map]; exact (List.reverse_perm o).trans ho
  have i1 := item_last (endsV_last J o (zeros k) (by intro e; rw [e] at ol; simp at ol; omega))
  have i2 : item (tI (lastE J (zeros k) o)) (.int (-1)) = some (.int (endV J k o)) := item_lastI (by
    rw [List.getLast?_eq_getElem?, hle, endV, List.getD_eq_getElem?_getD]
    rw [List.getElem?_eq_getElem (by omega)]; rfl)
  have h0 := h.i0
  simp only [A] at C0
  refine ⟨[.no], ?_⟩
  simp only [r_var, kVar_sh, kVar_mu, kVar_br, kVar_lk, r_look0, r_look1, r_set0, r_set1, cont_sh, cont_mu, cont_br, cont_lk, peek_slot, peek_sh, peek_mu, frz_slot, frz_sh, frz_mu, kFrz_sh, kFrz_mu, kO_some, r_frzR, r_cst, r_glb, r_tup, r_lst, r_dnew, kBin_some, r_bin, kRep_some, r_lrep, kNeg_i, r_neg, kB_b, r_asB, r_not, r_and, r_or, kCmpR_some, kCmp_some, r_cmp, kCh2_some, kCh_some, r_chain, r_ite, kOut_sh, kOut_mu, kOut_exc, kCall_some, r_call, lends_nil, lends_val, lends_len, lends_mov, kSl_some, kOw_some, sl_nil, sl_val, sl_mov, sl_len, r_own, kOwn_mu, kOwn_br, bk_nil, bk_val, bk_mov, kBk_some, bk_len, r_upd, kUpd_mu, kUpd_br, kLend_mu, kLend_br, arg_lend, arg_mov, kVal_some, arg_val, arg_nil, arg_cons0, arg_cons, evs_nil, evs_cons, evAnd_cons, evOr_cons, evAnd_nil, if_tt, if_ff, kBi1_some, kBi2_some, r_bi1, r_bi2, r_isi, kIsi_non, kIsi_bl, kIsi_int, kIsi_str, kIsi_tup, kIsi_lst, kIsi_wr, kIt1_some, kIdx_some, r_idx, kOI_i, oi_nil, oi_one, kSlc_some, r_slc, kRev_some, r_rev, kIts_some, kAs_some, r_asIt, items_lst, items_tup, items_wr, kRng_i, r_rng1, r_listRng, r_tupRng, kRng2_i, r_rng2, kZip_some, r_zip, kLz_some, r_listZip, kEn_lst, r_enum, kApp_lst, kIsL_lst, r_isL, r_app, kExt_lst, r_ext, kPop_lst, r_pop, kPopAt_lst, r_popAt, x_asg, kPut_no, kPut_sh, kPut_mu, r_put, st_mu, st_sh, st_slot, sts_nil, sts_cons, x_unp, x_par, evps_nil, evps_cons, settle_sh, settle_mu, settle_slot, x_ex, x_ite, x_for, x_wh, kRet_sh, kRet_mu, kRetP_slot, kRetP_sh, kRetP_mu, x_ret, x_raise, x_pass, kSeq_nx, kSeq_ret, xs_nil, xs_cons, r_setItem, kSI_lst, kSI_dct, x_setI, kAug_add, kAug_sub, kAugS_sh, x_aug, t_nm, t_tp, kTs_some, ts_nil, ts_cons, kDef_ret, kDef_nx, kDef_exc, brOnly_br, brOnly_no, brOnly_sh, brOnly_mu, lent1, lent2, lent3, lent4, lent5, ty_int_int, ty_bool_int, ty_int_bl, ty_bool_bl, ↓evAnd_one, ↓evOr_one, unwipe, wipe, bt_ok, bt_exc, bt_stuck, lift_some, liftE_some, calm_ok, b_and, b_or, b_andP, cmp_eq_i, cmp_ne_i, cmp_lt_i, cmp_le_i, cmp_gt_i, cmp_ge_i, cmp_is_non, cmp_isnot_non, cmp_is_b, cmp_isnot_b, bin_add_i, bin_sub_i, List.cons_append, List.nil_append, List.append_nil, List.replicate_succ, List.replicate_zero, Nat.reduceSub, Nat.reduceAdd, Nat.reduceLT, Nat.reduceLeDiff, Nat.zero_le, Nat.le_refl, if_true, ite_true, if_false, ite_false, ↓reduceIte, List.length_cons, List.length_nil, Option.isSome_some, ne_eq, not_true_eq_false, not_false_eq_true, eq_self, decide_true, decide_false, Bool.not_true, Bool.not_false, Bool.and_true, Bool.true_and, Bool.false_and, Bool.or_false, Bool.false_or, Bool.true_or, d1, len_tT, d2, ways_end_sp (n := 6) (by omega) h ho, are_jobs_sp (n := 6) (by omega) h, ends_sp (n := 6) (by omega) h ho, cmp_ne_enc enc_lT (by omega), decide_not, decide_true, end_sp (n := 6) (by omega) h ho, i1, i2, same_number_sp (n := 6) (by omega), all_ways_sp (n := 6) (by omega) h ho, C0, e0, rev_tN, end_sp (n := 6) (by omega) (rev_jobs h) ho', end_back h ho, beq_self_eq_true, Bool.false_eq_true]
end SL

set_option maxHeartbeats 400000
theorem PLAIN_k26 (ns : List Int) (h : ns.length ≤ 63) (_ : ∀ z ∈ ns, PySem.Builtin.Int.intBits z ≤ 1048576) : ∃ ls, SL.run SL.GA 7 SL.i_law_k26 [.sh (.lst (ns.map .int))] = .ret (.sh (.bl true)) ls := SL.law_k26 ns h
namespace Hk26
open PySem PySem.Spec PyProof.Rows L2 SLS
open SL (D Slot PV Res Ag Tgt CE CS)
abbrev top (i : Nat) : Stmt := PySem.Challenge.pw_steadyloads_k26_whole_ends.main.body.getD i (.Pass ⟨0, 0, 0, 0⟩)
abbrev s0 : Stmt := top 19
abbrev s1 : Stmt := top 20
abbrev s2 : Stmt := top 21
abbrev s3 : Stmt := top 23
abbrev s4 : Stmt := top 22
abbrev s5 : Stmt := top 24
abbrev s6 : Stmt := top 6
abbrev s7 : Stmt := top 9
abbrev s8 : Stmt := top 10
abbrev s9 : Stmt := top 12
abbrev s10 : Stmt := top 13
abbrev s11 : Stmt := top 14
abbrev s12 : Stmt := top 16
abbrev s13 : Stmt := top 25
abbrev s14 : Stmt := top 11
abbrev s15 : Stmt := top 15
abbrev s16 : Stmt := top 18
abbrev s17 : Stmt := top 26
def nm : Nat → Option Str
  | 4 => some "_law_cell_at"
  | 10 => some "_law_mixed"
  | 14 => some "_law_draw"
  | 140 => some "_law_jobs"
  | 18 => some "_law_order_of"
  | 134 => some "_law_ways_end"
  | 0 => some "is_whole"
  | 136 => some "is_job"
  | 137 => some "good_jobs"
  | 139 => some "need_jobs"
  | 141 => some "need_passing"
  | 133 => some "ends_of"
  | 143 => some "end"
  | 135 => some "_law_all_ways"
  | 138 => some "are_jobs"
  | 142 => some "ends"
  | 5 => some "_law_same_number"
  | 144 => some "law"
  | _ => none
def gc (y : Str) : Option D := if y = "PIECES" then some (.int 8) else if y = "TIME" then some (.int 99) else none
def ex : Nat → Option Str
  | 1 => some "NoOrder"
  | 15 => some "NoJobs"
  | _ => none
theorem sc0 : FnScope ["_law_script", "_law_k", "_law_spare", "_law_again"] ["_law_script", "_law_k"] (defScope s0) := ⟨rfl, rfl, rfl, by decide +kernel, rfl, by decide +kernel, by decide +kernel⟩
theorem ck0 : chkSs ⟨["_law_script", "_law_k", "_law_spare", "_law_again"], defScope s0, none, nm, gc, ex⟩ SL.c_Lcell_at.body (defBody s0) = true := by decide +kernel
theorem sc1 : FnScope ["_law_script", "_law_k", "_law_bound", "_law_spun"] ["_law_script", "_law_k", "_law_bound"] (defScope s1) := ⟨rfl, rfl, rfl, by decide +kernel, rfl, by decide +kernel, by decide +kernel⟩
theorem ck1 : chkSs ⟨["_law_script", "_law_k", "_law_bound", "_law_spun"], defScope s1, none, nm, gc, ex⟩ SL.c_Lmixed.body (defBody s1) = true := by decide +kernel
theorem sc2 : FnScope ["_law_script", "_law_town", "_law_bound"] ["_law_script", "_law_town", "_law_bound"] (defScope s2) := ⟨rfl, rfl, rfl, by decide +kernel, rfl, by decide +kernel, by decide +kernel⟩
theorem ck2 : chkSs ⟨["_law_script", "_law_town", "_law_bound"], defScope s2, none, nm, gc, ex⟩ SL.c_Ldraw.body (defBody s2) = true := by decide +kernel
theorem sc3 : FnScope ["_law_script", "_law_town", "_law_bound", "_law_many", "_law_stations", "_law_made", "_law_wide", "_law_job", "_law_station"] ["_law_script", "_law_town", "_law_bound"] (defScope s3) := ⟨rfl, rfl, rfl, by decide +kernel, rfl, by decide +kernel, by decide +kernel⟩
theorem ck3 : chkSs ⟨["_law_script", "_law_town", "_law_bound", "_law_many", "_law_stations", "_law_made", "_law_wide", "_law_job", "_law_station"], defScope s3, none, nm, gc, ex⟩ SL.c_Ljobs.body (defBody s3) = true := by decide +kernel
theorem sc4 : FnScope ["_law_script", "_law_town", "_law_many", "_law_left", "_law_made"] ["_law_script", "_law_town", "_law_many"] (defScope s4) := ⟨rfl, rfl, rfl, by decide +kernel, rfl, by decide +kernel, by decide +kernel⟩
theorem ck4 : chkSs ⟨["_law_script", "_law_town", "_law_many", "_law_left", "_law_made"], defScope s4, none, nm, gc, ex⟩ SL.c_Lorder_of.body (defBody s4) = true := by decide +kernel
theorem sc5 : FnScope ["_law_jobs_here", "_law_order", "_law_made", "_law_at", "_law_row", "_law_station", "_law_ahead"] ["_law_jobs_here", "_law_order"] (defScope s5) := ⟨rfl, rfl, rfl, by decide +kernel, rfl, by decide +kernel, by decide +kernel⟩
theorem ck5 : chkSs ⟨["_law_jobs_here", "_law_order", "_law_made", "_law_at", "_law_row", "_law_station", "_law_ahead"], defScope s5, none, nm, gc, ex⟩ SL.c_Lways_end.body (defBody s5) = true := by decide +kernel
theorem sc6 : FnScope ["thing", "low", "high"] ["thing", "low", "high"] (defScope s6) := ⟨rfl, rfl, rfl, by decide +kernel, rfl, by decide +kernel, by decide +kernel⟩
theorem ck6 : chkSs ⟨["thing", "low", "high"], defScope s6, none, nm, gc, ex⟩ SL.c_is_whole.body (defBody s6) = true := by decide +kernel
theorem sc7 : FnScope ["many", "thing", "one"] ["many", "thing"] (defScope s7) := ⟨rfl, rfl, rfl, by decide +kernel, rfl, by decide +kernel, by decide +kernel⟩
theorem ck7 : chkSs ⟨["many", "thing", "one"], defScope s7, none, nm, gc, ex⟩ SL.c_is_job.body (defBody s7) = true := by decide +kernel
theorem sc8 : FnScope ["thing", "one"] ["thing"] (defScope s8) := ⟨rfl, rfl, rfl, by decide +kernel, rfl, by decide +kernel, by decide +kernel⟩
theorem ck8 : chkSs ⟨["thing", "one"], defScope s8, none, nm, gc, ex⟩ SL.c_good_jobs.body (defBody s8) = true := by decide +kernel
theorem sc9 : FnScope ["jobs"] ["jobs"] (defScope s9) := ⟨rfl, rfl, rfl, by decide +kernel, rfl, by decide +kernel, by decide +kernel⟩
theorem ck9 : chkSs ⟨["jobs"], defScope s9, none, nm, gc, ex⟩ SL.c_need_jobs.body (defBody s9) = true := by decide +kernel
theorem sc10 : FnScope ["jobs", "order", "one"] ["jobs", "order"] (defScope s10) := ⟨rfl, rfl, rfl, by decide +kernel, rfl, by decide +kernel, by decide +kernel⟩
theorem ck10 : chkSs ⟨["jobs", "order", "one"], defScope s10, none, nm, gc, ex⟩ SL.c_need_passing.body (defBody s10) = true := by decide +kernel
theorem sc11 : FnScope ["jobs", "order", "made", "free", "job", "here", "row", "time", "ready"] ["jobs", "order"] (defScope s11) := ⟨rfl, rfl, rfl, by decide +kernel, rfl, by decide +kernel, by decide +kernel⟩
theorem ck11 : chkSs ⟨["jobs", "order", "made", "free", "job", "here", "row", "time", "ready"], defScope s11, none, nm, gc, ex⟩ SL.c_ends_of.body (defBody s11) = true := by decide +kernel
theorem sc12 : FnScope ["jobs", "order"] ["jobs", "order"] (defScope s12) := ⟨rfl, rfl, rfl, by decide +kernel, rfl, by decide +kernel, by decide +kernel⟩
theorem ck12 : chkSs ⟨["jobs", "order"], defScope s12, none, nm, gc, ex⟩ SL.c_end.body (defBody s12) = true := by decide +kernel
theorem sc13 : FnScope ["_law_jobs_here", "_law_order", "_law_last", "_law_most_there", "_law_left", "_law_time", "_law_at", "_law_station"] ["_law_jobs_here", "_law_order"] (defScope s13) := ⟨rfl, rfl, rfl, by decide +kernel, rfl, by decide +kernel, by decide +kernel⟩
theorem ck13 : chkSs ⟨["_law_jobs_here", "_law_order", "_law_last", "_law_most_there", "_law_left", "_law_time", "_law_at", "_law_station"], defScope s13, none, nm, gc, ex⟩ SL.c_Lall_ways.body (defBody s13) = true := by decide +kernel
theorem sc14 : FnScope ["thing"] ["thing"] (defScope s14) := ⟨rfl, rfl, rfl, by decide +kernel, rfl, by decide +kernel, by decide +kernel⟩
theorem ck14 : chkSs ⟨["thing"], defScope s14, none, nm, gc, ex⟩ SL.c_are_jobs.body (defBody s14) = true := by decide +kernel
theorem sc15 : FnScope ["jobs", "order"] ["jobs", "order"] (defScope s15) := ⟨rfl, rfl, rfl, by decide +kernel, rfl, by decide +kernel, by decide +kernel⟩
theorem ck15 : chkSs ⟨["jobs", "order"], defScope s15, none, nm, gc, ex⟩ SL.c_ends.body (defBody s15) = true := by decide +kernel
theorem sc16 : FnScope ["_law_got", "_law_due"] ["_law_got", "_law_due"] (defScope s16) := ⟨rfl, rfl, rfl, by decide +kernel, rfl, by decide +kernel, by decide +kernel⟩
theorem ck16 : chkSs ⟨["_law_got", "_law_due"], defScope s16, none, nm, gc, ex⟩ SL.c_Lsame_number.body (defBody s16) = true := by decide +kernel
theorem sc17 : FnScope ["_law_script", "_law_town", "_law_jobs_here", "_law_order", "_law_rows", "_law_job"] ["_law_script"] (defScope s17) := ⟨rfl, rfl, rfl, by decide +kernel, rfl, by decide +kernel, by decide +kernel⟩
theorem ck17 : chkSs ⟨["_law_script", "_law_town", "_law_jobs_here", "_law_order", "_law_rows", "_law_job"], defScope s17, none, nm, gc, ex⟩ SL.c_law_k26.body (defBody s17) = true := by decide +kernel
/-- what the top has written -/
theorem all_mk {l : PySem.W.OpenLaw} {w : World} {K : PySem.W.Frag} {h : Heap} {mg : Str → Option Value} {fa : Addr} (X : K.In h) (G : h.Ns mainGlobals mg) (hfa : mg "law" = some (.ref fa))
    {f0 : Addr} {od0 an0 : Option Addr} {sl0 : Array (Option Value)} {oc0 kV0 dc0 pm0 cd0 ct0 : Value}
    {f1 : Addr} {od1 an1 : Option Addr} {sl1 : Array (Option Value)} {oc1 kV1 dc1 pm1 cd1 ct1 : Value}
    {f2 : Addr} {od2 an2 : Option Addr} {sl2 : Array (Option Value)} {oc2 kV2 dc2 pm2 cd2 ct2 : Value}
    {f3 : Addr} {od3 an3 : Option Addr} {sl3 : Array (Option Value)} {oc3 kV3 dc3 pm3 cd3 ct3 : Value}
    {f4 : Addr} {od4 an4 : Option Addr} {sl4 : Array (Option Value)} {oc4 kV4 dc4 pm4 cd4 ct4 : Value}
    {f5 : Addr} {od5 an5 : Option Addr} {sl5 : Array (Option Value)} {oc5 kV5 dc5 pm5 cd5 ct5 : Value}
    {f6 : Addr} {od6 an6 : Option Addr} {sl6 : Array (Option Value)} {oc6 kV6 dc6 pm6 cd6 ct6 : Value}
    {f7 : Addr} {od7 an7 : Option Addr} {sl7 : Array (Option Value)} {oc7 kV7 dc7 pm7 cd7 ct7 : Value}
    {f8 : Addr} {od8 an8 : Option Addr} {sl8 : Array (Option Value)} {oc8 kV8 dc8 pm8 cd8 ct8 : Value}
    {f9 : Addr} {od9 an9 : Option Addr} {sl9 : Array (Option Value)} {oc9 kV9 dc9 pm9 cd9 ct9 : Value}
    {f10 : Addr} {od10 an10 : Option Addr} {sl10 : Array (Option Value)} {oc10 kV10 dc10 pm10 cd10 ct10 : Value}
    {f11 : Addr} {od11 an11 : Option Addr} {sl11 : Array (Option Value)} {oc11 kV11 dc11 pm11 cd11 ct11 : Value}
    {f12 : Addr} {od12 an12 : Option Addr} {sl12 : Array (Option Value)} {oc12 kV12 dc12 pm12 cd12 ct12 : Value}
    {f13 : Addr} {od13 an13 : Option Addr} {sl13 : Array (Option Value)} {oc13 kV13 dc13 pm13 cd13 ct13 : Value}
    {f14 : Addr} {od14 an14 : Option Addr} {sl14 : Array (Option Value)} {oc14 kV14 dc14 pm14 cd14 ct14 : Value}
    {f15 : Addr} {od15 an15 : Option Addr} {sl15 : Array (Option Value)} {oc15 kV15 dc15 pm15 cd15 ct15 : Value}
    {f16 : Addr} {od16 an16 : Option Addr} {sl16 : Array (Option Value)} {oc16 kV16 dc16 pm16 cd16 ct16 : Value}
    {f17 : Addr} {od17 an17 : Option Addr} {sl17 : Array (Option Value)} {oc17 kV17 dc17 pm17 cd17 ct17 : Value}
    {C1 : Addr}
    {C15 : Addr}
    {t_PIECES : Tok}
    {t_TIME : Tok}
    (a0 : PySem.W.nsIn K mainGlobals "_law_cell_at" = some (some (.ref f0))) (l0 : K.lookup f0 = some ⟨oc0, od0, .func (PySem.W.fnOf "_law_cell_at" "_law_cell_at" (defArgs s0) (defBody s0) (defScope s0) .none kV0 dc0 pm0 an0 cd0 ct0), sl0⟩) (c0 : PySem.W.codeIn K cd0 "_law_cell_at" = true) (k0 : PySem.W.keepIn K (.ref f0) = true)
    (a1 : PySem.W.nsIn K mainGlobals "_law_mixed" = some (some (.ref f1))) (l1 : K.lookup f1 = some ⟨oc1, od1, .func (PySem.W.fnOf "_law_mixed" "_law_mixed" (defArgs s1) (defBody s1) (defScope s1) .none kV1 dc1 pm1 an1 cd1 ct1), sl1⟩) (c1 : PySem.W.codeIn K cd1 "_law_mixed" = true) (k1 : PySem.W.keepIn K (.ref f1) = true)
    (a2 : PySem.W.nsIn K mainGlobals "_law_draw" = some (some (.ref f2))) (l2 : K.lookup f2 = some ⟨oc2, od2, .func (PySem.W.fnOf "_law_draw" "_law_draw" (defArgs s2) (defBody s2) (defScope s2) .none kV2 dc2 pm2 an2 cd2 ct2), sl2⟩) (c2 : PySem.W.codeIn K cd2 "_law_draw" = true) (k2 : PySem.W.keepIn K (.ref f2) = true)
    (a3 : PySem.W.nsIn K mainGlobals "_law_jobs" = some (some (.ref f3))) (l3 : K.lookup f3 = some ⟨oc3, od3, .func (PySem.W.fnOf "_law_jobs" "_law_jobs" (defArgs s3) (defBody s3) (defScope s3) .none kV3 dc3 pm3 an3 cd3 ct3), sl3⟩) (c3 : PySem.W.codeIn K cd3 "_law_jobs" = true) (k3 : PySem.W.keepIn K (.ref f3) = true)
    (a4 : PySem.W.nsIn K mainGlobals "_law_order_of" = some (some (.ref f4))) (l4 : K.lookup f4 = some ⟨oc4, od4, .func (PySem.W.fnOf "_law_order_of" "_law_order_of" (defArgs s4) (defBody s4) (defScope s4) .none kV4 dc4 pm4 an4 cd4 ct4), sl4⟩) (c4 : PySem.W.codeIn K cd4 "_law_order_of" = true) (k4 : PySem.W.keepIn K (.ref f4) = true)
    (a5 : PySem.W.nsIn K mainGlobals "_law_ways_end" = some (some (.ref f5))) (l5 : K.lookup f5 = some ⟨oc5, od5, .func (PySem.W.fnOf "_law_ways_end" "_law_ways_end" (defArgs s5) (defBody s5) (defScope s5) .none kV5 dc5 pm5 an5 cd5 ct5), sl5⟩) (c5 : PySem.W.codeIn K cd5 "_law_ways_end" = true) (k5 : PySem.W.keepIn K (.ref f5) = true)
    (a6 : PySem.W.nsIn K mainGlobals "is_whole" = some (some (.ref f6))) (l6 : K.lookup f6 = some ⟨oc6, od6, .func (PySem.W.fnOf "is_whole" "is_whole" (defArgs s6) (defBody s6) (defScope s6) .none kV6 dc6 pm6 an6 cd6 ct6), sl6⟩) (c6 : PySem.W.codeIn K cd6 "is_whole" = true) (k6 : PySem.W.keepIn K (.ref f6) = true)
    (a7 : PySem.W.nsIn K mainGlobals "is_job" = some (some (.ref f7))) (l7 : K.lookup f7 = some ⟨oc7, od7, .func (PySem.W.fnOf "is_job" "is_job" (defArgs s7) (defBody s7) (defScope s7) .none kV7 dc7 pm7 an7 cd7 ct7), sl7⟩) (c7 : PySem.W.codeIn K cd7 "is_job" = true) (k7 : PySem.W.keepIn K (.ref f7) = true)
    (a8 : PySem.W.nsIn K mainGlobals "good_jobs" = some (some (.ref f8))) (l8 : K.lookup f8 = some ⟨oc8, od8, .func (PySem.W.fnOf "good_jobs" "good_jobs" (defArgs s8) (defBody s8) (defScope s8) .none kV8 dc8 pm8 an8 cd8 ct8), sl8⟩) (c8 : PySem.W.codeIn K cd8 "good_jobs" = true) (k8 : PySem.W.keepIn K (.ref f8) = true)
    (a9 : PySem.W.nsIn K mainGlobals "need_jobs" = some (some (.ref f9))) (l9 : K.lookup f9 = some ⟨oc9, od9, .func (PySem.W.fnOf "need_jobs" "need_jobs" (defArgs s9) (defBody s9) (defScope s9) .none kV9 dc9 pm9 an9 cd9 ct9), sl9⟩) (c9 : PySem.W.codeIn K cd9 "need_jobs" = true) (k9 : PySem.W.keepIn K (.ref f9) = true)
    (a10 : PySem.W.nsIn K mainGlobals "need_passing" = some (some (.ref f10))) (l10 : K.lookup f10 = some ⟨oc10, od10, .func (PySem.W.fnOf "need_passing" "need_passing" (defArgs s10) (defBody s10) (defScope s10) .none kV10 dc10 pm10 an10 cd10 ct10), sl10⟩) (c10 : PySem.W.codeIn K cd10 "need_passing" = true) (k10 : PySem.W.keepIn K (.ref f10) = true)
    (a11 : PySem.W.nsIn K mainGlobals "ends_of" = some (some (.ref f11))) (l11 : K.lookup f11 = some ⟨oc11, od11, .func (PySem.W.fnOf "ends_of" "ends_of" (defArgs s11) (defBody s11) (defScope s11) .none kV11 dc11 pm11 an11 cd11 ct11), sl11⟩) (c11 : PySem.W.codeIn K cd11 "ends_of" = true) (k11 : PySem.W.keepIn K (.ref f11) = true)
    (a12 : PySem.W.nsIn K mainGlobals "end" = some (some (.ref f12))) (l12 : K.lookup f12 = some ⟨oc12, od12, .func (PySem.W.fnOf "end" "end" (defArgs s12) (defBody s12) (defScope s12) .none kV12 dc12 pm12 an12 cd12 ct12), sl12⟩) (c12 : PySem.W.codeIn K cd12 "end" = true) (k12 : PySem.W.keepIn K (.ref f12) = true)
    (a13 : PySem.W.nsIn K mainGlobals "_law_all_ways" = some (some (.ref f13))) (l13 : K.lookup f13 = some ⟨oc13, od13, .func (PySem.W.fnOf "_law_all_ways" "_law_all_ways" (defArgs s13) (defBody s13) (defScope s13) .none kV13 dc13 pm13 an13 cd13 ct13), sl13⟩) (c13 : PySem.W.codeIn K cd13 "_law_all_ways" = true) (k13 : PySem.W.keepIn K (.ref f13) = true)
    (a14 : PySem.W.nsIn K mainGlobals "are_jobs" = some (some (.ref f14))) (l14 : K.lookup f14 = some ⟨oc14, od14, .func (PySem.W.fnOf "are_jobs" "are_jobs" (defArgs s14) (defBody s14) (defScope s14) .none kV14 dc14 pm14 an14 cd14 ct14), sl14⟩) (c14 : PySem.W.codeIn K cd14 "are_jobs" = true) (k14 : PySem.W.keepIn K (.ref f14) = true)
    (a15 : PySem.W.nsIn K mainGlobals "ends" = some (some (.ref f15))) (l15 : K.lookup f15 = some ⟨oc15, od15, .func (PySem.W.fnOf "ends" "ends" (defArgs s15) (defBody s15) (defScope s15) .none kV15 dc15 pm15 an15 cd15 ct15), sl15⟩) (c15 : PySem.W.codeIn K cd15 "ends" = true) (k15 : PySem.W.keepIn K (.ref f15) = true)
    (a16 : PySem.W.nsIn K mainGlobals "_law_same_number" = some (some (.ref f16))) (l16 : K.lookup f16 = some ⟨oc16, od16, .func (PySem.W.fnOf "_law_same_number" "_law_same_number" (defArgs s16) (defBody s16) (defScope s16) .none kV16 dc16 pm16 an16 cd16 ct16), sl16⟩) (c16 : PySem.W.codeIn K cd16 "_law_same_number" = true) (k16 : PySem.W.keepIn K (.ref f16) = true)
    (a17 : PySem.W.nsIn K mainGlobals "law" = some (some (.ref f17))) (l17 : K.lookup f17 = some ⟨oc17, od17, .func (PySem.W.fnOf "law" "law" (defArgs s17) (defBody s17) (defScope s17) .none kV17 dc17 pm17 an17 cd17 ct17), sl17⟩) (c17 : PySem.W.codeIn K cd17 "law" = true) (k17 : PySem.W.keepIn K (.ref f17) = true)
    (e1a : PySem.W.nsIn K mainGlobals "NoOrder" = some (some (.ref C1))) (e1b : PySem.W.excIn K C1 [.type "ValueError", .type "Exception", .type "BaseException", .type "object"] "ValueError.__new__" = true) (e1c : PySem.W.keepIn K (.ref C1) = true) (e1d : PySem.W.subIn K (.ref C1) (.type "BaseException") = some true) (e1e : PySem.W.typeIn K (.ref C1) = some (.type "type"))
    (e15a : PySem.W.nsIn K mainGlobals "NoJobs" = some (some (.ref C15))) (e15b : PySem.W.excIn K C15 [.type "ValueError", .type "Exception", .type "BaseException", .type "object"] "ValueError.__new__" = true) (e15c : PySem.W.keepIn K (.ref C15) = true) (e15d : PySem.W.subIn K (.ref C15) (.type "BaseException") = some true) (e15e : PySem.W.typeIn K (.ref C15) = some (.type "type"))
    (z_isinstance : PySem.W.nsIn K mainGlobals "isinstance" = some none)
    (z_len : PySem.W.nsIn K mainGlobals "len" = some none)
    (z_abs : PySem.W.nsIn K mainGlobals "abs" = some none)
    (z_max : PySem.W.nsIn K mainGlobals "max" = some none)
    (z_min : PySem.W.nsIn K mainGlobals "min" = some none)
    (z_sum : PySem.W.nsIn K mainGlobals "sum" = some none)
    (z_sorted : PySem.W.nsIn K mainGlobals "sorted" = some none)
    (z_tuple : PySem.W.nsIn K mainGlobals "tuple" = some none)
    (z_list : PySem.W.nsIn K mainGlobals "list" = some none)
    (z_all : PySem.W.nsIn K mainGlobals "all" = some none)
    (z_any : PySem.W.nsIn K mainGlobals "any" = some none)
    (z_int : PySem.W.nsIn K mainGlobals "int" = some none)
    (z_bool : PySem.W.nsIn K mainGlobals "bool" = some none)
    (z_str : PySem.W.nsIn K mainGlobals "str" = some none)
    (z_set : PySem.W.nsIn K mainGlobals "set" = some none)
    (z_dict : PySem.W.nsIn K mainGlobals "dict" = some none)
    (z_range : PySem.W.nsIn K mainGlobals "range" = some none)
    (z_zip : PySem.W.nsIn K mainGlobals "zip" = some none)
    (z_enumerate : PySem.W.nsIn K mainGlobals "enumerate" = some none)
    (g_PIECES : PySem.W.nsIn K mainGlobals "PIECES" = some (some (.int 8 t_PIECES)))
    (g_TIME : PySem.W.nsIn K mainGlobals "TIME" = some (some (.int 99 t_TIME)))
    (plain : ∀ ns : List Int, ns.length ≤ 63 → (∀ z ∈ ns, Builtin.Int.intBits z ≤ 1048576) → ∃ ls, SL.run SL.GA 7 SL.i_law_k26 [.sh (.lst (ns.map .int))] = .ret (.sh (.bl true)) ls) :
    ∃ fd : FuncData, (∀ (s : Shared) (v : Value), BindsTo s fd ⟨[v], []⟩ [("_law_script", v)]) ∧ ∀ base : Heap, K.In base → base.Ns mainGlobals mg → FnOk l.prog w K mg base (L2.CX l.prog w) 7 fa fd ["_law_script"] (spLaw K) := by
  have e := hfa.symm.trans (PySem.W.mg_of X G a17)
  cases e
  have F0 := fun_mk (st := s0) l0 c0 k0
  have b0 := F0.binds (ps := ["_law_script", "_law_k"]) fun _ _ _ _ _ _ us hl => match us, hl with | [_, _], _ => rfl
  have F1 := fun_mk (st := s1) l1 c1 k1
  have b1 := F1.binds (ps := ["_law_script", "_law_k", "_law_bound"]) fun _ _ _ _ _ _ us hl => match us, hl with | [_, _, _], _ => rfl
  have F2 := fun_mk (st := s2) l2 c2 k2
  have b2 := F2.binds (ps := ["_law_script", "_law_town", "_law_bound"]) fun _ _ _ _ _ _ us hl => match us, hl with | [_, _, _], _ => rfl
  have F3 := fun_mk (st := s3) l3 c3 k3
  have b3 := F3.binds (ps := ["_law_script", "_law_town", "_law_bound"]) fun _ _ _ _ _ _ us hl => match us, hl with | [_, _, _], _ => rfl
  have F4 := fun_mk (st := s4) l4 c4 k4
  have b4 := F4.binds (ps := ["_law_script", "_law_town", "_law_many"]) fun _ _ _ _ _ _ us hl => match us, hl with | [_, _, _], _ => rfl
  have F5 := fun_mk (st := s5) l5 c5 k5
  have b5 := F5.binds (ps := ["_law_jobs_here", "_law_order"]) fun _ _ _ _ _ _ us hl => match us, hl with | [_, _], _ => rfl
  have F6 := fun_mk (st := s6) l6 c6 k6
  have b6 := F6.binds (ps := ["thing", "low", "high"]) fun _ _ _ _ _ _ us hl => match us, hl with | [_, _, _], _ => rfl
  have F7 := fun_mk (st := s7) l7 c7 k7
  have b7 := F7.binds (ps := ["many", "thing"]) fun _ _ _ _ _ _ us hl => match us, hl with | [_, _], _ => rfl
  have F8 := fun_mk (st := s8) l8 c8 k8
  have b8 := F8.binds (ps := ["thing"]) fun _ _ _ _ _ _ us hl => match us, hl with | [_], _ => rfl
  have F9 := fun_mk (st := s9) l9 c9 k9
  have b9 := F9.binds (ps := ["jobs"]) fun _ _ _ _ _ _ us hl => match us, hl with | [_], _ => rfl
  have F10 := fun_mk (st := s10) l10 c10 k10
  have b10 := F10.binds (ps := ["jobs", "order"]) fun _ _ _ _ _ _ us hl => match us, hl with | [_, _], _ => rfl
  have F11 := fun_mk (st := s11) l11 c11 k11
  have b11 := F11.binds (ps := ["jobs", "order"]) fun _ _ _ _ _ _ us hl => match us, hl with | [_, _], _ => rfl
  have F12 := fun_mk (st := s12) l12 c12 k12
  have b12 := F12.binds (ps := ["jobs", "order"]) fun _ _ _ _ _ _ us hl => match us, hl with | [_, _], _ => rfl
  have F13 := fun_mk (st := s13) l13 c13 k13
  have b13 := F13.binds (ps := ["_law_jobs_here", "_law_order"]) fun _ _ _ _ _ _ us hl => match us, hl with | [_, _], _ => rfl
  have F14 := fun_mk (st := s14) l14 c14 k14
  have b14 := F14.binds (ps := ["thing"]) fun _ _ _ _ _ _ us hl => match us, hl with | [_], _ => rfl
  have F15 := fun_mk (st := s15) l15 c15 k15
  have b15 := F15.binds (ps := ["jobs", "order"]) fun _ _ _ _ _ _ us hl => match us, hl with | [_, _], _ => rfl
  have F16 := fun_mk (st := s16) l16 c16 k16
  have b16 := F16.binds (ps := ["_law_got", "_law_due"]) fun _ _ _ _ _ _ us hl => match us, hl with | [_, _], _ => rfl
  have F17 := fun_mk (st := s17) l17 c17 k17
  have b17 := F17.binds (ps := ["_law_script"]) fun _ _ _ _ _ _ us hl => match us, hl with | [_], _ => rfl
  have T : Txt K mg (fun k => match k with | 1 => .ref C1 | 15 => .ref C15 | _ => .none) SL.GA nm gc ex :=
    { fn := fun i x hx => by
        unfold nm at hx
        split at hx
        · cases hx; exact ⟨s0, _, _, SL.c_Lcell_at, ["_law_script", "_law_k", "_law_spare", "_law_again"], ["_law_script", "_law_k"], rfl, F0, PySem.W.mg_of X G a0, b0, sc0, rfl, rfl, ck0⟩
        · cases hx; exact ⟨s1, _, _, SL.c_Lmixed, ["_law_script", "_law_k", "_law_bound", "_law_spun"], ["_law_script", "_law_k", "_law_bound"], rfl, F1, PySem.W.mg_of X G a1, b1, sc1, rfl, rfl, ck1⟩
        · cases hx; exact ⟨s2, _, _, SL.c_Ldraw, ["_law_script", "_law_town", "_law_bound"], ["_law_script", "_law_town", "_law_bound"], rfl, F2, PySem.W.mg_of X G a2, b2, sc2, rfl, rfl, ck2⟩
        · cases hx; exact ⟨s3, _, _, SL.c_Ljobs, ["_law_script", "_law_town", "_law_bound", "_law_many", "_law_stations", "_law_made", "_law_wide", "_law_job", "_law_station"], ["_law_script", "_law_town", "_law_bound"], rfl, F3, PySem.W.mg_of X G a3, b3, sc3, rfl, rfl, ck3⟩
        · cases hx; exact ⟨s4, _, _, SL.c_Lorder_of, ["_law_script", "_law_town", "_law_many", "_law_left", "_law_made"], ["_law_script", "_law_town", "_law_many"], rfl, F4, PySem.W.mg_of X G a4, b4, sc4, rfl, rfl, ck4⟩
        · cases hx; exact ⟨s5, _, _, SL.c_Lways_end, ["_law_jobs_here", "_law_order", "_law_made", "_law_at", "_law_row", "_law_station", "_law_ahead"], ["_law_jobs_here", "_law_order"], rfl, F5, PySem.W.mg_of X G a5, b5, sc5, rfl, rfl, ck5⟩
        · cases hx; exact ⟨s6, _, _, SL.c_is_whole, ["thing", "low", "high"], ["thing", "low", "high"], rfl, F6, PySem.W.mg_of X G a6, b6, sc6, rfl, rfl, ck6⟩
        · cases hx; exact ⟨s7, _, _, SL.c_is_job, ["many", "thing", "one"], ["many", "thing"], rfl, F7, PySem.W.mg_of X G a7, b7, sc7, rfl, rfl, ck7⟩
        · cases hx; exact ⟨s8, _, _, SL.c_good_jobs, ["thing", "one"], ["thing"], rfl, F8, PySem.W.mg_of X G a8, b8, sc8, rfl, rfl, ck8⟩
        · cases hx; exact ⟨s9, _, _, SL.c_need_jobs, ["jobs"], ["jobs"], rfl, F9, PySem.W.mg_of X G a9, b9, sc9, rfl, rfl, ck9⟩
        · cases hx; exact ⟨s10, _, _, SL.c_need_passing, ["jobs", "order", "one"], ["jobs", "order"], rfl, F10, PySem.W.mg_of X G a10, b10, sc10, rfl, rfl, ck10⟩
        · cases hx; exact ⟨s11, _, _, SL.c_ends_of, ["jobs", "order", "made", "free", "job", "here", "row", "time", "ready"], ["jobs", "order"], rfl, F11, PySem.W.mg_of X G a11, b11, sc11, rfl, rfl, ck11⟩
        · cases hx; exact ⟨s12, _, _, SL.c_end, ["jobs", "order"], ["jobs", "order"], rfl, F12, PySem.W.mg_of X G a12, b12, sc12, rfl, rfl, ck12⟩
        · cases hx; exact ⟨s13, _, _, SL.c_Lall_ways, ["_law_jobs_here", "_law_order", "_law_last", "_law_most_there", "_law_left", "_law_time", "_law_at", "_law_station"], ["_law_jobs_here", "_law_order"], rfl, F13, PySem.W.mg_of X G a13, b13, sc13, rfl, rfl, ck13⟩
        · cases hx; exact ⟨s14, _, _, SL.c_are_jobs, ["thing"], ["thing"], rfl, F14, PySem.W.mg_of X G a14, b14, sc14, rfl, rfl, ck14⟩
        · cases hx; exact ⟨s15, _, _, SL.c_ends, ["jobs", "order"], ["jobs", "order"], rfl, F15, PySem.W.mg_of X G a15, b15, sc15, rfl, rfl, ck15⟩
        · cases hx; exact ⟨s16, _, _, SL.c_Lsame_number, ["_law_got", "_law_due"], ["_law_got", "_law_due"], rfl, F16, PySem.W.mg_of X G a16, b16, sc16, rfl, rfl, ck16⟩
        · cases hx; exact ⟨s17, _, _, SL.c_law_k26, ["_law_script", "_law_town", "_law_jobs_here", "_law_order", "_law_rows", "_law_job"], ["_law_script"], rfl, F17, PySem.W.mg_of X G a17, b17, sc17, rfl, rfl, ck17⟩
        · cases hx
      bm := fun x hx => by
        simp only [bnames, List.mem_cons, List.not_mem_nil, or_false] at hx
        rcases hx with rfl | rfl | rfl | rfl | rfl | rfl | rfl | rfl | rfl | rfl | rfl | rfl | rfl | rfl | rfl | rfl | rfl | rfl | rfl
        · exact PySem.W.mg_none_of X G z_isinstance
        · exact PySem.W.mg_none_of X G z_len
        · exact PySem.W.mg_none_of X G z_abs
        · exact PySem.W.mg_none_of X G z_max
        · exact PySem.W.mg_none_of X G z_min
        · exact PySem.W.mg_none_of X G z_sum
        · exact PySem.W.mg_none_of X G z_sorted
        · exact PySem.W.mg_none_of X G z_tuple
        · exact PySem.W.mg_none_of X G z_list
        · exact PySem.W.mg_none_of X G z_all
        · exact PySem.W.mg_none_of X G z_any
        · exact PySem.W.mg_none_of X G z_int
        · exact PySem.W.mg_none_of X G z_bool
        · exact PySem.W.mg_none_of X G z_str
        · exact PySem.W.mg_none_of X G z_set
        · exact PySem.W.mg_none_of X G z_dict
        · exact PySem.W.mg_none_of X G z_range
        · exact PySem.W.mg_none_of X G z_zip
        · exact PySem.W.mg_none_of X G z_enumerate
      gl := fun x d hx => by
        unfold gc at hx
        by_cases q_PIECES : x = "PIECES"
        · rw [if_pos q_PIECES] at hx; cases hx; subst q_PIECES; exact ⟨.int 8, _, PySem.W.mg_of X G g_PIECES, ⟨_, rfl⟩, fun F => .int _⟩
        rw [if_neg q_PIECES] at hx
        by_cases q_TIME : x = "TIME"
        · rw [if_pos q_TIME] at hx; cases hx; subst q_TIME; exact ⟨.int 99, _, PySem.W.mg_of X G g_TIME, ⟨_, rfl⟩, fun F => .int _⟩
        rw [if_neg q_TIME] at hx
        cases hx
      exs := fun k x hx => by
        unfold ex at hx
        split at hx
        · cases hx; exact ⟨C1, rfl, e1b, PySem.W.mg_of X G e1a, e1c, e1d, e1e⟩
        · cases hx; exact ⟨C15, rfl, e15b, PySem.W.mg_of X G e15a, e15c, e15d, e15e⟩
        · cases hx }
  exact ⟨_, fun s v => .of_eq rfl, fun base _ _ => (law_def T (i := SL.i_law_k26) (n := 6) rfl F17 sc17 rfl rfl ck17 base).imp (law_imp plain)⟩
end Hk26
open PySem PySem.W PyProof.Rows in
set_option maxRecDepth 100000 in
set_option maxHeartbeats 0 in
theorem PySem.Challenge.cw_steadyloads_k26_whole_ends_holds : PySem.Challenge.rw_steadyloads_k26_whole_ends.Holds := by
  w_on; o_law; k_head; (case hw => w_witness2)
  k_fill
  refine L2.walk_ofB (l := PySem.Challenge.rw_steadyloads_k26_whole_ends) (n := 63) (k := 7) (x := "_law_script") (CX := fun w => L2.CX PySem.Challenge.rw_steadyloads_k26_whole_ends.prog w) (sp := fun w => SLS.spLaw _) rfl (by decide) rfl ⟨rfl, by decide, by decide⟩ (fun w h Y => PySem.W.kIn_of Y) ?F (fun _ _ a ns hl hb _ hS => ⟨a, ns, rfl, hS, hl, hb, fun _ => rfl⟩) (fun _ _ _ _ _ z => SLS.cx_none z)
  case F =>
    intro w mg fa h KX G hmg
    refine' Hk26.all_mk KX G hmg ?a0 ?l0 ?c0 ?k0 ?a1 ?l1 ?c1 ?k1 ?a2 ?l2 ?c2 ?k2 ?a3 ?l3 ?c3 ?k3 ?a4 ?l4 ?c4 ?k4 ?a5 ?l5 ?c5 ?k5 ?a6 ?l6 ?c6 ?k6 ?a7 ?l7 ?c7 ?k7 ?a8 ?l8 ?c8 ?k8 ?a9 ?l9 ?c9 ?k9 ?a10 ?l10 ?c10 ?k10 ?a11 ?l11 ?c11 ?k11 ?a12 ?l12 ?c12 ?k12 ?a13 ?l13 ?c13 ?k13 ?a14 ?l14 ?c14 ?k14 ?a15 ?l15 ?c15 ?k15 ?a16 ?l16 ?c16 ?k16 ?a17 ?l17 ?c17 ?k17 ?e1a ?e1b ?e1c ?e1d ?e1e ?e15a ?e15b ?e15c ?e15d ?e15e ?z_isinstance ?z_len ?z_abs ?z_max ?z_min ?z_sum ?z_sorted ?z_tuple ?z_list ?z_all ?z_any ?z_int ?z_bool ?z_str ?z_set ?z_dict ?z_range ?z_zip ?z_enumerate ?g_PIECES ?g_TIME PLAIN_k26
    (case a0 => k_is)
    (case l0 => k_is)
    (case c0 => k_is)
    (case k0 => k_is)
    (case a1 => k_is)
    (case l1 => k_is)
    (case c1 => k_is)
    (case k1 => k_is)
    (case a2 => k_is)
    (case l2 => k_is)
    (case c2 => k_is)
    (case k2 => k_is)
    (case a3 => k_is)
    (case l3 => k_is)
    (case c3 => k_is)
    (case k3 => k_is)
    (case a4 => k_is)
    (case l4 => k_is)
    (case c4 => k_is)
    (case k4 => k_is)
    (case a5 => k_is)
    (case l5 => k_is)
    (case c5 => k_is)
    (case k5 => k_is)
    (case a6 => k_is)
    (case l6 => k_is)
    (case c6 => k_is)
    (case k6 => k_is)
    (case a7 => k_is)
    (case l7 => k_is)
    (case c7 => k_is)
    (case k7 => k_is)
    (case a8 => k_is)
    (case l8 => k_is)
    (case c8 => k_is)
    (case k8 => k_is)
    (case a9 => k_is)
    (case l9 => k_is)
    (case c9 => k_is)
    (case k9 => k_is)
    (case a10 => k_is)
    (case l10 => k_is)
    (case c10 => k_is)
    (case k10 => k_is)
    (case a11 => k_is)
    (case l11 => k_is)
    (case c11 => k_is)
    (case k11 => k_is)
    (case a12 => k_is)
    (case l12 => k_is)
    (case c12 => k_is)
    (case k12 => k_is)
    (case a13 => k_is)
    (case l13 => k_is)
    (case c13 => k_is)
    (case k13 => k_is)
    (case a14 => k_is)
    (case l14 => k_is)
    (case c14 => k_is)
    (case k14 => k_is)
    (case a15 => k_is)
    (case l15 => k_is)
    (case c15 => k_is)
    (case k15 => k_is)
    (case a16 => k_is)
    (case l16 => k_is)
    (case c16 => k_is)
    (case k16 => k_is)
    (case a17 => k_is)
    (case l17 => k_is)
    (case c17 => k_is)
    (case k17 => k_is)
    (case e1a => k_is)
    (case e1b => k_exc)
    (case e1c => k_is)
    (case e1d => k_is)
    (case e1e => k_is)
    (case e15a => k_is)
    (case e15b => k_exc)
    (case e15c => k_is)
    (case e15d => k_is)
    (case e15e => k_is)
    (case z_isinstance => k_is)
    (case z_len => k_is)
    (case z_abs => k_is)
    (case z_max => k_is)
    (case z_min => k_is)
    (case z_sum => k_is)
    (case z_sorted => k_is)
    (case z_tuple => k_is)
    (case z_list => k_is)
    (case z_all => k_is)
    (case z_any => k_is)
    (case z_int => k_is)
    (case z_bool => k_is)
    (case z_str => k_is)
    (case z_set => k_is)
    (case z_dict => k_is)
    (case z_range => k_is)
    (case z_zip => k_is)
    (case z_enumerate => k_is)
    (case g_PIECES => k_is)
    (case g_TIME => k_is)

