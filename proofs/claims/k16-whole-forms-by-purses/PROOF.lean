import PyProof.Rows.All
import Wide.All
import OpenK.AllK
import Wide.FinOn
import HandS.ForMost
import HandS.Wide
import HandS.Flow
import HandS.Style
import HandS.TupAny
import HandS.TupMul
import HandS.Deep
import HandS.IsInst
import HandS.NoneIn
import HandS.Walk
import HandS.Zip
import HandS.TupLe
import HandS.EndBits
import HandS.SortRule
import HandS.SortInts
import PyProof.TupleOfSeq
import HandS.SortOrd
import HandS.Sort
import PyProof.ReprRoads
import PyProof.CallFns
import HandS.SetFor
import HandS.Strs
import HandS.Conv
import KE.GoesMore
import KE.GoesEnum
import HandS.More
import PySem.Challenge.RW_stintpurse_k16_whole_forms_by_purses
set_option Elab.async false
set_option linter.all false
set_option maxRecDepth 100000
/-! Px, part A: plain data, a small language of expressions and statements, and its meaning as plain functions.
Lists are values here, but for the shared ones, which lie in a store. -/
namespace Px
open PySem L2

/-- plain data; scr: the law's script; ref: a shared object of the store -/
inductive D where
  | non | bl (b : Bool) | int (i : Int) | str (s : Str)
  | tup (xs : List D) | lst (xs : List D) | scr (xs : List D)
  | dic (ks : List Key) (vs : List D)
  | ref (i : Nat)
deriving Inhabited

/-- the content of a thing that may be changed -/
inductive Cn where
  | lst (xs : List D)
deriving Inhabited
def Cn.frz : Cn → D
  | .lst xs => .lst xs
abbrev Sto := List Cn
/-- what an expression gives: data; a new thing that nobody else holds; the thing of a local name -/
inductive Rv where
  | val (d : D) | fresh (c : Cn) | own (c : Cn)
deriving Inhabited
inductive Slot where
  | emp | val (d : D) | own (c : Cn)
deriving Inhabited
abbrev Slots := List Slot
structure Xn where
  cls : String
  fs : List D
deriving Inhabited
inductive Res (α : Type) where
  | ok (a : α) (S : Sto) | exc (x : Xn) (S : Sto) | stuck
deriving Inhabited
def Res.bind {α β : Type} (r : Res α) (k : α → Sto → Res β) : Res β :=
  match r with
  | .ok a S => k a S
  | .exc x S => .exc x S
  | .stuck => .stuck
@[simp] theorem Res.bind_ok {α β : Type} (a : α) (S : Sto) (k : α → Sto → Res β) : (Res.ok a S).bind k = k a S := rfl
@[simp] theorem Res.bind_exc {α β : Type} (x : Xn) (S : Sto) (k : α → Sto → Res β) : (Res.exc x S : Res α).bind k = .exc x S := rfl
@[simp] theorem Res.bind_stuck {α β : Type} (k : α → Sto → Res β) : (Res.stuck : Res α).bind k = .stuck := rfl
def Res.opt {α : Type} (o : Option α) (S : Sto) : Res α :=
  match o with
  | some a => .ok a S
  | none => .stuck
@[simp] theorem Res.opt_some {α : Type} (a : α) (S : Sto) : Res.opt (some a) S = .ok a S := rfl
@[simp] theorem Res.opt_none {α : Type} (S : Sto) : Res.opt (none : Option α) S = .stuck := rfl

mutual
def D.toP : D → PyData
  | .non => .none
  | .bl b => .bool b
  | .int i => .int i
  | .str s => .str s
  | .tup xs => .tuple (D.toPs xs)
  | .lst xs => .list (D.toPs xs)
  | .scr xs => .list (D.toPs xs)
  | .dic _ _ => .dict []
  | .ref _ => .dict []
def D.toPs : List D → List PyData
  | [] => []
  | x :: xs => D.toP x :: D.toPs xs
end
/-- == of data -/
def eqD (a b : D) : Option Bool :=
  if SeqAt.shaped a.toP = true ∧ SeqAt.shaped b.toP = true then some (PyData.eqv a.toP b.toP) else none

/-- as data: what escapes is never changed any more -/
def Rv.toD : Rv → Option D
  | .val d => some d
  | .fresh c => some c.frz
  | .own _ => none
/-- as data that is only looked at -/
def Rv.look : Rv → D
  | .val d => d
  | .fresh c => c.frz
  | .own c => c.frz
/-- the items of a list or tuple -/
def D.seq : D → Option (List D)
  | .tup xs => some xs
  | .lst xs => some xs
  | _ => none
def D.lst? : D → Option (List D)
  | .lst xs => some xs
  | _ => none
def D.truth : D → Option Bool
  | .non => some false
  | .bl b => some b
  | .int i => some (i != 0)
  | .str s => if s.length ≤ sizeLine then some ((s.length : Int) != 0) else none
  | .tup xs => some (!xs.isEmpty)
  | .lst xs => some (!xs.isEmpty)
  | .scr xs => some (!xs.isEmpty)
  | .dic _ _ => none
  | .ref _ => none

inductive Bop where
  | add | sub | mul | fdiv | mod | pow | shl | shr | band | bor
deriving DecidableEq
inductive Cop where
  | eq | ne | lt | le | gt | ge | isN | notN | isB | notB | inn | nin
deriving DecidableEq

def opBinD (o : Bop) (a b : D) : Option Rv :=
  match o, a, b with
  | .add, .int i, .int j => some (.val (.int (i + j)))
  | .add, .str x, .str y => if x.length + y.length ≤ sizeLine then some (.val (.str (x ++ y))) else none
  | .add, .tup x, .tup y => if x.length + y.length ≤ sizeLine then some (.val (.tup (x ++ y))) else none
  | .add, .lst x, .lst y => if x.length + y.length ≤ sizeLine then some (.fresh (.lst (x ++ y))) else none
  | .sub, .int i, .int j => some (.val (.int (i - j)))
  | .mul, .int i, .int j => if i.natAbs.log2 + j.natAbs.log2 < 1000000 then some (.val (.int (i * j))) else none
  | .mul, .tup x, .int j => if -1000 ≤ j ∧ j ≤ 1000 ∧ x.length ≤ 1000 then some (.val (.tup (List.replicate j.toNat x).flatten)) else none
  | .mul, .lst x, .int j => if -(2 ^ 63) ≤ j ∧ j < 2 ^ 63 ∧ x.length * j.toNat ≤ sizeLine then some (.fresh (.lst (List.replicate j.toNat x).flatten)) else none
  | .fdiv, .int i, .int j => if 0 < j ∧ j.natAbs.log2 < 9000 then some (.val (.int (i / j))) else none
  | .mod, .int i, .int j => if 0 < j then some (.val (.int (i % j))) else none
  | .pow, .int i, .int j => if 0 ≤ j ∧ j ≤ 1000000 ∧ i.natAbs < 2 ^ 64 then some (.val (.int (i ^ j.toNat))) else none
  | .shl, .int i, .int j => if 0 ≤ j ∧ j ≤ 1000000 ∧ i.natAbs < 2 ^ 64 then some (.val (.int (i * 2 ^ j.toNat))) else none
  | .shr, .int i, .int j => if 0 ≤ j then some (.val (.int (i / 2 ^ j.toNat))) else none
  | .band, .int i, .int j => some (.val (.int (Builtin.bitAnd i j)))
  | .bor, .int i, .int j => some (.val (.int (Builtin.bitOr i j)))
  | _, _, _ => none

def opBin (o : Bop) (a b : Rv) : Option Rv := opBinD o a.look b.look
def D.isNon : D → Bool
  | .non => true
  | _ => false
def dInts : List D → Option (List Int)
  | [] => some []
  | .int i :: r => (dInts r).map (i :: ·)
  | _ :: _ => none
/-- > of tuples of numbers -/
def gtV (ns ms : List Int) : Bool := Ob.lexAt (fun j => decide (ns.getD j 0 = ms.getD j 0)) (fun j => decide (ms.getD j 0 < ns.getD j 0)) (decide (ns.length > ms.length)) 0 (min ns.length ms.length)
def geV (ns ms : List Int) : Bool := Ob.lexAt (fun j => decide (ns.getD j 0 = ms.getD j 0)) (fun j => decide (ms.getD j 0 ≤ ns.getD j 0)) (decide (ns.length ≥ ms.length)) 0 (min ns.length ms.length)
def ltV (ns ms : List Int) : Bool := Ob.lexAt (fun j => decide (ns.getD j 0 = ms.getD j 0)) (fun j => decide (ns.getD j 0 < ms.getD j 0)) (decide (ns.length < ms.length)) 0 (min ns.length ms.length)
def leV (ns ms : List Int) : Bool := Ob.lexAt (fun j => decide (ns.getD j 0 = ms.getD j 0)) (fun j => decide (ns.getD j 0 ≤ ms.getD j 0)) (decide (ns.length ≤ ms.length)) 0 (min ns.length ms.length)
/-- a in ys -/
def inD (a : D) (ys : List D) : Option Bool := if SeqAt.shaped a.toP = true ∧ SeqAt.shaped (.list (D.toPs ys)) = true then some ((D.toPs ys).any fun z => PyData.eqv z a.toP) else none
def opCmpD (o : Cop) (a b : D) : Option Bool :=
  match o, a, b with
  | .eq, a, b => eqD a b
  | .ne, a, b => (eqD a b).map (!·)
  | .lt, .int i, .int j => some (decide (i < j))
  | .le, .int i, .int j => some (decide (i ≤ j))
  | .gt, .int i, .int j => some (decide (j < i))
  | .ge, .int i, .int j => some (decide (j ≤ i))
  | .gt, .tup xs, .tup ys => match dInts xs, dInts ys with
    | some ns, some ms => some (gtV ns ms)
    | _, _ => none
  | .ge, .tup xs, .tup ys => match dInts xs, dInts ys with
    | some ns, some ms => some (geV ns ms)
    | _, _ => none
  | .lt, .tup xs, .tup ys => match dInts xs, dInts ys with
    | some ns, some ms => some (ltV ns ms)
    | _, _ => none
  | .le, .tup xs, .tup ys => match dInts xs, dInts ys with
    | some ns, some ms => some (leV ns ms)
    | _, _ => none
  | .isN, a, .non => some a.isNon
  | .notN, a, .non => some (!a.isNon)
  | .isB, .bl a, .bl b => some (decide (a = b))
  | .notB, .bl a, .bl b => some (!decide (a = b))
  | .inn, a, .lst ys => inD a ys
  | .inn, a, .tup ys => inD a ys
  | .nin, a, .lst ys => (inD a ys).map (!·)
  | .nin, a, .tup ys => (inD a ys).map (!·)
  | _, _, _ => none
def opCmp (o : Cop) (a b : Rv) : Option Bool := opCmpD o a.look b.look

/-- a place, of any sign -/
def ixD (xs : List D) (i : Int) : Option D := atI xs i
def opIxD (a b : D) : Option Rv :=
  match a, b with
  | .tup xs, .int i => (ixD xs i).map .val
  | .lst xs, .int i => (ixD xs i).map .val
  | _, _ => none
def opIx (a b : Rv) : Option Rv := opIxD a.look b.look
def slc {α : Type} (xs : List α) (lo hi : Option Int) : List α := (xs.drop (HT.sIx xs.length 0 lo)).take (HT.sIx xs.length xs.length hi - HT.sIx xs.length 0 lo)
def opSlD (a : D) (lo hi : Option Int) : Option Rv :=
  match a with
  | .tup xs => some (.val (.tup (slc xs lo hi)))
  | .lst xs => some (.fresh (.lst (slc xs lo hi)))
  | .scr xs => some (.fresh (.lst (slc xs lo hi)))
  | _ => none
def opSl (a : Rv) (lo hi : Option Int) : Option Rv := opSlD a.look lo hi
def opRevD (a : D) : Option Rv :=
  match a with
  | .tup xs => some (.val (.tup xs.reverse))
  | .lst xs => some (.fresh (.lst xs.reverse))
  | _ => none

def opRev (a : Rv) : Option Rv := opRevD a.look

inductive Ty where
  | int | bool | str | tuple | list | dict
deriving DecidableEq
def Ty.nm : Ty → String
  | .int => "int" | .bool => "bool" | .str => "str" | .tuple => "tuple" | .list => "list" | .dict => "dict"
def D.ty : D → Option Ty
  | .bl _ => some .bool | .int _ => some .int | .str _ => some .str | .tup _ => some .tuple
  | .lst _ => some .list | .scr _ => some .list | .dic _ _ => some .dict | .non => none | .ref _ => some .list
def Ty.sub (a b : Ty) : Bool := a == b || (a == .bool && b == .int)
def isIn (d : D) (ts : List Ty) : Bool :=
  match d.ty with
  | some t => ts.any fun u => t.sub u
  | none => false

inductive Bi where
  | len | abs | max2 | min2 | maxL | minL | sum | all | any | tuple | list | repr | int | str | sorted
deriving DecidableEq
def Bi.nm : Bi → String
  | .len => "len" | .abs => "abs" | .max2 => "max" | .min2 => "min" | .maxL => "max" | .minL => "min" | .sum => "sum" | .all => "all" | .any => "any" | .tuple => "tuple" | .list => "list" | .repr => "repr" | .int => "int" | .str => "str" | .sorted => "sorted"
def dBools : List D → Option (List Bool)
  | [] => some []
  | .bl i :: r => (dBools r).map (i :: ·)
  | _ :: _ => none
def greatest : List Int → Int
  | [] => 0
  | [x] => x
  | x :: y :: r => if greatest (y :: r) > x then greatest (y :: r) else x
def least : List Int → Int
  | [] => 0
  | [x] => x
  | x :: y :: r => if least (y :: r) < x then least (y :: r) else x
/-- pairs of numbers -/
def dPairs : List D → Option (List (Int × Int))
  | [] => some []
  | .tup [.int i, .int j] :: r => (dPairs r).map ((i, j) :: ·)
  | _ :: _ => none
/-- is p at most q, by the first number, then by the second -/
def leP (p q : Int × Int) : Bool := decide (p.1 < q.1) || (decide (p.1 = q.1) && decide (p.2 ≤ q.2))
def sortD (xs : List D) : Option (List D) :=
  match dInts xs with
  | some ns => some ((ns.mergeSort fun a b => decide (a ≤ b)).map D.int)
  | none => match dPairs xs with
    | some ps => some ((ps.mergeSort leP).map fun p => .tup [.int p.1, .int p.2])
    | none => none
def opBi (b : Bi) (as : List Rv) : Option Rv :=
  match b, as with
  | .len, [a] => match a.look with
    | .tup xs => some (.val (.int xs.length))
    | .lst xs => some (.val (.int xs.length))
    | .scr xs => some (.val (.int xs.length))
    | .str s => if s.length ≤ sizeLine then some (.val (.int s.length)) else none
    | _ => none
  | .abs, [a] => match a.look with
    | .int i => some (.val (.int (if i < 0 then -i else i)))
    | _ => none
  | .max2, [a, b] => match a.look, b.look with
    | .int i, .int j => some (.val (.int (if j > i then j else i)))
    | _, _ => none
  | .min2, [a, b] => match a.look, b.look with
    | .int i, .int j => some (.val (.int (if j < i then j else i)))
    | _, _ => none
  | .maxL, [a] => match a.look with
    | .lst xs => match dInts xs with
      | some ns => if ns = [] then none else some (.val (.int (greatest ns)))
      | none => none
    | _ => none
  | .minL, [a] => match a.look with
    | .lst xs => match dInts xs with
      | some ns => if ns = [] then none else some (.val (.int (least ns)))
      | none => none
    | _ => none
  | .sum, [a] => match a.look with
    | .lst xs => (dInts xs).map fun ns => .val (.int ns.sum)
    | _ => none
  | .all, [a] => match a.look with
    | .lst xs => (dBools xs).map fun ns => .val (.bl (ns.all id))
    | _ => none
  | .any, [a] => match a.look with
    | .lst xs => (dBools xs).map fun ns => .val (.bl (ns.any id))
    | _ => none
  | .tuple, [a] => match a.look with
    | .lst xs => some (.val (.tup xs))
    | .tup xs => some (.val (.tup xs))
    | _ => none
  | .list, [a] => match a.look with
    | .lst xs => some (.fresh (.lst xs))
    | .tup xs => some (.fresh (.lst xs))
    | _ => none
  | .repr, [a] => if a.look.toP.showable = true ∧ a.look.toP.canLay0 = true ∧ a.look.toP.depth ≤ 64 ∧ a.look.toP.shown.length ≤ sizeLine then some (.val (.str a.look.toP.shown)) else none
  | .int, [a] => match a.look with
    | .int i => some (.val (.int i))
    | .bl k => some (.val (.int (if k then 1 else 0)))
    | _ => none
  | .str, [a] => match a.look with
    | .int i => if i.natAbs.log2 < 1920 then some (.val (.str (toString i))) else none
    | _ => none
  | .sorted, [a] => match a.look with
    | .lst xs => (sortD xs).map fun ys => .fresh (.lst ys)
    | .tup xs => (dPairs xs).map fun ps => .fresh (.lst ((ps.mergeSort leP).map fun p => .tup [.int p.1, .int p.2]))
    | _ => none
  | _, _ => none

mutual
inductive Tg where
  | nm (i : Nat)
  | tup (ts : Tgs)
inductive Tgs where
  | nil
  | cons (t : Tg) (ts : Tgs)
end
mutual
def bindT : Tg → D → Slots → Option Slots
  | .nm i, d, sl => some (sl.set i (.val d))
  | .tup ts, .tup xs, sl => bindTs ts xs sl
  | .tup _, _, _ => none
def bindTs : Tgs → List D → Slots → Option Slots
  | .nil, [], sl => some sl
  | .cons t ts, x :: xs, sl => match bindT t x sl with
    | some sl' => bindTs ts xs sl'
    | none => none
  | _, _, _ => none
end
def Tgs.len : Tgs → Nat
  | .nil => 0
  | .cons _ ts => ts.len + 1

mutual
inductive Ex where
  | var (i : Nat) | int (z : Int) | bl (b : Bool) | non | str (s : String) | glob (x : String)
  | nop
  | bin (o : Bop) (a b : Ex)
  | cmp (o : Cop) (a b : Ex)
  | cmp2 (o o' : Cop) (a b c : Ex)
  | and (a b : Ex) | or (a b : Ex) | not (a : Ex) | neg (a : Ex)
  | ife (c a b : Ex)
  | tup (es : Exs) | list (es : Exs)
  | call (f : String) (es : Exs)
  | bi (b : Bi) (es : Exs)
  | isin (e : Ex) (one : Bool) (ts : List Ty)
  | ix (a i : Ex)
  | sl (a : Ex) (lo hi : Exo)
  | rev (a : Ex)
  | sset (e : Ex) | lrng (e : Ex)
  | ixr (a i : Ex) | cmpr (o : Cop) (a b : Ex) | shr (e : Ex) | popr (a : Ex) (k : Exo) | appr (a e : Ex)
  | comp (own : List (String × Nat)) (tg : Tg) (it : Itx) (c : Ex) (elt : Ex)
  | comp2 (own : List (String × Nat)) (tg : Tg) (it : Itx) (c : Ex) (vs1 : List Nat) (tg1 : Tg) (it1 : Itx) (c1 : Ex) (elt : Ex)
inductive Exs where
  | nil
  | cons (e : Ex) (es : Exs)
inductive Exo where
  | no
  | yes (e : Ex)
inductive Itx where
  | val (e : Ex)
  | rng1 (a : Ex) | rng2 (a b : Ex)
  | enum (e : Ex) | zip (a b : Ex)
end

/-- a shared list's content -/
def D.lookS (S : Sto) : D → D
  | .ref i => match S[i]? with
    | some (.lst xs) => .lst xs
    | none => .ref i
  | d => d
def Rv.lookS (S : Sto) (r : Rv) : D := r.look.lookS S
def Rv.isRef : Rv → Bool
  | .val (.ref _) => true
  | _ => false
/-- without the last item, or the one at a place -/
def popD (xs : List D) : Option Int → Option (D × List D)
  | none => xs.getLast?.map fun x => (x, xs.dropLast)
  | some k => if -(2 ^ 63) ≤ k ∧ k < 2 ^ 63 then (ixN xs.length k).bind fun j => xs[j]?.map fun x => (x, xs.eraseIdx j) else none
/-- the shared list of a value -/
def refAt (r : Rv) (S : Sto) : Option (Nat × List D) :=
  match r with
  | .val (.ref j) => match S[j]? with
    | some (.lst xs) => some (j, xs)
    | none => none
  | _ => none
/-- what a body may call, and how many turns a while may take -/
structure Cf where
  call : String → List D → Sto → Res Rv
  glob : String → Option D
  wf : Nat

def wipeS (sl : Slots) : List Nat → Slots
  | [] => sl
  | v :: vs => (wipeS sl vs).set v .emp
/-- within a comprehension no list of a name may be changed: such names are not seen there -/
def hideS (sl : Slots) : Slots := sl.map fun s => match s with
  | .own _ => .emp
  | s => s
/-- numbers, rising, each once -/
def insI (k : Int) : List Int → List Int
  | [] => [k]
  | x :: r => if k < x then k :: x :: r else if k = x then x :: r else x :: insI k r
def ssetI (l : List Int) : List Int := l.foldr insI []
def rngD (lo : Int) (n : Nat) : List D := (List.range n).map fun (i : Nat) => .int (lo + (i : Int))
def enumD (xs : List D) : List D := xs.zipIdx.map fun p => .tup [.int p.2, p.1]
def zipD (xs ys : List D) : List D := (xs.zip ys).map fun p => .tup [p.1, p.2]
def small62 (i : Int) : Bool := decide (-(2 ^ 62) ≤ i) && decide (i < 2 ^ 62)

/-- a comprehension's turns -/
def compL (f : D → List D → Sto → Res (List D)) : List D → List D → Sto → Res (List D)
  | [], acc, S => .ok acc S
  | x :: xs, acc, S => (f x acc S).bind fun acc' S' => compL f xs acc' S'
def addL (acc : List D) (d : D) (S : Sto) : Res (List D) := if acc.length < sizeLine then .ok (acc ++ [d]) S else .stuck
def Res.truth (r : Res Rv) : Res Bool := r.bind fun a S => Res.opt a.look.truth S
def Res.data (r : Res Rv) : Res D := r.bind fun a S => Res.opt a.toD S
def Res.int? (r : Res Rv) : Res Int := r.bind fun a S => match a.look with | .int i => .ok i S | _ => .stuck

mutual
def evE (F : Cf) : Ex → Slots → Sto → Res Rv
  | .var i, sl, S => match sl[i]? with
    | some (.val d) => .ok (.val d) S
    | some (.own c) => .ok (.own c) S
    | _ => .stuck
  | .int z, _, S => .ok (.val (.int z)) S
  | .bl b, _, S => .ok (.val (.bl b)) S
  | .non, _, S => .ok (.val .non) S
  | .str s, _, S => .ok (.val (.str (Str.ofString s))) S
  | .glob x, _, S => Res.opt ((F.glob x).map .val) S
  | .nop, _, S => .ok (.val (.bl true)) S
  | .bin o a b, sl, S => (evE F a sl S).bind fun x S1 => (evE F b sl S1).bind fun y S2 => Res.opt (opBin o x y) S2
  | .cmp o a b, sl, S => (evE F a sl S).bind fun x S1 => (evE F b sl S1).bind fun y S2 => Res.opt ((opCmp o x y).map fun k => .val (.bl k)) S2
  | .cmp2 o o' a b c, sl, S => (evE F a sl S).bind fun x S1 => (evE F b sl S1).bind fun y S2 => (Res.opt (opCmp o x y) S2).bind fun k S3 =>
      if k then (evE F c sl S3).bind fun z S4 => Res.opt ((opCmp o' y z).map fun k => .val (.bl k)) S4 else .ok (.val (.bl false)) S3
  | .and a b, sl, S => (evE F a sl S).bind fun x S1 => (Res.opt x.look.truth S1).bind fun k S2 => if k then evE F b sl S2 else .ok x S2
  | .or a b, sl, S => (evE F a sl S).bind fun x S1 => (Res.opt x.look.truth S1).bind fun k S2 => if k then .ok x S2 else evE F b sl S2
  | .not a, sl, S => (evE F a sl S).bind fun x S1 => (Res.opt x.look.truth S1).bind fun k S2 => .ok (.val (.bl (!k))) S2
  | .neg a, sl, S => (evE F a sl S).bind fun x S1 => match x.look with | .int i => .ok (.val (.int (-i))) S1 | _ => .stuck
  | .ife c a b, sl, S => (evE F c sl S).truth.bind fun k S1 => if k then evE F a sl S1 else evE F b sl S1
  | .tup es, sl, S => (evA F es sl S).bind fun ds S1 => if ds.length ≤ sizeLine then .ok (.val (.tup ds)) S1 else .stuck
  | .list es, sl, S => (evA F es sl S).bind fun ds S1 => if ds.length ≤ sizeLine then .ok (.fresh (.lst ds)) S1 else .stuck
  | .call f es, sl, S => (evA F es sl S).bind fun ds S1 => F.call f ds S1
  | .bi b es, sl, S => (evR F es sl S).bind fun rs S1 => Res.opt (opBi b rs) S1
  | .isin e _ ts, sl, S => (evE F e sl S).bind fun x S1 => .ok (.val (.bl (isIn x.look ts))) S1
  | .ix a i, sl, S => (evE F a sl S).bind fun x S1 => (evE F i sl S1).bind fun y S2 => Res.opt (opIx x y) S2
  | .sl a lo hi, sl, S => (evE F a sl S).bind fun x S1 => (evP F lo sl S1).bind fun l S2 => (evP F hi sl S2).bind fun h S3 => Res.opt (opSl x l h) S3
  | .rev a, sl, S => (evE F a sl S).bind fun x S1 => Res.opt (opRev x) S1
  | .sset e, sl, S => (evE F e sl S).bind fun x S1 => match x.look with
    | .lst xs => match dInts xs with
      | some ns => if ns.length < 4000 ∧ (ssetI ns).length < 64 then .ok (.fresh (.lst ((ssetI ns).map D.int))) S1 else .stuck
      | none => .stuck
    | _ => .stuck
  | .lrng e, sl, S => (evE F e sl S).int?.bind fun i S1 => if 0 ≤ i ∧ i ≤ 16777216 then .ok (.fresh (.lst (rngD 0 i.toNat))) S1 else .stuck
  | .ixr a i, sl, S => (evE F a sl S).bind fun x S1 => (evE F i sl S1).bind fun y S2 => Res.opt (opIxD (x.lookS S2) (y.lookS S2)) S2
  | .cmpr o a b, sl, S => (evE F a sl S).bind fun x S1 => (evE F b sl S1).bind fun y S2 => Res.opt ((opCmpD o (x.lookS S2) (y.lookS S2)).map fun k => .val (.bl k)) S2
  | .shr e, sl, S => (evE F e sl S).bind fun r S1 => match r with
    | .fresh c => .ok (.val (.ref S1.length)) (S1 ++ [c])
    | _ => .stuck
  | .popr a k, sl, S => (evE F a sl S).bind fun x S1 => if x.isRef then (evP F k sl S1).bind fun k S2 => match refAt x S2 with
    | some (j, xs) => match popD xs k with
      | some (d, ys) => .ok (.val d) (S2.set j (.lst ys))
      | none => .stuck
    | none => .stuck
    else .stuck
  | .appr a e, sl, S => (evE F a sl S).bind fun x S1 => if x.isRef then (evE F e sl S1).data.bind fun d S2 => match refAt x S2 with
    | some (j, xs) => if xs.length < sizeLine then .ok (.val .non) (S2.set j (.lst (xs ++ [d]))) else .stuck
    | none => .stuck
    else .stuck
  | .comp own tg it c elt, sl, S => (evI F it sl S).bind fun items S1 =>
      (compL (fun x acc S => match bindT tg x (wipeS (hideS sl) (own.map (·.2))) with
        | none => .stuck
        | some sl2 => (evE F c sl2 S).truth.bind fun k S2 => if k then (evE F elt sl2 S2).data.bind fun d S3 => addL acc d S3 else .ok acc S2) items [] S1).bind fun ds S2 => .ok (.fresh (.lst ds)) S2
  | .comp2 own tg it c vs1 tg1 it1 c1 elt, sl, S => (evI F it sl S).bind fun items S1 =>
      (compL (fun x acc S => match bindT tg x (wipeS (hideS sl) (own.map (·.2))) with
        | none => .stuck
        | some sl2 => (evE F c sl2 S).truth.bind fun k S2 => if k then (evI F it1 sl2 S2).bind fun items1 S3 =>
            compL (fun x acc S => match bindT tg1 x (wipeS sl2 vs1) with
              | none => .stuck
              | some sl3 => (evE F c1 sl3 S).truth.bind fun k S2 => if k then (evE F elt sl3 S2).data.bind fun d S3 => addL acc d S3 else .ok acc S2) items1 acc S3
          else .ok acc S2) items [] S1).bind fun ds S2 => .ok (.fresh (.lst ds)) S2
/-- arguments: data -/
def evA (F : Cf) : Exs → Slots → Sto → Res (List D)
  | .nil, _, S => .ok [] S
  | .cons e es, sl, S => (evE F e sl S).data.bind fun d S1 => (evA F es sl S1).bind fun ds S2 => .ok (d :: ds) S2
/-- a builtin's arguments -/
def evR (F : Cf) : Exs → Slots → Sto → Res (List Rv)
  | .nil, _, S => .ok [] S
  | .cons e es, sl, S => (evE F e sl S).bind fun d S1 => (evR F es sl S1).bind fun ds S2 => .ok (d :: ds) S2
/-- what a loop walks -/
def evI (F : Cf) : Itx → Slots → Sto → Res (List D)
  | .val e, sl, S => (evE F e sl S).data.bind fun d S1 => Res.opt d.seq S1
  | .rng1 a, sl, S => (evE F a sl S).int?.bind fun i S1 => if small62 i then .ok (rngD 0 i.toNat) S1 else .stuck
  | .rng2 a b, sl, S => (evE F a sl S).int?.bind fun i S1 => (evE F b sl S1).int?.bind fun j S2 => if small62 i && small62 j then .ok (rngD i (j - i).toNat) S2 else .stuck
  | .enum e, sl, S => (evE F e sl S).data.bind fun d S1 => Res.opt (d.seq.map enumD) S1
  | .zip a b, sl, S => (evE F a sl S).data.bind fun x S1 => (evE F b sl S1).data.bind fun y S2 => match x, y with
    | .tup xs, .tup ys => .ok (zipD xs ys) S2
    | .lst xs, .lst ys => .ok (zipD xs ys) S2
    | .lst xs, .tup ys => .ok (zipD xs ys) S2
    | _, _ => .stuck
/-- a part of a slice -/
def evP (F : Cf) : Exo → Slots → Sto → Res (Option Int)
  | .no, _, S => .ok none S
  | .yes e, sl, S => (evE F e sl S).int?.bind fun i S1 => .ok (some i) S1
end

/-! ### statements -/
mutual
inductive Sx where
  | asg (t : Tg) (e : Ex)
  | asgL (t : Tgs) (e : Ex)
  | aug (i : Nat) (o : Bop) (e : Ex)
  | setix (i : Nat) (k e : Ex)
  | app (i : Nat) (e : Ex)
  | ins0 (i : Nat) (e : Ex)
  | ext (i : Nat) (e : Ex) | setixr (a k e : Ex)
  | expr (e : Ex)
  | ret (e : Ex) | retv (i : Nat) | retN
  | ife (c : Ex) (a b : Sxs)
  | whl (c : Ex) (b : Sxs)
  | loop (t : Tg) (it : Itx) (b : Sxs)
  | brk | cont | pass
  | frz (i : Nat) | shr (i : Nat)
inductive Sxs where
  | nil
  | cons (s : Sx) (ss : Sxs)
end
inductive Fl where
  | nx | bk | ct | rt (r : Rv)
deriving Inhabited

def whlN (c : Slots → Sto → Res Bool) (b : Slots → Sto → Res (Fl × Slots)) : Nat → Slots → Sto → Res (Fl × Slots)
  | 0, _, _ => .stuck
  | n + 1, sl, S => (c sl S).bind fun k S1 => if k then (b sl S1).bind fun p S2 => match p.1 with
      | .nx => whlN c b n p.2 S2
      | .ct => whlN c b n p.2 S2
      | .bk => .ok (.nx, p.2) S2
      | .rt r => .ok (.rt r, p.2) S2
    else .ok (.nx, sl) S1
def loopL (t : Tg) (b : Slots → Sto → Res (Fl × Slots)) : List D → Slots → Sto → Res (Fl × Slots)
  | [], sl, S => .ok (.nx, sl) S
  | x :: xs, sl, S => match bindT t x sl with
    | none => .stuck
    | some sl1 => (b sl1 S).bind fun p S2 => match p.1 with
      | .nx => loopL t b xs p.2 S2
      | .ct => loopL t b xs p.2 S2
      | .bk => .ok (.nx, p.2) S2
      | .rt r => .ok (.rt r, p.2) S2
/-- a new value in a name -/
def asgV (i : Nat) (r : Rv) (sl : Slots) : Option Slots :=
  match r with
  | .val d => some (sl.set i (.val d))
  | .fresh c => some (sl.set i (.own c))
  | .own _ => none
/-- the items of a list, shared or not -/
def listOf (r : Rv) (S : Sto) : Option (List D) :=
  match r with
  | .val (.ref i) => match S[i]? with
    | some (.lst xs) => some xs
    | none => none
  | .val (.lst xs) => some xs
  | .fresh (.lst xs) => some xs
  | .own (.lst xs) => some xs
  | _ => none
/-- a changed list in a name: its own one, or the shared one that it holds -/
def chg (i : Nat) (f : List D → Option (List D)) (sl : Slots) (S : Sto) : Option (Slots × Sto) :=
  match sl[i]? with
  | some (.own (.lst xs)) => (f xs).map fun ys => (sl.set i (.own (.lst ys)), S)
  | some (.val (.ref j)) => match S[j]? with
    | some (.lst xs) => (f xs).map fun ys => (sl, S.set j (.lst ys))
    | none => none
  | _ => none
/-- a name holds a list, its own or a shared one -/
def lstAt (i : Nat) (sl : Slots) (S : Sto) : Bool :=
  match sl[i]? with
  | some (.own (.lst _)) => true
  | some (.val (.ref j)) => decide (j < S.length)
  | _ => false
def setD (xs : List D) (k : Int) (d : D) : Option (List D) := (ixN xs.length k).map fun j => xs.set j d
def insD (xs : List D) (d : D) : Option (List D) := if xs.length < sizeLine then some (d :: xs) else none
def appD (xs : List D) (d : D) : Option (List D) := if xs.length < sizeLine then some (xs ++ [d]) else none
def extD (xs ys : List D) : Option (List D) := if xs.length + ys.length ≤ sizeLine then some (xs ++ ys) else none
mutual
def exS (F : Cf) : Sx → Slots → Sto → Res (Fl × Slots)
  | .asg (.nm i) e, sl, S => (evE F e sl S).bind fun r S1 => Res.opt ((asgV i r sl).map fun s => (.nx, s)) S1
  | .asg (.tup ts) e, sl, S => (evE F e sl S).data.bind fun d S1 => Res.opt ((bindT (.tup ts) d sl).map fun s => (.nx, s)) S1
  | .asgL ts e, sl, S => (evE F e sl S).bind fun r S1 => match listOf r S1 with
    | some xs => Res.opt ((bindTs ts xs sl).map fun s => (.nx, s)) S1
    | none => .stuck
  | .aug i o e, sl, S => match sl[i]? with
    | some (.val (.int a)) => (evE F e sl S).bind fun r S1 => match r.look with
      | .int b => Res.opt ((opBin o (.val (.int a)) (.val (.int b))).bind fun r => (asgV i r sl).map fun s => (.nx, s)) S1
      | _ => .stuck
    | _ => .stuck
  | .setix i k e, sl, S => (evE F e sl S).data.bind fun d S1 => if lstAt i sl S1 then (evE F k sl S1).int?.bind fun k S2 => match chg i (setD · k d) sl S2 with
    | some (sl', S3) => .ok (.nx, sl') S3
    | none => .stuck
    else .stuck
  | .app i e, sl, S => if lstAt i sl S then (evE F e sl S).data.bind fun d S1 => match chg i (appD · d) sl S1 with
    | some (sl', S3) => .ok (.nx, sl') S3
    | none => .stuck
    else .stuck
  | .ins0 i e, sl, S => if lstAt i sl S then (evE F e sl S).data.bind fun d S1 => match chg i (insD · d) sl S1 with
    | some (sl', S3) => .ok (.nx, sl') S3
    | none => .stuck
    else .stuck
  | .ext i e, sl, S => if lstAt i sl S then (evE F e sl S).bind fun r S1 => match r.look.seq with
      | some ys => match chg i (extD · ys) sl S1 with
        | some (sl', S3) => .ok (.nx, sl') S3
        | none => .stuck
      | none => .stuck
    else .stuck
  | .setixr a k e, sl, S => (evE F e sl S).data.bind fun d S1 => (evE F a sl S1).bind fun x S2 => (evE F k sl S2).int?.bind fun k S3 => match refAt x S3 with
    | some (j, xs) => match setD xs k d with
      | some ys => .ok (.nx, sl) (S3.set j (.lst ys))
      | none => .stuck
    | none => .stuck
  | .expr e, sl, S => (evE F e sl S).bind fun _ S1 => .ok (.nx, sl) S1
  | .ret e, sl, S => (evE F e sl S).bind fun r S1 => match r with
    | .own _ => .stuck
    | r => .ok (.rt r, sl) S1
  | .retv i, sl, S => match sl[i]? with
    | some (.val d) => .ok (.rt (.val d), sl) S
    | some (.own c) => .ok (.rt (.fresh c), sl) S
    | _ => .stuck
  | .retN, sl, S => .ok (.rt (.val .non), sl) S
  | .ife c a b, sl, S => (evE F c sl S).truth.bind fun k S1 => if k then exB F a sl S1 else exB F b sl S1
  | .whl c b, sl, S => whlN (fun sl S => (evE F c sl S).truth) (exB F b) F.wf sl S
  | .loop t it b, sl, S => (evI F it sl S).bind fun items S1 => loopL t (exB F b) items sl S1
  | .brk, sl, S => .ok (.bk, sl) S
  | .cont, sl, S => .ok (.ct, sl) S
  | .pass, sl, S => .ok (.nx, sl) S
  | .frz i, sl, S => match sl[i]? with
    | some (.own c) => .ok (.nx, sl.set i (.val c.frz)) S
    | some (.val _) => .ok (.nx, sl) S
    | _ => .stuck
  | .shr i, sl, S => match sl[i]? with
    | some (.own c) => .ok (.nx, sl.set i (.val (.ref S.length))) (S ++ [c])
    | _ => .stuck
def exB (F : Cf) : Sxs → Slots → Sto → Res (Fl × Slots)
  | .nil, sl, S => .ok (.nx, sl) S
  | .cons s ss, sl, S => (exS F s sl S).bind fun p S1 => match p.1 with
    | .nx => exB F ss p.2 S1
    | f => .ok (f, p.2) S1
end
/-- a def: how many parameters, its names (the parameters first), its body -/
structure Fn where
  ar : Nat
  names : List String
  body : Sxs
def startS (d : Fn) (as : List D) : Slots := as.map .val ++ List.replicate (d.names.length - d.ar) .emp
def outOf (r : Res (Fl × Slots)) : Res Rv := r.bind fun p S => match p.1 with
  | .nx => .ok (.val .non) S
  | .rt r => .ok r S
  | _ => .stuck
def callN (T : String → Option Fn) (G : String → Option D) (wf : Nat) : Nat → String → List D → Sto → Res Rv
  | 0, _, _, _ => .stuck
  | n + 1, f, as, S => match T f with
    | some d => if as.length = d.ar then outOf (exB ⟨callN T G wf n, G, wf⟩ d.body (startS d as) S) else .stuck
    | none => .stuck
end Px

set_option Elab.async false
set_option linter.all false
set_option maxRecDepth 100000
/-! Px, part B: how plain data lies in the heap. -/
namespace Px
open PySem L2

section
variable (K : PySem.W.Frag) (sa : List Addr) (R : Hp)
mutual
/-- data d lies at the value v: R is the part of the heap that never changes, sa tells where the shared objects lie -/
inductive Rep : D → V → Prop
  | non : Rep .non .non
  | bl (b : Bool) : Rep (.bl b) (.bl b)
  | int (i : Int) : Rep (.int i) (.int i)
  | str (s : Str) : Rep (.str s) (.str s)
  | tup {a : Addr} {xs : List D} {vs : List V} : SqT K R a vs → xs.length ≤ sizeLine → Reps xs vs → Rep (.tup xs) (.ref a)
  | lst {a : Addr} {xs : List D} {vs : List V} : R a = some (.lst vs) → xs.length ≤ sizeLine → Reps xs vs → Rep (.lst xs) (.ref a)
  | scr {a : Addr} {xs : List D} {vs : List V} : SqL K R a vs → xs.length ≤ sizeLine → Reps xs vs → Rep (.scr xs) (.ref a)
  | ref {i : Nat} {a : Addr} : sa[i]? = some a → Rep (.ref i) (.ref a)
inductive Reps : List D → List V → Prop
  | nil : Reps [] []
  | cons {d : D} {v : V} {ds : List D} {vs : List V} : Rep d v → Reps ds vs → Reps (d :: ds) (v :: vs)
end
end

theorem SqT.mono {K : PySem.W.Frag} {R R' : Hp} {a : Addr} {xs : List V} (h : SqT K R a xs) (m : ∀ a o, R a = some o → R' a = some o) : SqT K R' a xs := by
  rcases h with (h | ⟨o, h⟩) | h
  · exact .inl (.inl (m _ _ h))
  · exact .inl (.inr ⟨o, m _ _ h⟩)
  · exact .inr h
theorem SqL.mono {K : PySem.W.Frag} {R R' : Hp} {a : Addr} {xs : List V} (h : SqL K R a xs) (m : ∀ a o, R a = some o → R' a = some o) : SqL K R' a xs := by
  rcases h with (h | ⟨o, h⟩) | h
  · exact .inl (.inl (m _ _ h))
  · exact .inl (.inr ⟨o, m _ _ h⟩)
  · exact .inr h

section
variable {K : PySem.W.Frag} {sa sa' : List Addr} {R R' : Hp}
theorem Reps.length : ∀ {xs : List D} {vs : List V}, Reps K sa R xs vs → xs.length = vs.length
  | [], _, h => by cases h; rfl
  | d :: ds, _, h => by cases h with | cons _ t => simp [Reps.length t]
theorem Reps.get : ∀ {xs : List D} {vs : List V} {i : Nat} {d : D}, Reps K sa R xs vs → xs[i]? = some d → ∃ v, vs[i]? = some v ∧ Rep K sa R d v
  | [], _, _, _, h, e => by simp at e
  | x :: xs, _, 0, d, h, e => by
    cases h with | cons r t => simp at e; subst e; exact ⟨_, rfl, r⟩
  | x :: xs, _, i + 1, d, h, e => by
    cases h with | cons r t => obtain ⟨v, h1, h2⟩ := Reps.get (i := i) t (by simpa using e); exact ⟨v, by simpa using h1, h2⟩
theorem Reps.getV : ∀ {xs : List D} {vs : List V} {i : Nat} {v : V}, Reps K sa R xs vs → vs[i]? = some v → ∃ d, xs[i]? = some d ∧ Rep K sa R d v
  | [], _, _, _, h, e => by cases h; simp at e
  | x :: xs, _, 0, v, h, e => by
    cases h with | cons r t => simp at e; subst e; exact ⟨_, rfl, r⟩
  | x :: xs, _, i + 1, v, h, e => by
    cases h with | cons r t => obtain ⟨d, h1, h2⟩ := Reps.getV (i := i) t (by simpa using e); exact ⟨d, by simpa using h1, h2⟩
theorem Reps.append : ∀ {xs ys : List D} {vs us : List V}, Reps K sa R xs vs → Reps K sa R ys us → Reps K sa R (xs ++ ys) (vs ++ us)
  | [], _, _, _, h, q => by cases h; exact q
  | d :: ds, _, _, _, h, q => by cases h with | cons r t => exact .cons r (Reps.append t q)
theorem Reps.one {d : D} {v : V} (h : Rep K sa R d v) : Reps K sa R [d] [v] := .cons h .nil
theorem Reps.drop : ∀ {xs : List D} {vs : List V} (n : Nat), Reps K sa R xs vs → Reps K sa R (xs.drop n) (vs.drop n)
  | _, _, 0, h => h
  | [], _, n + 1, h => by cases h; exact .nil
  | d :: ds, _, n + 1, h => by cases h with | cons r t => exact Reps.drop n t
theorem Reps.take : ∀ {xs : List D} {vs : List V} (n : Nat), Reps K sa R xs vs → Reps K sa R (xs.take n) (vs.take n)
  | _, _, 0, h => by simpa using Reps.nil
  | [], _, n + 1, h => by cases h; simpa using Reps.nil
  | d :: ds, _, n + 1, h => by cases h with | cons r t => exact .cons r (Reps.take n t)
theorem Reps.reverse : ∀ {xs : List D} {vs : List V}, Reps K sa R xs vs → Reps K sa R xs.reverse vs.reverse
  | [], _, h => by cases h; exact .nil
  | d :: ds, _, h => by
    cases h with | cons r t => rw [List.reverse_cons, List.reverse_cons]; exact (Reps.reverse t).append (.one r)
theorem Reps.set : ∀ {xs : List D} {vs : List V} {d : D} {v : V} (n : Nat), Reps K sa R xs vs → Rep K sa R d v → Reps K sa R (xs.set n d) (vs.set n v)
  | [], _, _, _, n, h, r => by cases h; exact .nil
  | d :: ds, _, _, _, 0, h, r => by cases h with | cons _ t => exact .cons r t
  | d :: ds, _, _, _, n + 1, h, r => by cases h with | cons q t => exact .cons q (Reps.set n t r)
theorem Reps.flatten_replicate {xs : List D} {vs : List V} (h : Reps K sa R xs vs) : ∀ n : Nat, Reps K sa R (List.replicate n xs).flatten (List.replicate n vs).flatten
  | 0 => .nil
  | n + 1 => by rw [List.replicate_succ, List.replicate_succ, List.flatten_cons, List.flatten_cons]; exact h.append (Reps.flatten_replicate h n)
mutual
theorem Rep.mono (mr : ∀ a o, R a = some o → R' a = some o) (ms : ∀ (i : Nat) a, sa[i]? = some a → sa'[i]? = some a) : ∀ {d : D} {v : V}, Rep K sa R d v → Rep K sa' R' d v
  | .non, _, h => by cases h; exact .non
  | .bl _, _, h => by cases h; exact .bl _
  | .int _, _, h => by cases h; exact .int _
  | .str _, _, h => by cases h; exact .str _
  | .tup xs, _, h => by cases h with | tup a l r => exact .tup (SqT.mono a mr) l (Reps.mono mr ms r)
  | .lst xs, _, h => by cases h with | lst a l r => exact .lst (mr _ _ a) l (Reps.mono mr ms r)
  | .scr xs, _, h => by cases h with | scr a l r => exact .scr (SqL.mono a mr) l (Reps.mono mr ms r)
  | .dic _ _, _, h => by cases h
  | .ref _, _, h => by cases h with | ref e => exact .ref (ms _ _ e)
theorem Reps.mono (mr : ∀ a o, R a = some o → R' a = some o) (ms : ∀ (i : Nat) a, sa[i]? = some a → sa'[i]? = some a) : ∀ {xs : List D} {vs : List V}, Reps K sa R xs vs → Reps K sa' R' xs vs
  | [], _, h => by cases h; exact .nil
  | d :: ds, _, h => by cases h with | cons r t => exact .cons (Rep.mono mr ms r) (Reps.mono mr ms t)
end
end

/-- what stands behind the plain state: the tracked heap, its part that never changes, where the shared objects lie, what they hold -/
structure Gh where
  H : Hp
  R : Hp
  sa : List Addr
  S : Sto
abbrev Gh.Rep (K : PySem.W.Frag) (g : Gh) : D → V → Prop := Px.Rep K g.sa g.R
abbrev Gh.Reps (K : PySem.W.Frag) (g : Gh) : List D → List V → Prop := Px.Reps K g.sa g.R
/-- a thing's content, and what is tracked at its address -/
def Gh.CRep (K : PySem.W.Frag) (g : Gh) (c : Cn) (o : HO) : Prop :=
  match c with
  | .lst xs => xs.length ≤ sizeLine ∧ ∃ vs, o = .lst vs ∧ g.Reps K xs vs

/-- from g to g' -/
structure Stp (g g' : Gh) : Prop where
  hp : ∀ a o, g.H a = some o → a ∉ g.sa → g'.H a = some o
  dom : ∀ a, g'.H a = none → g.H a = none
  rr : ∀ a o, g.R a = some o → g'.R a = some o
  rn : ∀ a, g.R a = none → g.H a ≠ none → g'.R a = none
  sp : ∃ t, g'.sa = g.sa ++ t
  sn : ∀ a, a ∈ g'.sa → a ∉ g.sa → g.H a = none
/-- what grows in every step, stores too -/
structure Gro (g g' : Gh) : Prop where
  rr : ∀ a o, g.R a = some o → g'.R a = some o
  sp : ∃ t, g'.sa = g.sa ++ t
structure Gok (K : PySem.W.Frag) (g : Gh) : Prop where
  sub : ∀ a o, g.R a = some o → g.H a = some o
  len : g.sa.length = g.S.length
  nd : g.sa.Nodup
  sto : ∀ (i : Nat) a c, g.sa[i]? = some a → g.S[i]? = some c → ∃ o, g.H a = some o ∧ g.CRep K c o ∧ g.R a = none

theorem Gro.ms {g g' : Gh} (h : Gro g g') : ∀ (i : Nat) a, g.sa[i]? = some a → g'.sa[i]? = some a := fun i a e => by
  obtain ⟨t, q⟩ := h.sp
  have hi : i < g.sa.length := (List.getElem?_eq_some_iff.mp e).1
  rw [q, List.getElem?_append_left hi]; exact e
theorem Stp.gro {g g' : Gh} (h : Stp g g') : Gro g g' := ⟨h.rr, h.sp⟩
theorem Stp.refl (g : Gh) : Stp g g := ⟨fun _ _ e _ => e, fun _ e => e, fun _ _ e => e, fun _ e _ => e, ⟨[], by simp⟩, fun _ h n => absurd h n⟩
theorem Gro.refl (g : Gh) : Gro g g := (Stp.refl g).gro
theorem Gro.trans {g g1 g2 : Gh} (a : Gro g g1) (b : Gro g1 g2) : Gro g g2 :=
  ⟨fun x o e => b.rr x o (a.rr x o e), by obtain ⟨t, q⟩ := a.sp; obtain ⟨u, w⟩ := b.sp; exact ⟨t ++ u, by rw [w, q, List.append_assoc]⟩⟩
theorem Stp.trans {g g1 g2 : Gh} (a : Stp g g1) (b : Stp g1 g2) : Stp g g2 where
  hp := fun x o e n => by
    refine b.hp x o (a.hp x o e n) fun m => ?_
    have := a.sn x m n
    rw [e] at this; cases this
  dom := fun x e => a.dom x (b.dom x e)
  rr := (a.gro.trans b.gro).rr
  rn := fun x e n => b.rn x (a.rn x e n) fun z => n (a.dom x z)
  sp := (a.gro.trans b.gro).sp
  sn := fun x m n => by
    by_cases h : x ∈ g1.sa
    · exact a.sn x h n
    · exact a.dom x (b.sn x m h)
section
variable {K : PySem.W.Frag} {g g' g1 : Gh}
theorem Gro.rep (h : Gro g g') {d : D} {v : V} (r : g.Rep K d v) : g'.Rep K d v := Rep.mono h.rr h.ms r
theorem Gro.reps (h : Gro g g') {d : List D} {v : List V} (r : g.Reps K d v) : g'.Reps K d v := Reps.mono h.rr h.ms r
theorem Gro.crep (h : Gro g g') {c : Cn} {o : HO} (r : g.CRep K c o) : g'.CRep K c o := by
  cases c with
  | lst xs => obtain ⟨l, vs, e, q⟩ := r; exact ⟨l, vs, e, h.reps q⟩

/-- a result: new things are told by what g did not track -/
def RvR (K : PySem.W.Frag) (g g' : Gh) (r : Rv) (v : V) : Prop :=
  match r with
  | .val d => g'.Rep K d v
  | .fresh c => ∃ a o, v = .ref a ∧ g'.H a = some o ∧ g'.CRep K c o ∧ g'.R a = none ∧ a ∉ g'.sa ∧ g.H a = none
  | .own c => ∃ a o, v = .ref a ∧ g'.H a = some o ∧ g'.CRep K c o ∧ g'.R a = none ∧ a ∉ g'.sa
theorem RvR.after {r : Rv} {v : V} (h : RvR K g g' r v) (s : Stp g' g1) : RvR K g g1 r v := by
  cases r with
  | val d => exact s.gro.rep h
  | fresh c =>
    obtain ⟨a, o, e, h1, h2, h3, h4, h5⟩ := h
    exact ⟨a, o, e, s.hp a o h1 h4, s.gro.crep h2, s.rn a h3 (by rw [h1]; simp), fun m => (by have := s.sn a m h4; rw [h1] at this; cases this), h5⟩
  | own c =>
    obtain ⟨a, o, e, h1, h2, h3, h4⟩ := h
    exact ⟨a, o, e, s.hp a o h1 h4, s.gro.crep h2, s.rn a h3 (by rw [h1]; simp), fun m => (by have := s.sn a m h4; rw [h1] at this; cases this)⟩
theorem RvR.ahead {r : Rv} {v : V} (h : RvR K g' g1 r v) (s : Stp g g') : RvR K g g1 r v := by
  cases r with
  | val d => exact h
  | fresh c =>
    obtain ⟨a, o, e, h1, h2, h3, h4, h5⟩ := h
    exact ⟨a, o, e, h1, h2, h3, h4, s.dom a h5⟩
  | own c => exact h

/-- with another unchanged part -/
def Gh.wR (g : Gh) (R : Hp) : Gh := { g with R := R }
/-- a thing that nobody else holds becomes one that never changes -/
theorem Gh.freeze (ok : Gok K g') {a : Addr} {o : HO} (h1 : g'.H a = some o) (h3 : g'.R a = none) (h4 : a ∉ g'.sa) (h5 : g.H a = none) (st : Stp g g') :
    Gok K (g'.wR (upd g'.R a o)) ∧ Gro g' (g'.wR (upd g'.R a o)) ∧ Stp g (g'.wR (upd g'.R a o)) := by
  have gr : Gro g' (g'.wR (upd g'.R a o)) := ⟨fun b u e => by
    show upd g'.R a o b = some u
    rw [upd_ne (fun z => by rw [z, h3] at e; cases e)]; exact e, ⟨[], by simp [Gh.wR]⟩⟩
  refine ⟨⟨fun b u e => ?_, ok.len, ok.nd, fun i b c e1 e2 => ?_⟩, gr, ⟨st.hp, st.dom, fun b u e => gr.rr b u (st.rr b u e), fun b e n => ?_, st.sp, st.sn⟩⟩
  · show g'.H b = some u
    have e' : upd g'.R a o b = some u := e
    by_cases hb : b = a
    · subst hb; rw [upd_same] at e'; cases e'; exact h1
    · rw [upd_ne hb] at e'; exact ok.sub b u e'
  · obtain ⟨u, q1, q2, q3⟩ := ok.sto i b c e1 e2
    refine ⟨u, q1, gr.crep q2, ?_⟩
    show upd g'.R a o b = none
    rw [upd_ne (fun z : b = a => h4 (z ▸ List.mem_of_getElem? e1))]
    exact q3
  · show upd g'.R a o b = none
    rw [upd_ne (fun z : b = a => n (by rw [z]; exact h5))]
    exact st.rn b e n
/-- what escapes is data -/
theorem RvR.esc {r : Rv} {v : V} {d : D} (h : RvR K g g' r v) (ok : Gok K g') (st : Stp g g') (e : r.toD = some d) :
    ∃ g1 : Gh, g1.H = g'.H ∧ g1.S = g'.S ∧ Gok K g1 ∧ Stp g g1 ∧ Gro g' g1 ∧ g1.Rep K d v := by
  cases r with
  | val x => cases e; exact ⟨g', rfl, rfl, ok, st, Gro.refl _, h⟩
  | fresh c =>
    cases e
    obtain ⟨a, o, rfl, h1, h2, h3, h4, h5⟩ := h
    obtain ⟨k1, k2, k3⟩ := Gh.freeze ok h1 h3 h4 h5 st
    refine ⟨g'.wR (upd g'.R a o), rfl, rfl, k1, k3, k2, ?_⟩
    cases c with
    | lst xs =>
      obtain ⟨l, vs, rfl, q⟩ := h2
      exact .lst (show upd g'.R a (.lst vs) a = some _ from upd_same) l (k2.reps q)
  | own c => cases e
/-- a new object is tracked -/
def Gh.new (g : Gh) (p : Addr) (o : HO) : Gh := { g with H := upd g.H p o }
def Gh.newR (g : Gh) (p : Addr) (o : HO) : Gh := { g with H := upd g.H p o, R := upd g.R p o }
theorem Gok.Rnone (ok : Gok K g) {p : Addr} (hp : g.H p = none) : g.R p = none := by
  cases e : g.R p with
  | none => rfl
  | some o => have := ok.sub p o e; rw [hp] at this; cases this
theorem Gok.saTr (ok : Gok K g) {p : Addr} (hp : g.H p = none) : p ∉ g.sa := fun m => by
  obtain ⟨i, hi, e⟩ := List.mem_iff_getElem.mp m
  have e1 : g.sa[i]? = some p := by rw [List.getElem?_eq_getElem hi, e]
  have hi2 : i < g.S.length := by rw [← ok.len]; exact hi
  obtain ⟨o, q, _⟩ := ok.sto i p _ e1 (List.getElem?_eq_getElem hi2)
  rw [hp] at q; cases q
theorem Gok.new (ok : Gok K g) {p : Addr} (hp : g.H p = none) (o : HO) : Gok K (g.new p o) ∧ Stp g (g.new p o) := by
  have ns := ok.saTr hp
  have st : Stp g (g.new p o) := ⟨fun b u e _ => by
      show upd g.H p o b = some u
      rw [upd_ne (ne_of_none e hp)]; exact e, fun b e => by
      have e' : upd g.H p o b = none := e
      by_cases hb : b = p
      · subst hb; exact hp
      · rw [upd_ne hb] at e'; exact e', fun _ _ e => e, fun _ e _ => e, ⟨[], by simp [Gh.new]⟩, fun _ h n => absurd h n⟩
  refine ⟨⟨fun b u e => st.hp b u (ok.sub b u e) fun m => ?_, ok.len, ok.nd, fun i b c e1 e2 => ?_⟩, st⟩
  · obtain ⟨i, hi, q⟩ := List.mem_iff_getElem.mp m
    have e1 : g.sa[i]? = some b := by rw [List.getElem?_eq_getElem hi, q]
    have hi2 : i < g.S.length := by rw [← ok.len]; exact hi
    obtain ⟨_, _, _, q3⟩ := ok.sto i b _ e1 (List.getElem?_eq_getElem hi2)
    rw [show g.R b = some u from e] at q3; cases q3
  · obtain ⟨u, q1, q2, q3⟩ := ok.sto i b c e1 e2
    refine ⟨u, ?_, st.gro.crep q2, q3⟩
    show upd g.H p o b = some u
    rw [upd_ne (ne_of_none q1 hp)]; exact q1
theorem Gok.newR (ok : Gok K g) {p : Addr} (hp : g.H p = none) (o : HO) : Gok K (g.newR p o) ∧ Stp g (g.newR p o) := by
  obtain ⟨k1, k2⟩ := ok.new hp o
  have h3 : (g.new p o).R p = none := ok.Rnone hp
  obtain ⟨j1, j2, j3⟩ := Gh.freeze (g := g) k1 (a := p) (o := o) (show upd g.H p o p = some o from upd_same) h3 (ok.saTr hp) hp k2
  exact ⟨j1, j3⟩
end
end Px

set_option Elab.async false
set_option linter.all false
set_option maxRecDepth 100000
/-! Px, part C: the readings of the plain language's parts; operations by values. -/
namespace Px
open PySem PySem.Spec PyProof.Rows L2

def SlotR (K : PySem.W.Frag) (g0 g : Gh) (s : Slot) (v : Option V) : Prop :=
  match s with
  | .emp => True
  | .val d => ∃ x, v = some x ∧ g.Rep K d x
  | .own c => ∃ a o, v = some (.ref a) ∧ g.H a = some o ∧ g.CRep K c o ∧ g.R a = none ∧ a ∉ g.sa ∧ g0.H a = none
structure SlOk (K : PySem.W.Frag) (g0 g : Gh) (σ : L2.St) (sl : Slots) : Prop where
  len : σ.length = sl.length
  at_ : ∀ (i : Nat) s, sl[i]? = some s → ∃ v, σ[i]? = some v ∧ SlotR K g0 g s v
  sep : ∀ (i j : Nat) c c' a, sl[i]? = some (Slot.own c) → sl[j]? = some (Slot.own c') → i ≠ j → σ[i]? = some (some (V.ref a)) → σ[j]? = some (some (V.ref a)) → False
theorem SlotR.step {K : PySem.W.Frag} {g0 g g' : Gh} {s : Slot} {v : Option V} (h : SlotR K g0 g s v) (st : Stp g g') : SlotR K g0 g' s v := by
  cases s with
  | emp => trivial
  | val d => obtain ⟨x, e, r⟩ := h; exact ⟨x, e, st.gro.rep r⟩
  | own c =>
    obtain ⟨a, o, e, h1, h2, h3, h4, h5⟩ := h
    exact ⟨a, o, e, st.hp a o h1 h4, st.gro.crep h2, st.rn a h3 (by rw [h1]; simp), fun m => (by have := st.sn a m h4; rw [h1] at this; cases this), h5⟩
theorem SlOk.step {K : PySem.W.Frag} {g0 g g' : Gh} {σ : L2.St} {sl : Slots} (h : SlOk K g0 g σ sl) (st : Stp g g') : SlOk K g0 g' σ sl :=
  ⟨h.len, fun i s e => let ⟨v, e1, r⟩ := h.at_ i s e; ⟨v, e1, r.step st⟩, h.sep⟩

/-- an exception as it lies -/
def XR (K : PySem.W.Frag) (g : Gh) (x : Xn) (C : Value) (od : Option Addr) : Prop := False

section
variable (K : PySem.W.Frag) (E : XK)
/-- from g: what the plain result says of the real one -/
def Post {α β : Type} (RR : Gh → Gh → α → β → Prop) (g : Gh) (r : Res α) (Q : β → Hp → Prop) : Prop :=
  match r with
  | .ok a S => ∀ g' v, g'.S = S → Gok K g' → Stp g g' → RR g g' a v → Q v g'.H
  | .exc x S => ∀ g' C od, g'.S = S → Gok K g' → Stp g g' → XR K g' x C od → E C od g'.H
  | .stuck => False
/-- the reading of a plain function of the slots and the store -/
def rd {α β : Type} (RR : Gh → Gh → α → β → Prop) (f : Slots → Sto → Res α) : L2.St → Hp → (β → Hp → Prop) → Prop := fun σ H Q =>
  ∃ g0 g sl, g.H = H ∧ Gok K g ∧ SlOk K g0 g σ sl ∧ Post K E RR g (f sl g.S) Q
abbrev rdE (f : Slots → Sto → Res Rv) : TE := rd K E (RvR K) f
abbrev rdT (f : Slots → Sto → Res Bool) : TT := rd K E (fun _ _ a (b : Bool) => b = a) f
abbrev rdA (f : Slots → Sto → Res (List D)) : TA := rd K E (fun _ g' ds vs => g'.Reps K ds vs) f
/-- a result to be looked at -/
def LookR (g : Gh) (d : D) (v : V) : Prop :=
  match d with
  | .lst xs => ∃ a vs, v = .ref a ∧ g.H a = some (.lst vs) ∧ xs.length ≤ sizeLine ∧ g.Reps K xs vs
  | d => g.Rep K d v
def RvRs (g g' : Gh) : List Rv → List V → Prop := Paired (RvR K g g')
abbrev rdR (f : Slots → Sto → Res (List Rv)) : TA := rd K E (RvRs K) f
end

section
variable {K : PySem.W.Frag} {E : XK} {g g' g1 : Gh} {α β γ δ : Type} {RR : Gh → Gh → α → β → Prop} {RS : Gh → Gh → γ → δ → Prop}
theorem Post.bind {f : Res α} {k : α → Sto → Res γ} {Q : δ → Hp → Prop} {Q1 : β → Hp → Prop} (h : Post K E RS g (f.bind k) Q)
    (hk : ∀ g1 a v, Gok K g1 → Stp g g1 → RR g g1 a v → Post K E RS g (k a g1.S) Q → Q1 v g1.H) : Post K E RR g f Q1 := by
  cases f with
  | ok a S => intro g' v e ok st r; subst e; exact hk g' a v ok st r h
  | exc x S => exact h
  | stuck => exact h
theorem Post.shift {r : Res α} {Q : β → Hp → Prop} (h : Post K E RR g r Q) (st : Stp g g') (ah : ∀ g1 a v, Stp g' g1 → RR g' g1 a v → RR g g1 a v) : Post K E RR g' r Q := by
  cases r with
  | ok a S => intro g1 v e ok s q; exact h g1 v e ok (st.trans s) (ah g1 a v s q)
  | exc x S => intro g1 C od e ok s q; exact h g1 C od e ok (st.trans s) q
  | stuck => exact h
theorem Post.shiftE {r : Res Rv} {Q : V → Hp → Prop} (h : Post K E (RvR K) g r Q) (st : Stp g g') : Post K E (RvR K) g' r Q := h.shift st fun _ _ _ _ q => q.ahead st
theorem Post.shiftT {r : Res Bool} {Q : Bool → Hp → Prop} (h : Post K E (fun _ _ a (b : Bool) => b = a) g r Q) (st : Stp g g') : Post K E (fun _ _ a (b : Bool) => b = a) g' r Q := h.shift st fun _ _ _ _ q => q
theorem Post.shiftA {r : Res (List D)} {Q : List V → Hp → Prop} (h : Post K E (fun _ g' ds vs => g'.Reps K ds vs) g r Q) (st : Stp g g') : Post K E (fun _ g' ds vs => g'.Reps K ds vs) g' r Q := h.shift st fun _ _ _ _ q => q
theorem RvRs.after : ∀ {rs : List Rv} {vs : List V}, RvRs K g g' rs vs → Stp g' g1 → RvRs K g g1 rs vs
  | _, _, .nil, _ => .nil
  | _, _, .cons r t, s => .cons (r.after s) (RvRs.after t s)
theorem RvRs.ahead : ∀ {rs : List Rv} {vs : List V}, RvRs K g' g1 rs vs → Stp g g' → RvRs K g g1 rs vs
  | _, _, .nil, _ => .nil
  | _, _, .cons r t, s => .cons (r.ahead s) (RvRs.ahead t s)
theorem Post.shiftR {r : Res (List Rv)} {Q : List V → Hp → Prop} (h : Post K E (RvRs K) g r Q) (st : Stp g g') : Post K E (RvRs K) g' r Q := h.shift st fun _ _ _ _ q => q.ahead st
theorem PE.imp {X : Cx} {e : Expr} {t u : TE} (h : PE X e t) (i : ∀ σ H Q, u σ H Q → t σ H Q) : PE X e u := ⟨fun pins s σ H Q I q => h.run pins s σ H Q I (i σ H Q q)⟩
theorem PT.imp {X : Cx} {e : Expr} {t u : TT} (h : PT X e t) (i : ∀ σ H Q, u σ H Q → t σ H Q) : PT X e u := ⟨fun pins s σ H Q I q => h.run pins s σ H Q I (i σ H Q q)⟩
theorem PA.imp {X : Cx} {e : List Expr} {t u : TA} (h : PA X e t) (i : ∀ σ H Q, u σ H Q → t σ H Q) : PA X e u := ⟨fun pos pins s σ H Q I q => h.run pos pins s σ H Q I (i σ H Q q)⟩
theorem PS.imp {X : Cx} {e : Stmt} {t u : TS} (h : PS X e t) (i : ∀ D σ H, u D σ H → t D σ H) : PS X e u := ⟨fun pins s σ H D I q => h.run pins s σ H D I (i D σ H q)⟩
theorem PSs.imp {X : Cx} {e : List Stmt} {t u : TS} (h : PSs X e t) (i : ∀ D σ H, u D σ H → t D σ H) : PSs X e u := ⟨fun pins s σ H D I q => h.run pins s σ H D I (i D σ H q)⟩

/-! ### ends of an evaluation -/
theorem Post.val {d : D} {v : V} {S : Sto} {Q : V → Hp → Prop} (h : Post K E (RvR K) g (.ok (.val d) S) Q) (ok : Gok K g) (e : g.S = S) (r : g.Rep K d v) : Q v g.H := h g v e ok (Stp.refl g) r
theorem Post.tup {ds : List D} {vs : List V} {S : Sto} {Q : V → Hp → Prop} (h : Post K E (RvR K) g (.ok (.val (.tup ds)) S) Q) (ok : Gok K g) (e : g.S = S) (r : g.Reps K ds vs) (hz : ds.length ≤ sizeLine) :
    ∀ p, g.H p = none → Q (.ref p) (upd g.H p (.tup vs)) := fun p hp => by
  obtain ⟨k, st⟩ := ok.newR hp (.tup vs)
  refine h (g.newR p (.tup vs)) (.ref p) e k st ?_
  exact .tup (SqT.of (show upd g.R p (.tup vs) p = some _ from upd_same)) hz (st.gro.reps r)
theorem Post.fresh {ds : List D} {vs : List V} {S : Sto} {Q : V → Hp → Prop} (h : Post K E (RvR K) g (.ok (.fresh (.lst ds)) S) Q) (ok : Gok K g) (e : g.S = S) (r : g.Reps K ds vs) (hz : ds.length ≤ sizeLine) :
    ∀ p, g.H p = none → Q (.ref p) (upd g.H p (.lst vs)) := fun p hp => by
  obtain ⟨k, st⟩ := ok.new hp (.lst vs)
  refine h (g.new p (.lst vs)) (.ref p) e k st ?_
  exact ⟨p, .lst vs, rfl, show upd g.H p (.lst vs) p = some _ from upd_same, ⟨hz, vs, rfl, st.gro.reps r⟩, ok.Rnone hp, ok.saTr hp, hp⟩

/-! ### what is looked at -/
theorem Rep.lookR (ok : Gok K g) {d : D} {v : V} (h : g.Rep K d v) : LookR K g d v := by
  cases d with
  | lst xs => cases h with | lst a l r => exact ⟨_, _, rfl, ok.sub _ _ a, l, r⟩
  | _ => exact h
theorem RvR.lookR (ok : Gok K g') {r : Rv} {v : V} (h : RvR K g g' r v) : LookR K g' r.look v := by
  have aux : ∀ (c : Cn) a o, g'.H a = some o → g'.CRep K c o → v = .ref a → LookR K g' c.frz v := fun c a o h1 h2 e => by
    cases c with
    | lst xs => obtain ⟨l, vs, rfl, q⟩ := h2; exact ⟨a, vs, e, h1, l, q⟩
  cases r with
  | val d => exact Rep.lookR ok h
  | fresh c => obtain ⟨a, o, e, h1, h2, _⟩ := h; exact aux c a o h1 h2 e
  | own c => obtain ⟨a, o, e, h1, h2, _⟩ := h; exact aux c a o h1 h2 e
theorem LookR.int {i : Int} {v : V} (h : LookR K g (.int i) v) : v = .int i := by
  have h' : g.Rep K (.int i) v := h
  cases h'; rfl
theorem LookR.bl {i : Bool} {v : V} (h : LookR K g (.bl i) v) : v = .bl i := by
  have h' : g.Rep K (.bl i) v := h
  cases h'; rfl
theorem LookR.non {v : V} (h : LookR K g .non v) : v = .non := by
  have h' : g.Rep K .non v := h
  cases h'; rfl
theorem LookR.str {i : Str} {v : V} (h : LookR K g (.str i) v) : v = .str i := by
  have h' : g.Rep K (.str i) v := h
  cases h'; rfl
theorem LookR.tup (ok : Gok K g) {xs : List D} {v : V} (h : LookR K g (.tup xs) v) : ∃ a vs, v = .ref a ∧ SqT K g.R a vs ∧ SqT K g.H a vs ∧ xs.length ≤ sizeLine ∧ g.Reps K xs vs := by
  have h' : g.Rep K (.tup xs) v := h
  cases h' with | tup a l r => exact ⟨_, _, rfl, a, SqT.mono a ok.sub, l, r⟩
theorem LookR.lst {xs : List D} {v : V} (h : LookR K g (.lst xs) v) : ∃ a vs, v = .ref a ∧ g.H a = some (.lst vs) ∧ xs.length ≤ sizeLine ∧ g.Reps K xs vs := h
theorem LookR.scr (ok : Gok K g) {xs : List D} {v : V} (h : LookR K g (.scr xs) v) : ∃ a vs, v = .ref a ∧ SqL K g.H a vs ∧ xs.length ≤ sizeLine ∧ g.Reps K xs vs := by
  have h' : g.Rep K (.scr xs) v := h
  cases h' with | scr a l r => exact ⟨_, _, rfl, SqL.mono a ok.sub, l, r⟩
theorem LookR.after {d : D} {v : V} (h : LookR K g d v) (ok : Gok K g) (r : Rv) (hd : r.look = d) (hr : RvR K g1 g r v) (st : Stp g g') (ok' : Gok K g') : LookR K g' d v := by
  subst hd; exact (hr.after st).lookR ok'
mutual
/-- data as the library's data -/
theorem Rep.dp {H : Hp} {sa : List Addr} {R : Hp} (sub : ∀ a o, R a = some o → H a = some o) : ∀ {d : D} {v : V}, Px.Rep K sa R d v → d.toP.canLay0 = true → Dp K H v d.toP
  | .non, _, h, _ => by cases h; exact .non
  | .bl _, _, h, _ => by cases h; exact .bl _
  | .int _, _, h, _ => by cases h; exact .int _
  | .str _, _, h, _ => by cases h; exact .str _
  | .tup xs, _, h, c => by cases h with | tup a l r => exact .tup (SqT.mono a sub) (Reps.dp sub r (by simpa [D.toP, PyData.canLay0] using c))
  | .lst xs, _, h, c => by cases h with | lst a l r => exact .lst (SqL.of (sub _ _ a)) (Reps.dp sub r (by simpa [D.toP, PyData.canLay0] using c))
  | .scr xs, _, h, c => by cases h with | scr a l r => exact .lst (SqL.mono a sub) (Reps.dp sub r (by simpa [D.toP, PyData.canLay0] using c))
  | .dic _ _, _, h, _ => by cases h
  | .ref _, _, h, c => by simp [D.toP, PyData.canLay0] at c
theorem Reps.dp {H : Hp} {sa : List Addr} {R : Hp} (sub : ∀ a o, R a = some o → H a = some o) : ∀ {ds : List D} {vs : List V}, Px.Reps K sa R ds vs → PyData.canLayAll0 (D.toPs ds) = true → DpAll K H vs (D.toPs ds)
  | [], _, h, _ => by cases h; exact .nil
  | d :: ds, _, h, c => by
    have c' : d.toP.canLay0 = true ∧ PyData.canLayAll0 (D.toPs ds) = true := by simpa [D.toPs, PyData.canLayAll0] using c
    cases h with | cons r t => exact .cons (Rep.dp sub r c'.1) (Reps.dp sub t c'.2)
end
theorem LookR.dp (ok : Gok K g) {d : D} {v : V} (h : LookR K g d v) (c : d.toP.canLay0 = true) : Dp K g.H v d.toP := by
  cases d with
  | lst xs =>
    obtain ⟨a, vs, rfl, h1, l, r⟩ := h.lst
    exact .lst (SqL.of h1) (Reps.dp ok.sub r (by simpa [D.toP, PyData.canLay0] using c))
  | _ => exact Rep.dp ok.sub h c

/-! ### operations by values -/
def rOp2 (K : PySem.W.Frag) (E : XK) (sem : Rv → Rv → Option Rv) : R2 := fun x y H Q =>
  ∃ g0 g ra rb, g.H = H ∧ Gok K g ∧ RvR K g0 g ra x ∧ RvR K g0 g rb y ∧ Post K E (RvR K) g (Res.opt (sem ra rb) g.S) Q
def rOp1 (K : PySem.W.Frag) (E : XK) (sem : Rv → Option Rv) : V → Hp → VK → Prop := fun x H Q =>
  ∃ g0 g ra, g.H = H ∧ Gok K g ∧ RvR K g0 g ra x ∧ Post K E (RvR K) g (Res.opt (sem ra) g.S) Q
def Bop.op : Bop → Operator
  | .add => .Add | .sub => .Sub | .mul => .Mult | .fdiv => .FloorDiv | .mod => .Mod | .pow => .Pow | .shl => .LShift | .shr => .RShift | .band => .BitAnd | .bor => .BitOr
def Cop.op : Cop → CmpOp
  | .eq => .Eq | .ne => .NotEq | .lt => .Lt | .le => .LtE | .gt => .Gt | .ge => .GtE | .isN => .Is | .notN => .IsNot | .isB => .Is | .notB => .IsNot | .inn => .In | .nin => .NotIn
end
end Px

set_option Elab.async false
set_option linter.all false
set_option maxRecDepth 100000
/-! Px, part D: each operation by values is what the plain one says. -/
namespace Px
open PySem PySem.Spec PyProof.Rows L2
section
variable {X : Cx} {E : XK}
theorem Post.no {K : PySem.W.Frag} {α β : Type} {RR : Gh → Gh → α → β → Prop} {g : Gh} {S : Sto} {Q : β → Hp → Prop} (h : Post K E RR g (Res.opt none S) Q) : False := h

theorem op_addS : OpR X (binaryOp .Add) (rOp2 X.K E (opBin .add)) := by
  intro pins s σ H x y v u Q I rx ry ⟨g0, g, ra, rb, e, ok, r1, r2, h⟩
  subst e
  have l1 := r1.lookR ok
  have l2 := r2.lookR ok
  unfold opBin at h
  generalize ra.look = d1 at h l1
  generalize rb.look = d2 at h l2
  unfold opBinD at h
  split at h <;> first | exact (Post.no h).elim | contradiction | skip
  · cases l1.int; cases l2.int
    exact op_add pins s σ g.H _ _ v u Q I rx ry ⟨_, _, rfl, rfl, Post.val h ok rfl (.int _)⟩
  · cases l1.str; cases l2.str
    split at h
    · exact op_add_str pins s σ g.H _ _ v u Q I rx ry ⟨_, _, rfl, rfl, by assumption, Post.val h ok rfl (.str _)⟩
    · exact h.elim
  · obtain ⟨a, vs, rfl, s1, t1, z1, q1⟩ := l1.tup ok
    obtain ⟨b, us, rfl, s2, t2, z2, q2⟩ := l2.tup ok
    split at h
    case isFalse => exact h.elim
    rename_i hz
    refine op_catA pins s σ g.H _ _ v u Q I rx ry ⟨a, b, vs, us, rfl, rfl, t1, t2, by rw [← q1.length, ← q2.length]; exact hz, fun e => ?_, fun n e => ?_, fun _ _ => ?_⟩
    · subst e
      cases q1
      exact Post.val h ok rfl (.tup s2 (by simpa using hz) (by simpa using q2))
    · subst e
      cases q2
      exact Post.val h ok rfl (.tup s1 (by simpa using hz) (by simpa using q1))
    · exact Post.tup h ok rfl (q1.append q2) (by rw [List.length_append]; exact hz)
  · obtain ⟨a, vs, rfl, h1, z1, q1⟩ := l1.lst
    obtain ⟨b, us, rfl, h2, z2, q2⟩ := l2.lst
    split at h
    case isFalse => exact h.elim
    rename_i hz
    exact op_cat pins s σ g.H _ _ v u Q I rx ry ⟨a, b, vs, us, rfl, rfl, h1, h2, by rw [← q1.length, ← q2.length]; exact hz, Post.fresh h ok rfl (q1.append q2) (by rw [List.length_append]; exact hz)⟩
theorem op_subS : OpR X (binaryOp .Sub) (rOp2 X.K E (opBin .sub)) := by
  intro pins s σ H x y v u Q I rx ry ⟨g0, g, ra, rb, e, ok, r1, r2, h⟩
  subst e
  have l1 := r1.lookR ok
  have l2 := r2.lookR ok
  unfold opBin at h
  generalize ra.look = d1 at h l1
  generalize rb.look = d2 at h l2
  unfold opBinD at h
  split at h <;> first | exact (Post.no h).elim | contradiction | skip
  cases l1.int; cases l2.int
  exact op_sub pins s σ g.H _ _ v u Q I rx ry ⟨_, _, rfl, rfl, Post.val h ok rfl (.int _)⟩
theorem op_fdivS : OpR X (binaryOp .FloorDiv) (rOp2 X.K E (opBin .fdiv)) := by
  intro pins s σ H x y v u Q I rx ry ⟨g0, g, ra, rb, e, ok, r1, r2, h⟩
  subst e
  have l1 := r1.lookR ok
  have l2 := r2.lookR ok
  unfold opBin at h
  generalize ra.look = d1 at h l1
  generalize rb.look = d2 at h l2
  unfold opBinD at h
  split at h <;> first | exact (Post.no h).elim | contradiction | skip
  cases l1.int; cases l2.int
  split at h
  case isFalse => exact h.elim
  rename_i hz
  exact op_fdivW pins s σ g.H _ _ v u Q I rx ry ⟨_, _, rfl, rfl, hz, Post.val h ok rfl (.int _)⟩
theorem op_modS : OpR X (binaryOp .Mod) (rOp2 X.K E (opBin .mod)) := by
  intro pins s σ H x y v u Q I rx ry ⟨g0, g, ra, rb, e, ok, r1, r2, h⟩
  subst e
  have l1 := r1.lookR ok
  have l2 := r2.lookR ok
  unfold opBin at h
  generalize ra.look = d1 at h l1
  generalize rb.look = d2 at h l2
  unfold opBinD at h
  split at h <;> first | exact (Post.no h).elim | contradiction | skip
  cases l1.int; cases l2.int
  split at h
  case isFalse => exact h.elim
  rename_i hz
  exact op_mod pins s σ g.H _ _ v u Q I rx ry ⟨_, _, rfl, rfl, hz, Post.val h ok rfl (.int _)⟩
theorem op_powS : OpR X (binaryOp .Pow) (rOp2 X.K E (opBin .pow)) := by
  intro pins s σ H x y v u Q I rx ry ⟨g0, g, ra, rb, e, ok, r1, r2, h⟩
  subst e
  have l1 := r1.lookR ok
  have l2 := r2.lookR ok
  unfold opBin at h
  generalize ra.look = d1 at h l1
  generalize rb.look = d2 at h l2
  unfold opBinD at h
  split at h <;> first | exact (Post.no h).elim | contradiction | skip
  cases l1.int; cases l2.int
  split at h
  case isFalse => exact h.elim
  rename_i hz
  exact op_pow pins s σ g.H _ _ v u Q I rx ry ⟨_, _, rfl, rfl, hz, Post.val h ok rfl (.int _)⟩
end
end Px

set_option Elab.async false
set_option linter.all false
set_option maxRecDepth 100000
set_option maxHeartbeats 4000000
namespace Px
open PySem PySem.Spec PyProof.Rows L2
/-- t * n gives t itself -/
theorem tmul_same (l : Addr) (its : Array Value) (n : Nat) (dd : Option Addr) (sl : Array (Option Value)) (x : Int) (u : Tok) (c0 : (decide (x < -(2 ^ 63)) || decide (x ≥ 2 ^ 63)) = false) (c1 : (its.isEmpty || x == 1) = true) :
    Meets (Builtin.«tuple.__mul__» ⟨[.ref l, .int x u], []⟩) (fun _ R s => s.heap.get? l = some { cls := .type "tuple", dict := dd, data := .seq its n, slots := sl } ∧ R (.ok (.ret (Value.ref l))) s) :=
  .of_wp fun prog w A R s h => by
    obtain ⟨hp, g, d, tk, os⟩ := s
    obtain ⟨hl, h⟩ := h
    have f1 := AutoSeq1.idx_int
    wp_walk using wpAny_loadPart' hl
    refine wpAny_ite_false (decide_eq_false (by rw [c0]; exact Bool.false_ne_true)) ?_
    wp_walk using wpAny_loadPart' hl
    exact ⟨_, rfl, h⟩
/-- t * n, n not above 0: a new empty tuple -/
theorem tmul_none (l : Addr) (its : Array Value) (n : Nat) (dd : Option Addr) (sl : Array (Option Value)) (x : Int) (u : Tok) (c0 : (decide (x < -(2 ^ 63)) || decide (x ≥ 2 ^ 63)) = false) (c1 : (its.isEmpty || x == 1) = false)
    (c2 : (decide (x ≤ 0) || its.isEmpty) = true) :
    Meets (Builtin.«tuple.__mul__» ⟨[.ref l, .int x u], []⟩) (fun _ R s => s.heap.get? l = some { cls := .type "tuple", dict := dd, data := .seq its n, slots := sl } ∧
      R (.ok (.ret (Value.ref s.heap.objs.size))) { s with heap := s.heap.push { cls := Value.type "tuple", data := Data.seq #[] } }) :=
  .of_wp fun prog w A R s h => by
    obtain ⟨hp, g, d, tk, os⟩ := s
    obtain ⟨hl, h⟩ := h
    have f1 := AutoSeq1.idx_int
    wp_walk using wpAny_loadPart' hl
    refine wpAny_ite_false (decide_eq_false (by rw [c0]; exact Bool.false_ne_true)) ?_
    wp_walk using wpAny_loadPart' hl
    first
      | exact ⟨_, rfl, h⟩
      | (refine wpAny_ite_false (by simpa using c1) ?_
         wp_walk using wpAny_loadPart' hl
         exact ⟨_, rfl, h⟩)
section
variable {X : Cx} {E : XK}
theorem op_mulS : OpR X (binaryOp .Mult) (rOp2 X.K E (opBin .mul)) := by
  intro pins s σ H x y v u Q I rx ry ⟨g0, g, ra, rb, e, ok, r1, r2, h⟩
  subst e
  have l1 := r1.lookR ok
  have l2 := r2.lookR ok
  unfold opBin at h
  generalize ra.look = d1 at h l1
  generalize rb.look = d2 at h l2
  unfold opBinD at h
  split at h <;> first | exact (Post.no h).elim | contradiction | skip
  · cases l1.int; cases l2.int
    split at h
    case isFalse => exact h.elim
    rename_i hz
    exact op_mulW pins s σ g.H _ _ v u Q I rx ry ⟨_, _, rfl, rfl, hz, Post.val h ok rfl (.int _)⟩
  · obtain ⟨a, vs, rfl, s1, t1, z1, q1⟩ := l1.tup ok
    cases l2.int
    split at h
    case isFalse => exact h.elim
    rename_i xs j _ hz
    obtain ⟨z0, z2, z3⟩ := hz
    have hlen := q1.length
    by_cases hsame : vs = [] ∨ j = 1
    · have e1 : (List.replicate j.toNat xs).flatten = xs := by
        rcases hsame with e | e
        · subst e
          cases q1
          simp
        · subst e
          simp
      rw [e1] at h
      cases rx
      obtain ⟨t, rfl⟩ := ry
      obtain ⟨its, r, ⟨⟨cls, dd, data, sl⟩, ho, hc, n, hd⟩, hs⟩ := I.tuple t1
      simp only at hc hd
      subst hc hd
      have c0 : (decide (j < -(2 ^ 63)) || decide (j ≥ 2 ^ 63)) = false := by
        rw [Bool.or_eq_false_iff]; exact ⟨decide_eq_false (by omega), decide_eq_false (by omega)⟩
      have c1 : (its.toArray.isEmpty || j == 1) = true := by
        rcases hsame with e | e
        · subst e; cases r; rfl
        · subst e; simp
      refine wpAny_binaryOp_repeat_ref (T := "tuple") (U := "int") (by decide) ⟨_, ho, rfl⟩ (fun s' => typeIs_int s' j t) noFill_tuple_mul F.fills_int_mul F.slot_int_rmul repeat_tuple F.slot_int_index.lookup
        (call_meets F.slot_int_rmul (typeIs_int s j t) F.entry_int_rmul (F.args_int_rmul_2 _ _) (int_rmul_tuple j t a its.toArray n dd sl)
          ⟨ho, rfl, ⟨_, ho, rfl⟩, call_meets F.slot_tuple_mul ⟨_, ho, rfl⟩ F.entry_tuple_mul (F.args_tuple_mul_2 _ _) (tmul_same a its.toArray n dd sl j t c0 c1) ⟨ho, ?_⟩⟩)
      exact ⟨.ref a, g.H, I, rfl, Post.val h ok rfl (.tup s1 z1 q1)⟩
    · have hne : vs ≠ [] := fun e => hsame (.inl e)
      have hj : j ≠ 1 := fun e => hsame (.inr e)
      by_cases hneg : j ≤ 0
      · have e1 : (List.replicate j.toNat xs).flatten = [] := by
          have : j.toNat = 0 := by omega
          rw [this]; rfl
        rw [e1] at h
        cases rx
        obtain ⟨t, rfl⟩ := ry
        obtain ⟨its, r, ⟨⟨cls, dd, data, sl⟩, ho, hc, n, hd⟩, hs⟩ := I.tuple t1
        simp only at hc hd
        subst hc hd
        have c0 : (decide (j < -(2 ^ 63)) || decide (j ≥ 2 ^ 63)) = false := by
          rw [Bool.or_eq_false_iff]; exact ⟨decide_eq_false (by omega), decide_eq_false (by omega)⟩
        have c1 : (its.toArray.isEmpty || j == 1) = false := by
          rw [Bool.or_eq_false_iff]
          refine ⟨?_, beq_eq_false_iff_ne.mpr hj⟩
          cases r with
          | nil => exact absurd rfl hne
          | cons _ _ => rfl
        refine wpAny_binaryOp_repeat_ref (T := "tuple") (U := "int") (by decide) ⟨_, ho, rfl⟩ (fun s' => typeIs_int s' j t) noFill_tuple_mul F.fills_int_mul F.slot_int_rmul repeat_tuple F.slot_int_index.lookup
          (call_meets F.slot_int_rmul (typeIs_int s j t) F.entry_int_rmul (F.args_int_rmul_2 _ _) (int_rmul_tuple j t a its.toArray n dd sl)
            ⟨ho, rfl, ⟨_, ho, rfl⟩, call_meets F.slot_tuple_mul ⟨_, ho, rfl⟩ F.entry_tuple_mul (F.args_tuple_mul_2 _ _) (tmul_none a its.toArray n dd sl j t c0 c1 (by rw [decide_eq_true hneg]; rfl)) ⟨ho, ?_⟩⟩)
        refine ⟨.ref s.heap.objs.size, _, I.laid (t' := s.toks) (o := .tup []) (fun b ob q => Heap.get?_push_of_some _ q) (Nat.le_refl _) ?_, rfl, Post.tup h ok rfl .nil (Nat.zero_le _) _ (I.hok.fresh (Nat.le_refl _))⟩
        exact ⟨Nat.zero_le _, [], .nil, IsTup.new _ _⟩
      · refine op_repT pins s σ g.H _ _ v u Q I rx ry ⟨a, j, vs, rfl, rfl, t1, hne, by omega, z2, by rw [← hlen]; exact z3, ?_⟩
        refine Post.tup h ok rfl (q1.flatten_replicate _) ?_
        rw [PyProof.Rows.lm_len_rep_flat, sizeLine_eq]
        have a1 : j.toNat * xs.length ≤ 1000 * 1000 := Nat.mul_le_mul (by omega) z3
        omega
  · obtain ⟨a, vs, rfl, h1, z1, q1⟩ := l1.lst
    cases l2.int
    split at h
    case isFalse => exact h.elim
    rename_i hz
    refine op_rep pins s σ g.H _ _ v u Q I rx ry ⟨a, _, vs, rfl, rfl, h1, hz.1, hz.2.1, by rw [← q1.length]; exact hz.2.2, ?_⟩
    refine Post.fresh h ok rfl (q1.flatten_replicate _) ?_
    rw [PyProof.Rows.lm_len_rep_flat, Nat.mul_comm]
    exact hz.2.2
end
end Px

set_option Elab.async false
set_option linter.all false
set_option maxRecDepth 100000
set_option maxHeartbeats 1000000
/-! Px, part D3: a tuple or a list backwards. -/
namespace Px
open PySem PySem.Spec PyProof.Rows L2 HT
theorem adj_rev (n : Nat) : Builtin.Slice.sliceAdjust none none (-1) (n : Int) = ((n : Int) - 1, -1) := by
  unfold Builtin.Slice.sliceAdjust
  simp
theorem places_rev (n : Nat) : Builtin.Slice.slicePlaces ((n : Int) - 1) (-1) (-1) = n := by
  unfold Builtin.Slice.slicePlaces
  simp
  split <;> omega
section
variable {prog : Program} {w : World} {A : Around} {E : Value → Shared → Prop} {s : Shared}
theorem applied_rev {sl : Addr} {vs : Value} {n : Nat} {Q : Int × Int × Nat → Shared → Prop} (hs : s.heap.IsSliceOf sl .none .none vs) (ps : IsPart vs (some (-1)))
    (h : Q ((n : Int) - 1, -1, n) s) : wpAny (model prog w) A (Builtin.Slice.sliceApplied (.ref sl) (pure (n : Int))) Q E s := by
  obtain ⟨ob, e1, e2, e3⟩ := id hs
  unfold Builtin.Slice.sliceApplied Builtin.Slice.sliceFields
  refine wpAny_bind (wpAny_bind (wpAny_field e1 e3 (x := .none) rfl ?_))
  refine wpAny_bind (wpAny_field e1 e3 (x := .none) rfl ?_)
  refine wpAny_bind (wpAny_field e1 e3 (x := vs) rfl ?_)
  refine wpAny_pure ?_
  refine wpAny_bind (slicePart_ ps ?_)
  show wpAny _ _ (if (((-1 : Int)) == 0) = true then _ else _) _ _ s
  rw [if_neg (by decide)]
  refine wpAny_bind (slicePart_none ?_)
  refine wpAny_bind (slicePart_none ?_)
  refine wpAny_bind (wpAny_pure ?_)
  show wpAny _ _ (match Builtin.Slice.sliceAdjust none none (-1) (n : Int) with | (a, b) => pure (a, (-1 : Int), Builtin.Slice.slicePlaces a b (-1))) _ _ s
  rw [adj_rev n]
  show wpAny _ _ (pure ((n : Int) - 1, (-1 : Int), Builtin.Slice.slicePlaces ((n : Int) - 1) (-1) (-1))) _ _ s
  rw [places_rev]
  exact wpAny_pure h
theorem fm_congr {α β : Type} {f g : α → Option β} : ∀ {l : List α}, (∀ x ∈ l, f x = g x) → l.filterMap f = l.filterMap g
  | [], _ => rfl
  | x :: l, h => by
    rw [List.filterMap_cons, List.filterMap_cons, h x List.mem_cons_self, fm_congr fun y hy => h y (List.mem_cons_of_mem _ hy)]
theorem pick_rev (xs : Array Value) : ((List.range xs.size).filterMap fun (m : Nat) => xs[((xs.size : Int) - 1 + (m : Int) * -1).toNat]?).toArray = xs.toList.reverse.toArray := by
  congr 1
  have e : ∀ m ∈ List.range xs.size, (fun (m : Nat) => xs[((xs.size : Int) - 1 + (m : Int) * -1).toNat]?) m = ((fun i => xs[i]?) ∘ fun k => xs.size - 1 - k) m := fun m hm => by
    have := List.mem_range.mp hm
    have e : ((xs.size : Int) - 1 + (m : Int) * -1).toNat = xs.size - 1 - m := by omega
    show xs[((xs.size : Int) - 1 + (m : Int) * -1).toNat]? = xs[xs.size - 1 - m]?
    rw [e]
  rw [fm_congr e, ← List.filterMap_map, PySem.W.krv_range, List.filterMap_reverse, PySem.W.krv_all]
theorem getItem_tuple_back {t sl : Addr} {items : Array Value} {vs : Value} {Q : Value → Shared → Prop} (ht : IsTup s.heap t items) (hs : s.heap.IsSliceOf sl .none .none vs) (ps : IsPart vs (some (-1)))
    (h : Q (.ref s.heap.objs.size) { s with heap := s.heap.push { cls := .type "tuple", data := .seq items.toList.reverse.toArray } })
    (hsz : items.size ≤ sizeLine) : wpAny (model prog w) A (getItem (.ref t) (.ref sl)) Q E s := by
  have room : sizeOk (.seq items.toList.reverse.toArray) := by
    show items.toList.reverse.toArray.size ≤ sizeLine
    rw [List.size_toArray, List.length_reverse, Array.length_toList]
    exact hsz
  obtain ⟨ob, e1, e2, e3⟩ := id hs
  have isS : s.TypeIs (.ref sl) "slice" := ⟨ob, e1, e2⟩
  unfold getItem
  try (with_reducible refine wpAny_holding ?_)
  first | refine wpAny_bind (wpAny_pure ?_) | skip
  refine wpAny_bind (wpAny_sequenceKey ht.typeIs (by decide) ?_)
  have slot := PyProof.Rows.slot_tuple_getitem
  refine wpAny_bind (wpAny_callSpecial?_slot (name := Str.ofString "__getitem__") ht.typeIs slot (wpAny_call_entry slot ht.typeIs entry_tuple_getitem ?_ (args_tuple_getitem _ _)))
  show wpAny _ _ (Builtin.Tuple.tupleItemsOf (.ref t) >>= _) _ _ s
  refine wpAny_bind (tupleItemsOf_ ht ?_)
  refine wpAny_bind (wpAny_typeOf isS ?_)
  rw [if_pos (by decide)]
  refine wpAny_bind (applied_rev (n := items.size) hs ps ?_)
  show wpAny _ _ (if (((items.size : Int) - 1) == 0 && (-1 : Int) == 1 && items.size == items.size) = true then _ else _) _ _ s
  rw [if_neg (by simp), pick_rev]
  first
    | exact wpAny_bind (m := Builtin.Tuple.tupleExact _) (wpAny_newObj_type (wpAny_pure ⟨_, rfl, wpAny_pure h⟩) room)
    | exact wpAny_bind (m := Builtin.Tuple.tupleExact _) (wpAny_newObj_type (wpAny_bind (wpAny_pure (wpAny_pure ⟨_, rfl, wpAny_pure h⟩))) room)
    | exact wpAny_bind (wpAny_bind (m := Builtin.Tuple.tupleExact _) (wpAny_newObj_type (wpAny_pure (wpAny_pure ⟨_, rfl, wpAny_pure h⟩)) room))
    | exact wpAny_bind (wpAny_bind (m := Builtin.Tuple.tupleExact _) (wpAny_newObj_type (wpAny_pure ⟨_, rfl, wpAny_pure h⟩) room))
end
/-- xs[::-1] -/
def tBack (K : PySem.W.Frag) (te : TE) : TE := fun σ H Q => te σ H fun x H1 => ∃ a xs, x = .ref a ∧ ((SqL K H1 a xs ∧ ∀ p, H1 p = none → Q (.ref p) (upd H1 p (.lst xs.reverse))) ∨
  (SqT K H1 a xs ∧ xs.length ≤ sizeLine ∧ ∀ p, H1 p = none → Q (.ref p) (upd H1 p (.tup xs.reverse))))
theorem pe_back {X : Cx} {e : Expr} {te : TE} {k : Nat} {p1 p2 p3 pos : Pos} (he : PE X e te) : PE X (.Subscript e (.Slice none none (some (.UnaryOp .USub (.Constant (.int 1) k p1) p2)) p3) pos) (tBack X.K te) := by
  refine ⟨fun pins s σ H Q I h => ?_⟩
  refine Subscript_ (thn (he.run pins s σ H _ I h) fun v s1 ⟨x, H1, I1, r1, a, xs, ex, q1⟩ => ?_)
  subst ex
  cases r1
  have step : PO X (some (.UnaryOp .USub (.Constant (.int 1) k p1) p2)) (tPart (tUn (rU fun i => .int (-i)) (tC (.int 1)))) := po_some (pe_un un_neg pe_int)
  refine wpAny_Slice (thn (po_none.run pins s1 σ H1 (fun o H2 => o = none ∧ H2 = H1) I1 ⟨rfl, rfl⟩) fun v1 s2 ⟨o1, H2, I2, i1, z1, w1⟩ => ?_)
  subst z1 w1
  refine thn (po_none.run pins s2 σ H2 (fun o H3 => o = none ∧ H3 = H2) I2 ⟨rfl, rfl⟩) fun v2 s3 ⟨o2, H3, I3, i2, z2, w2⟩ => ?_
  subst z2 w2
  refine thn (step.run pins s3 σ H3 (fun o H4 => o = some (-1) ∧ H4 = H3) I3 ⟨1, rfl, -1, rfl, rfl, rfl⟩) fun v3 s4 ⟨o3, H4, I4, i3, z3, w3⟩ => ?_
  subst z3 w3
  cases i1
  cases i2
  have new := Heap.IsSliceOf.new s4.heap Value.none Value.none v3
  have I5 : Inv X pins σ H4 { s4 with heap := s4.heap.push { cls := .type "slice", data := .fields #[.none, .none, v3] } } := I4.kept (t' := s4.toks) fun b ob q => Heap.get?_push_of_some _ q
  show wpAny (model X.prog X.w) X.A (subscriptTail e (.Slice none none (some (.UnaryOp .USub (.Constant (.int 1) k p1) p2)) p3) (.ref a) (.ref s4.heap.objs.size)) (EP X pins σ Q) X.xe { s4 with heap := s4.heap.push { cls := .type "slice", data := .fields #[.none, .none, v3] } }
  rcases q1 with ⟨hx, q⟩ | ⟨hx, hn, q⟩
  · obtain ⟨its, r, ht, hz⟩ := I5.list hx
    have hlen := r.length
    refine tail_any (ops := [.ref a, .ref s4.heap.objs.size]) ht.isList.typeIs (PySem.slot_list_getitem.lookup) ?_ (by with_unfolding_all rfl)
    refine wpAny_getItem_list_slice ht.isList new .none .none i3 (by decide) ?_ (by rw [List.size_toArray]; omega)
    rw [PySem.W.krv_pick]
    refine ⟨.ref _, _, I5.laid (t' := s4.toks) (o := .lst xs.reverse) (fun b ob q => Heap.get?_push_of_some _ q) (Nat.le_refl _) ?_, rfl, q _ (I5.hok.fresh (Nat.le_refl _))⟩
    exact ⟨by rw [List.length_reverse]; exact hz, _, 0, r.reverse, Heap.get?_push_size _ rfl⟩
  · obtain ⟨its, r, ht, hz⟩ := I5.tuple hx
    have hlen := r.length
    refine tail_any (ops := [.ref a, .ref s4.heap.objs.size]) ht.typeIs (PyProof.Rows.slot_tuple_getitem.lookup) ?_ (by with_unfolding_all rfl)
    refine getItem_tuple_back ht new i3 ?_ (by rw [List.size_toArray]; omega)
    refine ⟨.ref _, _, I5.laid (t' := s4.toks) (o := .tup xs.reverse) (fun b ob q => Heap.get?_push_of_some _ q) (Nat.le_refl _) ?_, rfl, q _ (I5.hok.fresh (Nat.le_refl _))⟩
    exact ⟨by rw [List.length_reverse]; exact hz, _, r.reverse, IsTup.new _ _⟩
end Px

set_option Elab.async false
set_option linter.all false
set_option maxRecDepth 100000
set_option maxHeartbeats 1000000
/-! Px, part D4: bits; what is in a tuple; a list extended by a tuple; what sorted tells. -/
namespace Px
open PySem PySem.Spec PyProof.Rows L2
section
variable {X : Cx} {E : XK}
theorem op_shlS : OpR X (binaryOp .LShift) (rOp2 X.K E (opBin .shl)) := by
  intro pins s σ H x y v u Q I rx ry ⟨g0, g, ra, rb, e, ok, r1, r2, h⟩
  subst e
  have l1 := r1.lookR ok
  have l2 := r2.lookR ok
  unfold opBin at h
  generalize ra.look = d1 at h l1
  generalize rb.look = d2 at h l2
  unfold opBinD at h
  split at h <;> first | exact (Post.no h).elim | contradiction | skip
  cases l1.int; cases l2.int
  split at h
  case isFalse => exact h.elim
  rename_i hz
  exact op_shl pins s σ g.H _ _ v u Q I rx ry ⟨_, _, rfl, rfl, hz, Post.val h ok rfl (.int _)⟩
theorem op_shrS : OpR X (binaryOp .RShift) (rOp2 X.K E (opBin .shr)) := by
  intro pins s σ H x y v u Q I rx ry ⟨g0, g, ra, rb, e, ok, r1, r2, h⟩
  subst e
  have l1 := r1.lookR ok
  have l2 := r2.lookR ok
  unfold opBin at h
  generalize ra.look = d1 at h l1
  generalize rb.look = d2 at h l2
  unfold opBinD at h
  split at h <;> first | exact (Post.no h).elim | contradiction | skip
  cases l1.int; cases l2.int
  split at h
  case isFalse => exact h.elim
  rename_i hz
  exact op_shr pins s σ g.H _ _ v u Q I rx ry ⟨_, _, rfl, rfl, hz, Post.val h ok rfl (.int _)⟩
theorem op_bandS : OpR X (binaryOp .BitAnd) (rOp2 X.K E (opBin .band)) := by
  intro pins s σ H x y v u Q I rx ry ⟨g0, g, ra, rb, e, ok, r1, r2, h⟩
  subst e
  have l1 := r1.lookR ok
  have l2 := r2.lookR ok
  unfold opBin at h
  generalize ra.look = d1 at h l1
  generalize rb.look = d2 at h l2
  unfold opBinD at h
  split at h <;> first | exact (Post.no h).elim | contradiction | skip
  cases l1.int; cases l2.int
  exact op_and pins s σ g.H _ _ v u Q I rx ry ⟨_, _, rfl, rfl, Post.val h ok rfl (.int _)⟩
theorem op_borS : OpR X (binaryOp .BitOr) (rOp2 X.K E (opBin .bor)) := by
  intro pins s σ H x y v u Q I rx ry ⟨g0, g, ra, rb, e, ok, r1, r2, h⟩
  subst e
  have l1 := r1.lookR ok
  have l2 := r2.lookR ok
  unfold opBin at h
  generalize ra.look = d1 at h l1
  generalize rb.look = d2 at h l2
  unfold opBinD at h
  split at h <;> first | exact (Post.no h).elim | contradiction | skip
  cases l1.int; cases l2.int
  exact op_or pins s σ g.H _ _ v u Q I rx ry ⟨_, _, rfl, rfl, Post.val h ok rfl (.int _)⟩
/-- what is in a tuple of data -/
theorem op_inT (hu : X.A.units + 65 < cLine) : OpR X (compareOp .In) (fun x y H Q => ∃ d ds, Dp X.K H x d ∧ Dp X.K H y (.tuple ds) ∧ SeqAt.shaped d = true ∧ SeqAt.shaped (.list ds) = true ∧ Q (.bl (ds.any fun z => PyData.eqv z d)) H) := by
  intro pins s σ H x y v u Q I rx ry h
  obtain ⟨d, ds, hd, he, sd, se, q⟩ := h
  obtain ⟨as, r1⟩ := Dp.reads I d x v hd rx
  obtain ⟨bs, r2⟩ := Dp.reads I (.tuple ds) y u he ry
  have hl : PyData.canLayAll0 ds = true := SeqAt.canLay_of_shaped se
  exact SeqAt.in_tuple_reads r2 r1 hl (SeqAt.canLay_of_shaped sd) (room_in_shaped sd hu) ⟨.bl _, H, I, rfl, q⟩
theorem op_ninT (hu : X.A.units + 65 < cLine) : OpR X (compareOp .NotIn) (fun x y H Q => ∃ d ds, Dp X.K H x d ∧ Dp X.K H y (.tuple ds) ∧ SeqAt.shaped d = true ∧ SeqAt.shaped (.list ds) = true ∧ Q (.bl (!ds.any fun z => PyData.eqv z d)) H) := by
  intro pins s σ H x y v u Q I rx ry h
  obtain ⟨d, ds, hd, he, sd, se, q⟩ := h
  obtain ⟨as, r1⟩ := Dp.reads I d x v hd rx
  obtain ⟨bs, r2⟩ := Dp.reads I (.tuple ds) y u he ry
  have hl : PyData.canLayAll0 ds = true := SeqAt.canLay_of_shaped se
  exact SeqAt.notIn_tuple_reads r2 r1 hl (SeqAt.canLay_of_shaped sd) (room_in_shaped sd hu) ⟨.bl _, H, I, rfl, q⟩
theorem ext_tup (l : Addr) (its : Array Value) (n : Nat) (b : Addr) (zs : Array Value) (m : Nat) (dd : Option Addr) (sl : Array (Option Value)) (c0 : ¬(!its.isEmpty && Builtin.List.listTooLong (its.size + zs.size)) = true) (c1 : its.size ≤ sizeLine) (c2 : its.size + zs.size ≤ sizeLine + 1) :
    Meets (Builtin.«list.extend» ⟨[.ref l, .ref b], []⟩) (fun _ R z => z.heap.get? l = some { cls := .type "list", dict := none, data := .seq its n, slots := #[] } ∧ z.heap.get? b = some { cls := .type "tuple", dict := dd, data := .seq zs m, slots := sl } ∧ R (.ok (.ret Value.none)) { z with heap := z.heap.update l (Obj.mapSeq fun x => x ++ zs), toks := z.toks }) :=
  .of_wp fun prog w A R z h => by
    obtain ⟨hp, gg, dd, tt, oo⟩ := z
    obtain ⟨hl, hb, h⟩ := h
    have f1 := AutoSeq1.idx_int
    have f2 := AutoSeq1.sub_tuple_tuple
    have f3 := AutoSeq1.sub_list_list
    have f4 := AutoSeq1.sub_tuple_list
    have f5 := AutoSeq1.sub_list_tuple
    have z2 : (its ++ zs).size ≤ sizeLine + 1 := by rw [Array.size_append]; exact c2
    wp_walk using (wpAny_updateSeq hl rfl (hz := c1) (_hz' := z2)), AutoSeq1.wpAny_loadPart' hl, AutoSeq1.wpAny_loadPart' hb
    exact ⟨_, rfl, h⟩
/-- a list is extended by a tuple's items -/
def rExtT (K : PySem.W.Frag) : V → List V → Hp → VK → Prop := fun x vs H Q => ∃ l b xs zs, x = .ref l ∧ vs = [.ref b] ∧ H l = some (.lst xs) ∧ SqT K H b zs ∧ xs.length + zs.length ≤ sizeLine ∧ Q .non (upd H l (.lst (xs ++ zs)))
theorem mt_extT : MtM X "list.extend" (rExtT X.K) := by
  intro pins s σ H x vs v us Q I rx rv h
  obtain ⟨l, b, xs, zs, rfl, rfl, hl, hb, hz, q⟩ := h
  cases rx
  obtain ⟨u, rfl, ru⟩ := rv.one
  cases ru
  obtain ⟨z, its, n, r, k1, e⟩ := I.lstM hl
  obtain ⟨its2, r2, ⟨⟨cc, dd, dt, sl⟩, e2, c2, n2, d2⟩, k2⟩ := I.tuple hb
  have e1 := r.length
  have e3 := r2.length
  have sz : its.toArray.size + its2.toArray.size ≤ sizeLine := by rw [List.size_toArray, List.size_toArray]; omega
  have nl : ¬ (!its.toArray.isEmpty && Builtin.List.listTooLong (its.toArray.size + its2.toArray.size)) = true := by
    rw [notLongL sz, Bool.and_false]
    exact Bool.false_ne_true
  have c2' : cc = .type "tuple" := c2
  have d2' : dt = .seq its2.toArray n2 := d2
  subst c2' d2'
  refine call_meets F.slot_list_extend ⟨_, e, rfl⟩ F.entry_list_extend (F.args_list_extend_2 _ _) (ext_tup l its.toArray n b its2.toArray n2 dd sl nl (by rw [List.size_toArray]; omega) (by omega)) ⟨e, e2, ?_⟩
  exact ⟨.non, _, I.lset (its' := its ++ its2) hl e (by simp) (r.append r2) (by rw [List.length_append]; omega), rfl, q⟩
end
end Px

set_option Elab.async false
set_option linter.all false
set_option maxRecDepth 100000
set_option maxHeartbeats 1000000
/-! Px, part D5: what sorted tells of a tuple of pairs. -/
namespace Px
open PySem PySem.Spec PyProof.Rows L2 Srt
section
variable {prog : Program} {w : World} {A : Around} {E : Value → Shared → Prop} {s : Shared}
theorem collect_tupS {Q : List Value → Shared → Prop} (it : Addr) {o : Obj} {items : Array Value} {n : Nat}
    (ho : s.heap.get? it = some o) (hc : o.cls = .type "tuple") (hd : o.data = .seq items n) (hsz : items.size ≤ sizeLine)
    (hQ : ∀ h', (∀ b o', s.heap.get? b = some o' → h'.get? b = some o') → s.heap.objs.size ≤ h'.objs.size → Q items.toList { s with heap := h' }) :
    wpAny (model prog w) A (collect (.ref it)) Q E s := by
  unfold collect
  refine wpAny_bind (wpAny_runValue (codeAny_builtin F.entry_proto_collect ?_))
  rw [Around.under_plainId F.plain_proto_collect _]
  show wpAny _ A.in1 (newList [] >>= fun l => again (.builtin "list.__iadd__" ⟨[l, .ref it], []⟩)) _ _ s
  refine wpAny_bind (wpAny_newObj_type ?_)
  refine wpAny_pure ⟨plainId_quiet F.plain_list_iadd _, codeAny_builtin F.entry_list_iadd ?_⟩
  rw [Around.under_plainId F.plain_list_iadd _]
  show wpAny _ A.in1 (Builtin.List.listExtendWith (.ref s.heap.objs.size) (.ref it) (.ref s.heap.objs.size)) _ _ _
  have hS : (s.heap.push { cls := .type "list", data := .seq ([] : List Value).toArray }).get? s.heap.objs.size = some { cls := .type "list", data := .seq #[] 0 } := Heap.get?_push_size _ rfl
  have hS₂ := Heap.get?_update_self (Obj.mapSeq (· ++ items)) hS rfl
  have fin' : wpAny (model prog w) A (match Value.ref s.heap.objs.size with
      | Value.ref a => do
        match (← load a).data with
          | Data.seq xs _ => pure xs.toList
          | _ => unsupported "internal:collect"
      | _ => unsupported "internal:collect") Q E { s with heap := (s.heap.push { cls := .type "list", data := .seq ([] : List Value).toArray }).update s.heap.objs.size (Obj.mapSeq (· ++ items)) } := by
    show wpAny _ A (load s.heap.objs.size >>= _) _ _ _
    refine wpAny_bind (wpAny_load hS₂ ?_)
    refine wpAny_pure ?_
    have e : ((#[] : Array Value) ++ items).toList = items.toList := by simp
    show Q ((#[] : Array Value) ++ items).toList _
    rw [e]
    refine hQ _ (fun b o' hb => ?_) ?_
    · exact (Heap.get?_update_other _ _ (Nat.ne_of_gt (Heap.lt_size hb))).trans (Heap.get?_push_of_some _ hb)
    · rw [Heap.size_update, size_push']
      exact Nat.le_succ _
  refine wpAny_mono (wpAny_extend_seq (hsz := hsz) (A := A) (R := fun r s' => r = .ok (.ret (.ref s.heap.objs.size)) ∧ s' = { s with heap := (s.heap.push { cls := .type "list", data := .seq ([] : List Value).toArray }).update s.heap.objs.size (Obj.mapSeq (· ++ items)) })
    (s := { s with heap := s.heap.push { cls := .type "list", data := .seq ([] : List Value).toArray } }) _ it _ 0 (.inr rfl) hS (Heap.get?_push_of_some _ ho) hc hd ⟨rfl, rfl⟩) (fun fin s' h => ?_) (fun e s' h => ?_)
  · cases fin with
    | done f =>
      obtain ⟨e, rfl⟩ := h
      cases e
      exact fin'
    | again c' => exact ⟨h.1, codeAny_mono h.2 fun r s'' hr => by obtain ⟨rfl, rfl⟩ := hr; exact fin'⟩
  · exact absurd h.1 (by simp)
theorem sorted_tupO {l : Addr} {o : Obj} {n : Nat} {vs : List Value} {k : Value → Int × Int} {Q : Value → Shared → Prop} (ho : s.heap.get? l = some o) (hc : o.cls = .type "tuple") (hd : o.data = .seq vs.toArray n) (hz : vs.length ≤ sizeLine) (hp : ∀ v ∈ vs, IsPair s.heap v (k v).1 (k v).2)
    (h : ∀ (h' : Heap) (d : Addr) (out : List Value), SrtO.Srtd (fun v u => SrtO.lexB (k v) (k u)) out → SrtO.Stb (fun v u => SrtO.lexB (k v) (k u)) out vs → (∀ b o, s.heap.get? b = some o → h'.get? b = some o) → s.heap.objs.size ≤ d → (∃ n, h'.get? d = some (seqObj "list" out.toArray n)) → Q (.ref d) { s with heap := h' }) :
    wpAny (model prog w) A (call (.builtin "sorted") [.ref l]) Q E s := by
  refine Calls.call_function_entry kind_sorted plain_sorted entry_sorted (args_sorted1 _) ?_
  unfold Builtin.«sorted»
  refine wpAny_bind (m := checkCount "sorted" 1 1 _) (wpAny_pure ?_)
  refine wpAny_bind (collect_tupS l ho hc hd (by simpa using hz) fun h1 k1 z1 => ?_)
  rw [List.toList_toArray]
  refine wpAny_bind (wpAny_newList ?_ hz)
  have hoL : (h1.push (seqObj "list" vs.toArray 0)).get? h1.objs.size = some (seqObj "list" vs.toArray 0) := Heap.get?_push_size _ rfl
  have keep : ∀ b o, s.heap.get? b = some o → b ≠ h1.objs.size ∧ (h1.push (seqObj "list" vs.toArray 0)).get? b = some o := fun b o q => ⟨Nat.ne_of_lt (Heap.lt_size (k1 b o q)), Heap.get?_push_of_some _ (k1 b o q)⟩
  show wpAny _ _ _ _ _ { s with heap := h1.push (seqObj "list" vs.toArray 0) }
  refine wpAny_bind (wpAny_holding (wpAny_call_entry slot_list_sort ⟨_, hoL, rfl⟩ entry_list_sort (SrtO.list_sort_ord (SrtO.swo_lex k) hoL hz (fun h2 => ?_) fun out hs hb => ⟨_, rfl, ?_⟩) (args_list_sort _)))
  · refine SrtO.pairs_sortableO (s := { s with heap := h1.push (seqObj "list" vs.toArray 0) }) (by omega) (fun v hm => (hp v hm).keeps fun b o e _ => (keep b o e).2) fun o e => ?_
    have e' : some o = some (seqObj "list" vs.toArray 0) := e.symm.trans hoL
    cases e'
    intro c
    exact absurd (Value.type.inj c) (by decide)
  · exact wpAny_pure ⟨_, rfl, h _ _ out hs hb (fun b o e => (sortedHeap_old (keep b o e).1 (Nat.lt_of_lt_of_le (Heap.lt_size (k1 b o e)) (by rw [size_push']; exact Nat.le_succ _))).trans (keep b o e).2) z1 (sortedHeap_at hoL)⟩
end
end Px

set_option Elab.async false
set_option linter.all false
set_option maxRecDepth 100000
set_option maxHeartbeats 4000000
namespace Px
open PySem PySem.Spec PyProof.Rows L2
theorem LookR.isNon {K : PySem.W.Frag} {g : Gh} {d : D} {v : V} (h : LookR K g d v) : decide (v = .non) = d.isNon := by
  cases d with
  | non => cases h.non; rfl
  | bl b => cases h.bl; rfl
  | int b => cases h.int; rfl
  | str b => cases h.str; rfl
  | lst xs => obtain ⟨a, vs, rfl, _⟩ := h.lst; rfl
  | tup xs => have h' : g.Rep K (.tup xs) v := h; cases h'; rfl
  | scr xs => have h' : g.Rep K (.scr xs) v := h; cases h'; rfl
  | dic _ _ => have h' : g.Rep K (.dic _ _) v := h; cases h'
  | ref i => have h' : g.Rep K (.ref i) v := h; cases h'; rfl
def semC (o : Cop) (a b : Rv) : Option Rv := (opCmp o a b).map fun k => .val (.bl k)
theorem shaped_lay {d : PyData} (h : SeqAt.shaped d = true) : d.canLay0 = true := SeqAt.canLay_of_shaped h
section
variable {X : Cx} {E : XK}
theorem reps_int {K : PySem.W.Frag} {sa : List Addr} {R : Hp} : ∀ {xs : List D} {vs : List V} {ns : List Int}, Reps K sa R xs vs → dInts xs = some ns → vs = ns.map V.int
  | [], vs, ns, r, e => by cases r; cases e; rfl
  | x :: xs, vs, ns, r, e => by
    cases r with
    | cons r1 r2 =>
    cases x <;> first | (cases e; done) | skip
    rename_i z
    have e' : (dInts xs).map (z :: ·) = some ns := e
    obtain ⟨ms, e2, rfl⟩ := Option.map_eq_some_iff.mp e'
    cases r1
    rw [reps_int r2 e2]
    rfl
theorem gt_tup (room : X.A.units < cLine) {pins : List (Addr × Obj)} {s : Shared} {σ : L2.St} {H : Hp} {a b : Addr} {ns ms : List Int} {Q : VK} (I : Inv X pins σ H s) (ha : SqT X.K H a (ns.map V.int)) (hb : SqT X.K H b (ms.map V.int)) (q : Q (.bl (gtV ns ms)) H) :
    wpAny (model X.prog X.w) X.A (compareOp .Gt (.ref a) (.ref b)) (EP X pins σ Q) X.xe s := by
  obtain ⟨us, ru, tu, _⟩ := I.tuple ha
  obtain ⟨ws, rw', tw, _⟩ := I.tuple hb
  have iu : IntsAre us ns := Vals.ints ru
  have iw : IntsAre ws ms := Vals.ints rw'
  have lu : us.toArray.size = ns.length := by rw [List.size_toArray, iu.length]
  have lw : ws.toArray.size = ms.length := by rw [List.size_toArray, iw.length]
  have nu : ∀ j (k : j < us.toArray.size), ∃ t, us.toArray[j] = .int (ns.getD j 0) t := fun j k => PyProof.Rows.IntsAre.int_at iu _ _ (by rw [List.size_toArray] at k; simp [k])
  have nw : ∀ j (k : j < ws.toArray.size), ∃ t, ws.toArray[j] = .int (ms.getD j 0) t := fun j k => PyProof.Rows.IntsAre.int_at iw _ _ (by rw [List.size_toArray] at k; simp [k])
  have same : ∀ j, (ns.getD j 0 == ms.getD j 0) = decide (ns.getD j 0 = ms.getD j 0) := fun j => by
    by_cases k : ns.getD j 0 = ms.getD j 0
    · rw [decide_eq_true k, k]; exact beq_self_eq_true _
    · rw [decide_eq_false k]; exact beq_eq_false_iff_ne.mpr k
  have key := Ob.RcOp.tuples_gt (A := X.A) (s := s) (e := fun j => decide (ns.getD j 0 = ms.getD j 0)) (r := fun j => decide (ms.getD j 0 < ns.getD j 0)) tu tw room
    (fun j h1 h2 => by
      obtain ⟨t1, w1⟩ := nu j h1
      obtain ⟨t2, w2⟩ := nw j h2
      rw [w1, w2, ← same j]
      exact SeqAt.EqAt.int_int _ _ _ _)
    (fun j h1 h2 _ => by
      obtain ⟨t1, w1⟩ := nu j h1
      obtain ⟨t2, w2⟩ := nw j h2
      rw [w1, w2]
      exact Ob.RcOp.gt_int _ _ _ _)
  rw [lu, lw] at key
  exact key X.prog X.w X.xe (EP X pins σ Q) ⟨.bl _, H, I, rfl, q⟩
theorem ge_tup (room : X.A.units < cLine) {pins : List (Addr × Obj)} {s : Shared} {σ : L2.St} {H : Hp} {a b : Addr} {ns ms : List Int} {Q : VK} (I : Inv X pins σ H s) (ha : SqT X.K H a (ns.map V.int)) (hb : SqT X.K H b (ms.map V.int)) (q : Q (.bl (geV ns ms)) H) :
    wpAny (model X.prog X.w) X.A (compareOp .GtE (.ref a) (.ref b)) (EP X pins σ Q) X.xe s := by
  obtain ⟨us, ru, tu, _⟩ := I.tuple ha
  obtain ⟨ws, rw', tw, _⟩ := I.tuple hb
  have iu : IntsAre us ns := Vals.ints ru
  have iw : IntsAre ws ms := Vals.ints rw'
  have lu : us.toArray.size = ns.length := by rw [List.size_toArray, iu.length]
  have lw : ws.toArray.size = ms.length := by rw [List.size_toArray, iw.length]
  have nu : ∀ j (k : j < us.toArray.size), ∃ t, us.toArray[j] = .int (ns.getD j 0) t := fun j k => PyProof.Rows.IntsAre.int_at iu _ _ (by rw [List.size_toArray] at k; simp [k])
  have nw : ∀ j (k : j < ws.toArray.size), ∃ t, ws.toArray[j] = .int (ms.getD j 0) t := fun j k => PyProof.Rows.IntsAre.int_at iw _ _ (by rw [List.size_toArray] at k; simp [k])
  have same : ∀ j, (ns.getD j 0 == ms.getD j 0) = decide (ns.getD j 0 = ms.getD j 0) := fun j => by
    by_cases k : ns.getD j 0 = ms.getD j 0
    · rw [decide_eq_true k, k]; exact beq_self_eq_true _
    · rw [decide_eq_false k]; exact beq_eq_false_iff_ne.mpr k
  have key := Ob.RcOp.tuples_ge (A := X.A) (s := s) (e := fun j => decide (ns.getD j 0 = ms.getD j 0)) (r := fun j => decide (ms.getD j 0 ≤ ns.getD j 0)) tu tw room
    (fun j h1 h2 => by
      obtain ⟨t1, w1⟩ := nu j h1
      obtain ⟨t2, w2⟩ := nw j h2
      rw [w1, w2, ← same j]
      exact SeqAt.EqAt.int_int _ _ _ _)
    (fun j h1 h2 _ => by
      obtain ⟨t1, w1⟩ := nu j h1
      obtain ⟨t2, w2⟩ := nw j h2
      rw [w1, w2]
      exact Ob.RcOp.ge_int _ _ _ _)
  rw [lu, lw] at key
  exact key X.prog X.w X.xe (EP X pins σ Q) ⟨.bl _, H, I, rfl, q⟩
theorem lt_tup (room : X.A.units < cLine) {pins : List (Addr × Obj)} {s : Shared} {σ : L2.St} {H : Hp} {a b : Addr} {ns ms : List Int} {Q : VK} (I : Inv X pins σ H s) (ha : SqT X.K H a (ns.map V.int)) (hb : SqT X.K H b (ms.map V.int)) (q : Q (.bl (ltV ns ms)) H) :
    wpAny (model X.prog X.w) X.A (compareOp .Lt (.ref a) (.ref b)) (EP X pins σ Q) X.xe s := by
  obtain ⟨us, ru, tu, _⟩ := I.tuple ha
  obtain ⟨ws, rw', tw, _⟩ := I.tuple hb
  have iu : IntsAre us ns := Vals.ints ru
  have iw : IntsAre ws ms := Vals.ints rw'
  have lu : us.toArray.size = ns.length := by rw [List.size_toArray, iu.length]
  have lw : ws.toArray.size = ms.length := by rw [List.size_toArray, iw.length]
  have nu : ∀ j (k : j < us.toArray.size), ∃ t, us.toArray[j] = .int (ns.getD j 0) t := fun j k => PyProof.Rows.IntsAre.int_at iu _ _ (by rw [List.size_toArray] at k; simp [k])
  have nw : ∀ j (k : j < ws.toArray.size), ∃ t, ws.toArray[j] = .int (ms.getD j 0) t := fun j k => PyProof.Rows.IntsAre.int_at iw _ _ (by rw [List.size_toArray] at k; simp [k])
  have same : ∀ j, (ns.getD j 0 == ms.getD j 0) = decide (ns.getD j 0 = ms.getD j 0) := fun j => by
    by_cases k : ns.getD j 0 = ms.getD j 0
    · rw [decide_eq_true k, k]; exact beq_self_eq_true _
    · rw [decide_eq_false k]; exact beq_eq_false_iff_ne.mpr k
  have key := Ob.RcOp.tuples_lt (A := X.A) (s := s) (e := fun j => decide (ns.getD j 0 = ms.getD j 0)) (r := fun j => decide (ns.getD j 0 < ms.getD j 0)) tu tw room
    (fun j h1 h2 => by
      obtain ⟨t1, w1⟩ := nu j h1
      obtain ⟨t2, w2⟩ := nw j h2
      rw [w1, w2, ← same j]
      exact SeqAt.EqAt.int_int _ _ _ _)
    (fun j h1 h2 _ => by
      obtain ⟨t1, w1⟩ := nu j h1
      obtain ⟨t2, w2⟩ := nw j h2
      rw [w1, w2]
      exact Ob.RcOp.lt_int _ _ _ _)
  rw [lu, lw] at key
  exact key X.prog X.w X.xe (EP X pins σ Q) ⟨.bl _, H, I, rfl, q⟩
theorem le_tup (room : X.A.units < cLine) {pins : List (Addr × Obj)} {s : Shared} {σ : L2.St} {H : Hp} {a b : Addr} {ns ms : List Int} {Q : VK} (I : Inv X pins σ H s) (ha : SqT X.K H a (ns.map V.int)) (hb : SqT X.K H b (ms.map V.int)) (q : Q (.bl (leV ns ms)) H) :
    wpAny (model X.prog X.w) X.A (compareOp .LtE (.ref a) (.ref b)) (EP X pins σ Q) X.xe s := by
  obtain ⟨us, ru, tu, _⟩ := I.tuple ha
  obtain ⟨ws, rw', tw, _⟩ := I.tuple hb
  have iu : IntsAre us ns := Vals.ints ru
  have iw : IntsAre ws ms := Vals.ints rw'
  have lu : us.toArray.size = ns.length := by rw [List.size_toArray, iu.length]
  have lw : ws.toArray.size = ms.length := by rw [List.size_toArray, iw.length]
  have nu : ∀ j (k : j < us.toArray.size), ∃ t, us.toArray[j] = .int (ns.getD j 0) t := fun j k => PyProof.Rows.IntsAre.int_at iu _ _ (by rw [List.size_toArray] at k; simp [k])
  have nw : ∀ j (k : j < ws.toArray.size), ∃ t, ws.toArray[j] = .int (ms.getD j 0) t := fun j k => PyProof.Rows.IntsAre.int_at iw _ _ (by rw [List.size_toArray] at k; simp [k])
  have same : ∀ j, (ns.getD j 0 == ms.getD j 0) = decide (ns.getD j 0 = ms.getD j 0) := fun j => by
    by_cases k : ns.getD j 0 = ms.getD j 0
    · rw [decide_eq_true k, k]; exact beq_self_eq_true _
    · rw [decide_eq_false k]; exact beq_eq_false_iff_ne.mpr k
  have key := Ob.RcOp.tuples_le (A := X.A) (s := s) (e := fun j => decide (ns.getD j 0 = ms.getD j 0)) (r := fun j => decide (ns.getD j 0 ≤ ms.getD j 0)) tu tw room
    (fun j h1 h2 => by
      obtain ⟨t1, w1⟩ := nu j h1
      obtain ⟨t2, w2⟩ := nw j h2
      rw [w1, w2, ← same j]
      exact SeqAt.EqAt.int_int _ _ _ _)
    (fun j h1 h2 _ => by
      obtain ⟨t1, w1⟩ := nu j h1
      obtain ⟨t2, w2⟩ := nw j h2
      rw [w1, w2]
      exact Ob.RcOp.le_int _ _ _ _)
  rw [lu, lw] at key
  exact key X.prog X.w X.xe (EP X pins σ Q) ⟨.bl _, H, I, rfl, q⟩
/-- by what is looked at -/
def rLk (K : PySem.W.Frag) (E : XK) (sem : D → D → Option Rv) : R2 := fun x y H Q => ∃ g d1 d2, g.H = H ∧ Gok K g ∧ LookR K g d1 x ∧ LookR K g d2 y ∧ Post K E (RvR K) g (Res.opt (sem d1 d2) g.S) Q
def semD (o : Cop) (a b : D) : Option Rv := (opCmpD o a b).map fun k => .val (.bl k)
theorem op_cmpL (hu65 : X.A.units + 65 < cLine) : ∀ o : Cop, OpR X (compareOp o.op) (rLk X.K E (semD o)) := by
  have hu : X.A.units + 64 < cLine := by omega
  intro o pins s σ H x y v u Q I rx ry ⟨g, d1, d2, e, ok, l1, l2, h⟩
  subst e
  unfold semD at h
  unfold opCmpD at h
  split at h <;> first | exact (Post.no h).elim | skip
  · unfold eqD at h
    split at h
    case isFalse => exact h.elim
    rename_i hs
    exact op_eqD hu pins s σ g.H _ _ v u Q I rx ry ⟨_, _, l1.dp ok (shaped_lay hs.1), l2.dp ok (shaped_lay hs.2), hs.1, hs.2, Post.val h ok rfl (.bl _)⟩
  · unfold eqD at h
    split at h
    case isFalse => exact h.elim
    rename_i hs
    exact op_neD hu pins s σ g.H _ _ v u Q I rx ry ⟨_, _, l1.dp ok (shaped_lay hs.1), l2.dp ok (shaped_lay hs.2), hs.1, hs.2, Post.val h ok rfl (.bl _)⟩
  · cases l1.int; cases l2.int
    exact op_lt pins s σ g.H _ _ v u Q I rx ry ⟨_, _, rfl, rfl, Post.val h ok rfl (.bl _)⟩
  · cases l1.int; cases l2.int
    exact op_le pins s σ g.H _ _ v u Q I rx ry ⟨_, _, rfl, rfl, Post.val h ok rfl (.bl _)⟩
  · cases l1.int; cases l2.int
    exact op_gt pins s σ g.H _ _ v u Q I rx ry ⟨_, _, rfl, rfl, Post.val h ok rfl (.bl _)⟩
  · cases l1.int; cases l2.int
    exact op_ge pins s σ g.H _ _ v u Q I rx ry ⟨_, _, rfl, rfl, Post.val h ok rfl (.bl _)⟩
  · rename_i xs ys
    split at h
    case h_2 => exact (Post.no h).elim
    rename_i ns ms en em
    obtain ⟨a, vs, rfl, s1, t1, z1, q1⟩ := l1.tup ok
    obtain ⟨b, us, rfl, s2, t2, z2, q2⟩ := l2.tup ok
    cases rx
    cases ry
    rw [reps_int q1 en] at t1
    rw [reps_int q2 em] at t2
    exact gt_tup (by omega) I t1 t2 (Post.val h ok rfl (.bl _))
  · rename_i xs ys
    split at h
    case h_2 => exact (Post.no h).elim
    rename_i ns ms en em
    obtain ⟨a, vs, rfl, s1, t1, z1, q1⟩ := l1.tup ok
    obtain ⟨b, us, rfl, s2, t2, z2, q2⟩ := l2.tup ok
    cases rx
    cases ry
    rw [reps_int q1 en] at t1
    rw [reps_int q2 em] at t2
    exact ge_tup (by omega) I t1 t2 (Post.val h ok rfl (.bl _))
  · rename_i xs ys
    split at h
    case h_2 => exact (Post.no h).elim
    rename_i ns ms en em
    obtain ⟨a, vs, rfl, s1, t1, z1, q1⟩ := l1.tup ok
    obtain ⟨b, us, rfl, s2, t2, z2, q2⟩ := l2.tup ok
    cases rx
    cases ry
    rw [reps_int q1 en] at t1
    rw [reps_int q2 em] at t2
    exact lt_tup (by omega) I t1 t2 (Post.val h ok rfl (.bl _))
  · rename_i xs ys
    split at h
    case h_2 => exact (Post.no h).elim
    rename_i ns ms en em
    obtain ⟨a, vs, rfl, s1, t1, z1, q1⟩ := l1.tup ok
    obtain ⟨b, us, rfl, s2, t2, z2, q2⟩ := l2.tup ok
    cases rx
    cases ry
    rw [reps_int q1 en] at t1
    rw [reps_int q2 em] at t2
    exact le_tup (by omega) I t1 t2 (Post.val h ok rfl (.bl _))
  · cases l2.non
    refine op_isN pins s σ g.H _ _ v u Q I rx ry ⟨rfl, ?_⟩
    rw [l1.isNon]
    exact Post.val h ok rfl (.bl _)
  · cases l2.non
    refine op_notN pins s σ g.H _ _ v u Q I rx ry ⟨rfl, ?_⟩
    rw [l1.isNon]
    exact Post.val h ok rfl (.bl _)
  · cases l1.bl; cases l2.bl
    exact op_is_bl pins s σ g.H _ _ v u Q I rx ry ⟨_, _, rfl, rfl, Post.val h ok rfl (.bl _)⟩
  · cases l1.bl; cases l2.bl
    exact op_isnot_bl pins s σ g.H _ _ v u Q I rx ry ⟨_, _, rfl, rfl, Post.val h ok rfl (.bl _)⟩
  · unfold inD at h
    split at h
    case isFalse => exact h.elim
    rename_i hs
    exact op_inD hu65 pins s σ g.H _ _ v u Q I rx ry ⟨_, _, l1.dp ok (shaped_lay hs.1), l2.dp ok (shaped_lay hs.2), hs.1, hs.2, Post.val h ok rfl (.bl _)⟩
  · unfold inD at h
    split at h
    case isFalse => exact h.elim
    rename_i hs
    exact op_inT hu65 pins s σ g.H _ _ v u Q I rx ry ⟨_, _, l1.dp ok (shaped_lay hs.1), l2.dp ok (shaped_lay hs.2), hs.1, hs.2, Post.val h ok rfl (.bl _)⟩
  · unfold inD at h
    split at h
    case isFalse => exact h.elim
    rename_i hs
    exact op_notInD hu65 pins s σ g.H _ _ v u Q I rx ry ⟨_, _, l1.dp ok (shaped_lay hs.1), l2.dp ok (shaped_lay hs.2), hs.1, hs.2, Post.val h ok rfl (.bl _)⟩
  · unfold inD at h
    split at h
    case isFalse => exact h.elim
    rename_i hs
    exact op_ninT hu65 pins s σ g.H _ _ v u Q I rx ry ⟨_, _, l1.dp ok (shaped_lay hs.1), l2.dp ok (shaped_lay hs.2), hs.1, hs.2, Post.val h ok rfl (.bl _)⟩
theorem op_cmpS (hu65 : X.A.units + 65 < cLine) : ∀ o : Cop, OpR X (compareOp o.op) (rOp2 X.K E (semC o)) := fun o pins s σ H x y v u Q I rx ry ⟨g0, g, ra, rb, e, ok, r1, r2, h⟩ =>
  op_cmpL (E := E) hu65 o pins s σ H x y v u Q I rx ry ⟨g, ra.look, rb.look, e, ok, r1.lookR ok, r2.lookR ok, h⟩
theorem op_binS : ∀ o : Bop, OpR X (binaryOp o.op) (rOp2 X.K E (opBin o))
  | .add => op_addS
  | .sub => op_subS
  | .mul => op_mulS
  | .fdiv => op_fdivS
  | .mod => op_modS
  | .pow => op_powS
  | .shl => op_shlS
  | .shr => op_shrS
  | .band => op_bandS
  | .bor => op_borS

/-! ### subscripts -/
theorem atI_rep {K : PySem.W.Frag} {g : Gh} {xs : List D} {vs : List V} {i : Int} {d : D} (r : g.Reps K xs vs) (h : ixD xs i = some d) : ∃ v, atI vs i = some v ∧ g.Rep K d v := by
  unfold ixD atI at h
  unfold atI
  rw [← r.length]
  cases e : ixN xs.length i with
  | none => rw [e] at h; cases h
  | some j =>
    rw [e] at h
    obtain ⟨v, q1, q2⟩ := r.get (show xs[j]? = some d from h)
    exact ⟨v, q1, q2⟩
theorem ix_L : IxR X (rLk X.K E opIxD) := by
  intro value slice pins s σ H x y v u Q I rx ry ⟨g, d1, d2, e, ok, l1, l2, h⟩ hs
  subst e
  unfold opIxD at h
  split at h <;> first | exact (Post.no h).elim | skip
  · obtain ⟨a, vs, rfl, s1, t1, z1, q1⟩ := l1.tup ok
    cases l2.int
    rename_i xs i
    cases e : ixD xs i with
    | none => rw [e] at h; exact h.elim
    | some d =>
      rw [e] at h
      obtain ⟨z, hz, rz⟩ := atI_rep q1 e
      exact ix_tup value slice pins s σ g.H _ _ v u Q I rx ry ⟨_, _, _, _, rfl, rfl, t1, hz, Post.val h ok rfl rz⟩ hs
  · obtain ⟨a, vs, rfl, h1, z1, q1⟩ := l1.lst
    cases l2.int
    rename_i xs i
    cases e : ixD xs i with
    | none => rw [e] at h; exact h.elim
    | some d =>
      rw [e] at h
      obtain ⟨z, hz, rz⟩ := atI_rep q1 e
      exact ix_list value slice pins s σ g.H _ _ v u Q I rx ry ⟨_, _, _, _, rfl, rfl, SqL.of h1, hz, Post.val h ok rfl rz⟩ hs

theorem ix_S : IxR X (rOp2 X.K E opIx) := by
  intro value slice pins s σ H x y v u Q I rx ry ⟨g0, g, ra, rb, e, ok, r1, r2, h⟩ hs
  exact ix_L (E := E) value slice pins s σ H x y v u Q I rx ry ⟨g, ra.look, rb.look, e, ok, r1.lookR ok, r2.lookR ok, h⟩ hs
/-! ### slices -/
def rSlS (K : PySem.W.Frag) (E : XK) : V → Option Int → Option Int → Hp → VK → Prop := fun x lo hi H Q =>
  ∃ g0 g ra, g.H = H ∧ Gok K g ∧ RvR K g0 g ra x ∧ Post K E (RvR K) g (Res.opt (opSl ra lo hi) g.S) Q
theorem Reps.slc {K : PySem.W.Frag} {g : Gh} {xs : List D} {vs : List V} (r : g.Reps K xs vs) (lo hi : Option Int) : g.Reps K (Px.slc xs lo hi) (cutV vs lo hi) := by
  unfold Px.slc cutV
  rw [r.length]
  exact (Reps.drop _ r).take _
theorem slc_len {α : Type} (xs : List α) (lo hi : Option Int) : (Px.slc xs lo hi).length ≤ xs.length := by
  unfold Px.slc
  rw [List.length_take, List.length_drop]
  omega
theorem sl_S : SlR X (rSlS X.K E) := by
  intro pins s σ H x v vl vu lo hi sl Q I rx hs pl pu ⟨g0, g, ra, e, ok, r1, h⟩
  subst e
  have l1 := r1.lookR ok
  unfold opSl at h
  generalize ra.look = d1 at h l1
  unfold opSlD at h
  split at h <;> first | exact (Post.no h).elim | skip
  · rename_i xs
    obtain ⟨a, vs, rfl, s1, t1, z1, q1⟩ := l1.tup ok
    refine sl_tupA pins s σ g.H _ v vl vu lo hi sl Q I rx hs pl pu ⟨a, vs, rfl, t1, fun ⟨e1, e2⟩ => ?_, fun _ => ?_⟩
    · refine Post.val h ok rfl ?_
      have e3 : Px.slc xs lo hi = xs := by
        have hl := q1.length
        unfold Px.slc
        rw [hl, e1, e2, ← hl]
        simp
      rw [e3]
      exact .tup s1 z1 q1
    · exact Post.tup h ok rfl (q1.slc lo hi) (Nat.le_trans (slc_len _ _ _) z1)
  · obtain ⟨a, vs, rfl, h1, z1, q1⟩ := l1.lst
    exact sl_list pins s σ g.H _ v vl vu lo hi sl Q I rx hs pl pu ⟨a, vs, rfl, SqL.of h1, Post.fresh h ok rfl (q1.slc lo hi) (Nat.le_trans (slc_len _ _ _) z1)⟩
  · obtain ⟨a, vs, rfl, h1, z1, q1⟩ := l1.scr ok
    exact sl_list pins s σ g.H _ v vl vu lo hi sl Q I rx hs pl pu ⟨a, vs, rfl, h1, Post.fresh h ok rfl (q1.slc lo hi) (Nat.le_trans (slc_len _ _ _) z1)⟩
end
end Px

set_option Elab.async false
set_option linter.all false
set_option maxRecDepth 100000
set_option maxHeartbeats 1000000
namespace Px
open PySem PySem.Spec PyProof.Rows L2
theorem paired_at {α β : Type} {R : α → β → Prop} : ∀ {as : List α} {bs : List β} {i : Nat} {b : β}, Paired R as bs → bs[i]? = some b → ∃ a, R a b
  | _, _, _, _, .nil, h => by simp at h
  | _, _, 0, _, .cons r _, h => by simp at h; subst h; exact ⟨_, r⟩
  | _, _, i + 1, _, .cons _ t, h => paired_at (i := i) t (by simpa using h)
theorem dInts_len : ∀ {xs : List D} {ns : List Int}, dInts xs = some ns → ns.length = xs.length
  | [], ns, e => by cases e; rfl
  | x :: xs, ns, e => by
    cases x <;> first | (cases e; done) | skip
    rename_i z
    have e' : (dInts xs).map (z :: ·) = some ns := e
    obtain ⟨ms, e2, rfl⟩ := Option.map_eq_some_iff.mp e'
    rw [List.length_cons, List.length_cons, dInts_len e2]
/-! ### what sorted tells -/
def pairD (p : Int × Int) : D := .tup [.int p.1, .int p.2]
theorem dPairs_reps {K : PySem.W.Frag} {g : Gh} : ∀ {xs : List D} {vs : List V} {ps : List (Int × Int)}, g.Reps K xs vs → dPairs xs = some ps → xs = ps.map pairD ∧ Paired (fun (p : Int × Int) (v : V) => ∃ t, v = .ref t ∧ SqT K g.R t [.int p.1, .int p.2]) ps vs
  | [], vs, ps, r, h => by
    cases r
    cases h
    exact ⟨rfl, .nil⟩
  | d :: ds, vs, ps, r, h => by
    cases r with | cons r1 r2 =>
    unfold dPairs at h
    split at h
    · rename_i e
      cases e
    · rename_i i j rest e
      obtain ⟨e1, e2⟩ := List.cons.inj e
      subst e1 e2
      obtain ⟨qs, e3, e4⟩ := Option.map_eq_some_iff.mp h
      subst e4
      obtain ⟨h1, h2⟩ := dPairs_reps r2 e3
      refine ⟨by rw [h1]; rfl, .cons ?_ h2⟩
      cases r1 with | tup a l q =>
      cases q with | cons q1 q =>
      cases q with | cons q2 q =>
      cases q
      cases q1
      cases q2
      exact ⟨_, rfl, a⟩
    · cases h
theorem leP_tr (a b c : Int × Int) (h1 : leP a b = true) (h2 : leP b c = true) : leP a c = true := by
  unfold leP at *
  simp only [Bool.or_eq_true, Bool.and_eq_true, decide_eq_true_eq] at *
  omega
theorem leP_to (a b : Int × Int) : (leP a b || leP b a) = true := by
  unfold leP
  simp only [Bool.or_eq_true, Bool.and_eq_true, decide_eq_true_eq]
  omega
theorem leP_no {a b : Int × Int} (h : SrtO.lexB b a = false) : leP a b = true := by
  have := SrtO.lexB_no.mp h
  unfold leP
  simp only [Bool.or_eq_true, Bool.and_eq_true, decide_eq_true_eq]
  omega
theorem leP_anti {a b : Int × Int} (h1 : leP a b = true) (h2 : leP b a = true) : a = b := by
  unfold leP at *
  simp only [Bool.or_eq_true, Bool.and_eq_true, decide_eq_true_eq] at *
  exact Prod.ext (by omega) (by omega)
open Classical in
/-- the pair at a value -/
noncomputable def keyV (K : PySem.W.Frag) (H : Hp) (v : V) : Int × Int := if h : ∃ (p : Int × Int) (t : Addr), v = .ref t ∧ SqT K H t [.int p.1, .int p.2] then h.choose else (0, 0)
theorem key_of {X : Cx} {pins : List (Addr × Obj)} {s : Shared} {σ : L2.St} {H : Hp} (I : Inv X pins σ H s) {t : Addr} {p : Int × Int} (h : SqT X.K H t [.int p.1, .int p.2]) : keyV X.K H (.ref t) = p := by
  have ex : ∃ (p : Int × Int) (t' : Addr), V.ref t = .ref t' ∧ SqT X.K H t' [.int p.1, .int p.2] := ⟨p, t, rfl, h⟩
  unfold keyV
  rw [dif_pos ex]
  obtain ⟨t', e, q⟩ := ex.choose_spec
  cases e
  have := I.tuple_inj q h
  injection this with e1 e2
  injection e2 with e2 _
  injection e1 with e1
  injection e2 with e2
  exact Prod.ext e1 e2
section
variable {X : Cx} {E : XK}
/-- sorted of pairs, wherever they stand -/
theorem cr_sortT : CallR X (.builtin "sorted") (fun vs H Q => ∃ (a : Addr) (xs : List V) (k : V → Int × Int), vs = [V.ref a] ∧ SqL X.K H a xs ∧ (∀ x ∈ xs, ∃ t, x = V.ref t ∧ SqT X.K H t [.int (k x).1, .int (k x).2]) ∧
  ∀ ys p, SrtO.Srtd (ltP k) ys → SrtO.Stb (ltP k) ys xs → H p = none → Q (.ref p) (upd H p (.lst ys))) := by
  intro pins s σ H vs us Q I r h
  obtain ⟨a, xs, k, rfl, hs, hx, q⟩ := h
  obtain ⟨its, rv, hl, hz⟩ := I.list hs
  obtain ⟨w, rfl, rw'⟩ := vals1 r
  obtain rfl : w = Value.ref a := rw'
  obtain ⟨b1, b2⟩ := refs_back rv fun x m => (hx x m).imp fun t e => e.1
  refine SrtO.sorted_pairsO (k := fun w => k (backV w)) hl.isList (by rw [← rv.length]; exact hz) (fun v hv => ?_) fun h' d out c1 c2 kp hd hn => ?_
  · obtain ⟨t, rfl⟩ := b2 v hv
    obtain ⟨t', e, ht⟩ := hx (V.ref t) (by rw [b1]; exact List.mem_map.mpr ⟨_, hv, rfl⟩)
    cases e
    obtain ⟨i2, r2, ⟨o, ho, hc, n, hd⟩, _⟩ := I.tuple ht
    obtain ⟨w1, w2, rfl, ⟨t1, rfl⟩, ⟨t2, rfl⟩⟩ := vals2 r2
    exact ⟨t, o, t1, t2, n, rfl, ho, hc, hd⟩
  · have b3 : ∀ w ∈ out, ∃ a, w = Value.ref a := fun w hw => b2 w (c2.perm.mem_iff.mp hw)
    obtain ⟨n, hn⟩ := hn
    have hb : SrtO.Stb (ltP k) (out.map backV) xs := by
      rw [b1]
      exact SrtO.Stb.map (ltP_swo k) backV c2
    exact ⟨.ref d, upd H d (.lst (out.map backV)), I.laid (t' := s.toks) kp hd ⟨by rw [hb.len]; exact hz, out, n, vals_back b3, hn⟩, rfl, q _ d (SrtO.srtd_map c1) hb (I.hok.fresh hd)⟩
/-- sorted of a tuple of pairs, wherever they stand -/
theorem cr_sortU : CallR X (.builtin "sorted") (fun vs H Q => ∃ (a : Addr) (xs : List V) (k : V → Int × Int), vs = [V.ref a] ∧ SqT X.K H a xs ∧ (∀ x ∈ xs, ∃ t, x = V.ref t ∧ SqT X.K H t [.int (k x).1, .int (k x).2]) ∧
  ∀ ys p, SrtO.Srtd (ltP k) ys → SrtO.Stb (ltP k) ys xs → H p = none → Q (.ref p) (upd H p (.lst ys))) := by
  intro pins s σ H vs us Q I r h
  obtain ⟨a, xs, k, rfl, hs, hx, q⟩ := h
  obtain ⟨its, rv, ⟨o, ho, hc, n, hd⟩, hz⟩ := I.tuple hs
  obtain ⟨w, rfl, rw'⟩ := vals1 r
  obtain rfl : w = Value.ref a := rw'
  obtain ⟨b1, b2⟩ := refs_back rv fun x m => (hx x m).imp fun t e => e.1
  refine sorted_tupO (k := fun w => k (backV w)) ho hc hd (by rw [← rv.length]; exact hz) (fun v hv => ?_) fun h' d out c1 c2 kp hd hn => ?_
  · obtain ⟨t, rfl⟩ := b2 v hv
    obtain ⟨t', e, ht⟩ := hx (V.ref t) (by rw [b1]; exact List.mem_map.mpr ⟨_, hv, rfl⟩)
    cases e
    obtain ⟨i2, r2, ⟨o, ho, hc, n, hd⟩, _⟩ := I.tuple ht
    obtain ⟨w1, w2, rfl, ⟨t1, rfl⟩, ⟨t2, rfl⟩⟩ := vals2 r2
    exact ⟨t, o, t1, t2, n, rfl, ho, hc, hd⟩
  · have b3 : ∀ w ∈ out, ∃ a, w = Value.ref a := fun w hw => b2 w (c2.perm.mem_iff.mp hw)
    obtain ⟨n, hn⟩ := hn
    have hb : SrtO.Stb (ltP k) (out.map backV) xs := by
      rw [b1]
      exact SrtO.Stb.map (ltP_swo k) backV c2
    exact ⟨.ref d, upd H d (.lst (out.map backV)), I.laid (t' := s.toks) kp hd ⟨by rw [hb.len]; exact hz, out, n, vals_back b3, hn⟩, rfl, q _ d (SrtO.srtd_map c1) hb (I.hok.fresh hd)⟩
theorem call_sortedU {pins : List (Addr × Obj)} {s : Shared} {σ : L2.St} {H : Hp} {x : V} {us : List Value} {Q : VK} {g g0 : Gh} {xs : List D} {ps : List (Int × Int)} (I : Inv X pins σ H s) (ru : Vals [x] us) (e : g.H = H) (ok : Gok X.K g) (l : LookR X.K g (.tup xs) x)
    (ep : dPairs xs = some ps) (h : Post X.K E (RvR X.K) g (.ok (.fresh (.lst ((ps.mergeSort leP).map pairD))) g.S) Q) : wpAny (model X.prog X.w) X.A (call (.builtin "sorted") us) (EP X pins σ Q) X.xe s := by
  subst e
  obtain ⟨a, vs, rfl, s1, h1, z1, q1⟩ := l.tup ok
  obtain ⟨e1, pr⟩ := dPairs_reps q1 ep
  have at_ : ∀ v ∈ vs, ∃ (t : Addr) (p : Int × Int), v = .ref t ∧ SqT X.K g.R t [.int p.1, .int p.2] := fun v hv => by
    obtain ⟨i, hi⟩ := List.getElem?_of_mem hv
    obtain ⟨p, t, e1, e2⟩ := paired_at pr hi
    exact ⟨t, p, e1, e2⟩
  have keys : vs.map (keyV X.K g.H) = ps := by
    clear at_ e1 ep q1 s1 h1 h
    induction pr with
    | nil => rfl
    | cons hp _ ih =>
      obtain ⟨t, e1, e2⟩ := hp
      subst e1
      rw [List.map_cons, ih, key_of I (SqT.mono e2 ok.sub)]
  refine cr_sortU pins s σ g.H _ us Q I ru ⟨a, vs, keyV X.K g.H, rfl, h1, fun v hv => ?_, fun ys p srt stb np => ?_⟩
  · obtain ⟨t, p, e1, e2⟩ := at_ v hv
    refine ⟨t, e1, ?_⟩
    subst e1
    rw [key_of I (SqT.mono e2 ok.sub)]
    exact SqT.mono e2 ok.sub
  · have e2 : ys.map (keyV X.K g.H) = ps.mergeSort leP := by
      refine List.Perm.eq_of_pairwise (le := fun a b => leP a b = true) (fun a b _ _ h1 h2 => leP_anti h1 h2) ?_ (List.pairwise_mergeSort leP_tr leP_to ps) ?_
      · rw [List.pairwise_map]
        exact srt.imp fun h => leP_no h
      · have := stb.perm.map (keyV X.K g.H)
        rw [keys] at this
        exact this.trans (List.mergeSort_perm ps leP).symm
    have rp : ∀ zs : List V, (∀ z ∈ zs, z ∈ vs) → g.Reps X.K ((zs.map (keyV X.K g.H)).map pairD) zs := fun zs => by
      induction zs with
      | nil => exact fun _ => .nil
      | cons z zs ih =>
        intro hz
        refine .cons ?_ (ih fun y hy => hz y (List.mem_cons_of_mem _ hy))
        obtain ⟨t, p, f1, f2⟩ := at_ z (hz z List.mem_cons_self)
        subst f1
        rw [key_of I (SqT.mono f2 ok.sub)]
        exact .tup f2 (by show 2 ≤ sizeLine; rw [sizeLine_eq]; decide) (.cons (.int _) (.cons (.int _) .nil))
    have rq := rp ys fun z hz => stb.perm.mem_iff.mp hz
    rw [e2] at rq
    refine Post.fresh h ok rfl rq ?_ p np
    rw [List.length_map, List.length_mergeSort]
    rw [e1, List.length_map] at z1
    exact z1
theorem call_sortedS {pins : List (Addr × Obj)} {s : Shared} {σ : L2.St} {H : Hp} {x : V} {us : List Value} {Q : VK} {g g0 : Gh} {r : Rv} {xs ys : List D} (I : Inv X pins σ H s) (ru : Vals [x] us) (e : g.H = H) (ok : Gok X.K g) (l : LookR X.K g (.lst xs) x)
    (hs : sortD xs = some ys) (h : Post X.K E (RvR X.K) g (.ok (.fresh (.lst ys)) g.S) Q) : wpAny (model X.prog X.w) X.A (call (.builtin "sorted") us) (EP X pins σ Q) X.xe s := by
  subst e
  obtain ⟨a, vs, rfl, h1, z1, q1⟩ := l.lst
  unfold sortD at hs
  split at hs
  · rename_i ns en
    cases hs
    have ev := reps_int q1 en
    refine cr_sortedI pins s σ g.H _ us Q I ru ⟨a, ns, rfl, by rw [← ev]; exact SqL.of h1, fun ns' p pm srt np => ?_⟩
    have e2 : ns' = ns.mergeSort fun a b => decide (a ≤ b) := by
      refine List.Perm.eq_of_pairwise (le := fun a b => a ≤ b) (fun a b _ _ h1 h2 => Int.le_antisymm h1 h2) srt ?_ (pm.trans (List.mergeSort_perm ns _).symm)
      have q := List.pairwise_mergeSort (le := fun a b : Int => decide (a ≤ b)) (fun a b c h1 h2 => by simp only [decide_eq_true_eq] at *; omega) (fun a b => by simp only [Bool.or_eq_true, decide_eq_true_eq]; omega) ns
      exact q.imp fun h => of_decide_eq_true h
    rw [e2]
    refine Post.fresh h ok rfl ?_ ?_ p np
    · have : ∀ ms : List Int, g.Reps X.K (ms.map D.int) (ms.map V.int) := fun ms => by
        induction ms with
        | nil => exact .nil
        | cons m ms ih => exact .cons (.int m) ih
      exact this _
    · rw [List.length_map, List.length_mergeSort, dInts_len en]
      exact z1
  · split at hs
    · rename_i ps ep
      cases hs
      obtain ⟨e1, pr⟩ := dPairs_reps q1 ep
      have at_ : ∀ v ∈ vs, ∃ (t : Addr) (p : Int × Int), v = .ref t ∧ SqT X.K g.R t [.int p.1, .int p.2] := fun v hv => by
        obtain ⟨i, hi⟩ := List.getElem?_of_mem hv
        obtain ⟨p, t, e1, e2⟩ := paired_at pr hi
        exact ⟨t, p, e1, e2⟩
      have keys : vs.map (keyV X.K g.H) = ps := by
        clear at_ e1 ep q1 h1 h
        induction pr with
        | nil => rfl
        | cons hp _ ih =>
          obtain ⟨t, e1, e2⟩ := hp
          subst e1
          rw [List.map_cons, ih, key_of I (SqT.mono e2 ok.sub)]
      refine cr_sortT pins s σ g.H _ us Q I ru ⟨a, vs, keyV X.K g.H, rfl, SqL.of h1, fun v hv => ?_, fun ys p srt stb np => ?_⟩
      · obtain ⟨t, p, e1, e2⟩ := at_ v hv
        refine ⟨t, e1, ?_⟩
        subst e1
        rw [key_of I (SqT.mono e2 ok.sub)]
        exact SqT.mono e2 ok.sub
      · have e2 : ys.map (keyV X.K g.H) = ps.mergeSort leP := by
          refine List.Perm.eq_of_pairwise (le := fun a b => leP a b = true) (fun a b _ _ h1 h2 => leP_anti h1 h2) ?_ (List.pairwise_mergeSort leP_tr leP_to ps) ?_
          · rw [List.pairwise_map]
            exact srt.imp fun h => leP_no h
          · have := stb.perm.map (keyV X.K g.H)
            rw [keys] at this
            exact this.trans (List.mergeSort_perm ps leP).symm
        have rp : ∀ zs : List V, (∀ z ∈ zs, z ∈ vs) → g.Reps X.K ((zs.map (keyV X.K g.H)).map pairD) zs := fun zs => by
          induction zs with
          | nil => exact fun _ => .nil
          | cons z zs ih =>
            intro hz
            refine .cons ?_ (ih fun y hy => hz y (List.mem_cons_of_mem _ hy))
            obtain ⟨t, p, f1, f2⟩ := at_ z (hz z List.mem_cons_self)
            subst f1
            rw [key_of I (SqT.mono f2 ok.sub)]
            exact .tup f2 (by show 2 ≤ sizeLine; rw [sizeLine_eq]; decide) (.cons (.int _) (.cons (.int _) .nil))
        have rq := rp ys fun z hz => stb.perm.mem_iff.mp hz
        rw [e2] at rq
        refine Post.fresh h ok rfl rq ?_ p np
        rw [List.length_map, List.length_mergeSort]
        rw [e1, List.length_map] at z1
        exact z1
    · cases hs
end
end Px

set_option Elab.async false
set_option linter.all false
set_option maxRecDepth 100000
set_option maxHeartbeats 4000000
namespace Px
open PySem PySem.Spec PyProof.Rows L2
def rBi (K : PySem.W.Frag) (E : XK) (b : Bi) : List V → Hp → VK → Prop := fun xs H Q =>
  ∃ g0 g rs, g.H = H ∧ Gok K g ∧ RvRs K g0 g rs xs ∧ Post K E (RvR K) g (Res.opt (opBi b rs) g.S) Q
def Bi.val : Bi → Value
  | .tuple => .type "tuple"
  | .list => .type "list"
  | .int => .type "int"
  | .str => .type "str"
  | b => .builtin b.nm
theorem dInts_vals {K : PySem.W.Frag} {g : Gh} : ∀ {xs : List D} {vs : List V} {ns : List Int}, g.Reps K xs vs → dInts xs = some ns → vs = ns.map V.int
  | [], _, _, r, e => by cases r; cases e; rfl
  | d :: xs, _, ns, r, e => by
    cases d with
    | int i =>
      have e' : (dInts xs).map (i :: ·) = some ns := by rw [← e]; simp [dInts]
      obtain ⟨ms, e1, e2⟩ := Option.map_eq_some_iff.mp e'
      subst e2
      cases r with | cons r t => cases r; rw [dInts_vals t e1]; rfl
    | _ => simp [dInts] at e
theorem dBools_vals {K : PySem.W.Frag} {g : Gh} : ∀ {xs : List D} {vs : List V} {ns : List Bool}, g.Reps K xs vs → dBools xs = some ns → vs = ns.map V.bl
  | [], _, _, r, e => by cases r; cases e; rfl
  | d :: xs, _, ns, r, e => by
    cases d with
    | bl i =>
      have e' : (dBools xs).map (i :: ·) = some ns := by rw [← e]; simp [dBools]
      obtain ⟨ms, e1, e2⟩ := Option.map_eq_some_iff.mp e'
      subst e2
      cases r with | cons r t => cases r; rw [dBools_vals t e1]; rfl
    | _ => simp [dBools] at e
theorem greatest_is : ∀ ns : List Int, ns ≠ [] → greatest ns ∈ ns ∧ ∀ y ∈ ns, y ≤ greatest ns
  | [x], _ => by simp [greatest]
  | x :: y :: r, _ => by
    obtain ⟨h1, h2⟩ := greatest_is (y :: r) (by simp)
    unfold greatest
    split
    · exact ⟨List.mem_cons_of_mem _ h1, fun z hz => (List.mem_cons.mp hz).elim (fun e => by omega) (h2 z)⟩
    · exact ⟨List.mem_cons_self, fun z hz => (List.mem_cons.mp hz).elim (fun e => by omega) fun m => by have := h2 z m; omega⟩
theorem least_is : ∀ ns : List Int, ns ≠ [] → least ns ∈ ns ∧ ∀ y ∈ ns, least ns ≤ y
  | [x], _ => by simp [least]
  | x :: y :: r, _ => by
    obtain ⟨h1, h2⟩ := least_is (y :: r) (by simp)
    unfold least
    split
    · exact ⟨List.mem_cons_of_mem _ h1, fun z hz => (List.mem_cons.mp hz).elim (fun e => by omega) (h2 z)⟩
    · exact ⟨List.mem_cons_self, fun z hz => (List.mem_cons.mp hz).elim (fun e => by omega) fun m => by have := h2 z m; omega⟩
theorem RvRs.one {K : PySem.W.Frag} {g g' : Gh} {r : Rv} {xs : List V} (h : RvRs K g g' [r] xs) : ∃ x, xs = [x] ∧ RvR K g g' r x := by
  cases h with | cons a t => cases t; exact ⟨_, rfl, a⟩
theorem RvRs.two {K : PySem.W.Frag} {g g' : Gh} {r r2 : Rv} {xs : List V} (h : RvRs K g g' [r, r2] xs) : ∃ x y, xs = [x, y] ∧ RvR K g g' r x ∧ RvR K g g' r2 y := by
  cases h with | cons a t => cases t with | cons b t => cases t; exact ⟨_, _, rfl, a, b⟩
section
variable {X : Cx} {E : XK}
theorem call_reprS (hg : X.A.guards = some []) (hu : X.A.units + 100 < cLine) {pins : List (Addr × Obj)} {s : Shared} {σ : L2.St} {H : Hp} {d : PyData} {x : V} {v : Value} {Q : VK} (I : Inv X pins σ H s) (rx : RelV x v) (hd : Dp X.K H x d)
    (hs : d.showable = true) (hl : d.canLay0 = true) (hp : d.depth ≤ 64) (hz : d.shown.length ≤ sizeLine) (q : Q (.str d.shown) H) : wpAny (model X.prog X.w) X.A (call (.builtin "repr") [v]) (EP X pins σ Q) X.xe s := by
  obtain ⟨as, r⟩ := Dp.reads I d x v hd rx
  have nd := PyData.noDict_hsm (as := as) (PyData.hasDict_of_canLay d hl)
  cases d with
  | none =>
    cases r
    exact P.repr_of_none ⟨.str _, H, I.tok _, ⟨_, rfl⟩, by simpa only [PyData.shown_none] using q⟩
  | bool b =>
    cases r
    exact P.repr_of_bool ⟨.str _, H, I.tok _, ⟨_, rfl⟩, by simpa only [PyData.shown_bool] using q⟩
  | int i =>
    cases r
    exact P.repr_of_int (by simpa [PyData.showable] using hs) ⟨.str _, H, I.tok _, ⟨_, rfl⟩, by simpa only [PyData.shown_int] using q⟩
  | str z =>
    cases r
    refine P.repr_of_str ⟨.str _, H, I.tok _, ⟨_, rfl⟩, by simpa only [PyData.shown_str] using q⟩ ?_
    simpa only [PyData.shown_str] using hz
  | list ds =>
    have hv : ∃ a, v = .ref a := by cases r; exact ⟨_, rfl⟩
    obtain ⟨a, rfl⟩ := hv
    exact repr_of_reads' r hs nd hg (by omega) (fun _ _ e => e) (fun h' u tk k => ⟨.str _, H, I.kept k, ⟨_, rfl⟩, q⟩) hz
  | tuple ds =>
    have hv : ∃ a, v = .ref a := by cases r; exact ⟨_, rfl⟩
    obtain ⟨a, rfl⟩ := hv
    exact repr_of_reads' r hs nd hg (by omega) (fun _ _ e => e) (fun h' u tk k => ⟨.str _, H, I.kept k, ⟨_, rfl⟩, q⟩) hz
  | dict _ => simp [PyData.canLay0] at hl
theorem call_biS (hc : X.calm = true) (hg : X.A.guards = some []) (hu : X.A.units + 100 < cLine) (b : Bi) : CallR X b.val (rBi X.K E b) := by
  intro pins s σ H xs us Q I r ⟨g0, g, rs, e, ok, hr, h⟩
  subst e
  unfold opBi at h
  split at h <;> first | exact (Post.no h).elim | skip
  · -- len
    rename_i a
    obtain ⟨x, rfl, r1⟩ := hr.one
    have l1 := r1.lookR ok
    generalize a.look = d1 at h l1
    split at h <;> first | exact (Post.no h).elim | skip
    · obtain ⟨a, vs, rfl, s1, t1, z1, q1⟩ := l1.tup ok
      exact call_len_seq pins s σ g.H _ us Q I r ⟨a, vs, rfl, .inr t1, by rw [← q1.length]; exact Post.val h ok rfl (.int _)⟩
    · obtain ⟨a, vs, rfl, h1, z1, q1⟩ := l1.lst
      exact call_len_seq pins s σ g.H _ us Q I r ⟨a, vs, rfl, .inl (SqL.of h1), by rw [← q1.length]; exact Post.val h ok rfl (.int _)⟩
    · obtain ⟨a, vs, rfl, h1, z1, q1⟩ := l1.scr ok
      exact call_len_seq pins s σ g.H _ us Q I r ⟨a, vs, rfl, .inl h1, by rw [← q1.length]; exact Post.val h ok rfl (.int _)⟩
    · cases l1.str
      split at h
      case isFalse => exact h.elim
      rename_i hz
      exact call_len_str pins s σ g.H _ us Q I r ⟨_, rfl, hz, Post.val h ok rfl (.int _)⟩
  · -- abs
    rename_i a
    obtain ⟨x, rfl, r1⟩ := hr.one
    have l1 := r1.lookR ok
    generalize a.look = d1 at h l1
    split at h <;> first | exact (Post.no h).elim | skip
    cases l1.int
    exact call_abs pins s σ g.H _ us Q I r ⟨_, rfl, Post.val h ok rfl (.int _)⟩
  · rename_i a b
    obtain ⟨x, y, rfl, r1, r2⟩ := hr.two
    have l1 := r1.lookR ok
    have l2 := r2.lookR ok
    generalize a.look = d1 at h l1
    generalize b.look = d2 at h l2
    split at h <;> first | exact (Post.no h).elim | skip
    cases l1.int; cases l2.int
    exact call_max2 hc pins s σ g.H _ us Q I r ⟨_, _, rfl, Post.val h ok rfl (.int _)⟩
  · rename_i a b
    obtain ⟨x, y, rfl, r1, r2⟩ := hr.two
    have l1 := r1.lookR ok
    have l2 := r2.lookR ok
    generalize a.look = d1 at h l1
    generalize b.look = d2 at h l2
    split at h <;> first | exact (Post.no h).elim | skip
    cases l1.int; cases l2.int
    exact call_min2 hc pins s σ g.H _ us Q I r ⟨_, _, rfl, Post.val h ok rfl (.int _)⟩
  · -- max
    rename_i a
    obtain ⟨x, rfl, r1⟩ := hr.one
    have l1 := r1.lookR ok
    generalize a.look = d1 at h l1
    split at h <;> first | exact (Post.no h).elim | skip
    split at h <;> first | exact (Post.no h).elim | skip
    split at h <;> first | exact (Post.no h).elim | skip
    rename_i ns e hn
    obtain ⟨a, vs, rfl, h1, z1, q1⟩ := l1.lst
    have ev := dInts_vals q1 e
    obtain ⟨m1, m2⟩ := greatest_is ns hn
    refine cr_max hc pins s σ g.H _ us Q I r ⟨a, ns, rfl, by rw [← ev]; exact SqL.of h1, List.length_pos_iff.mpr hn, fun m hm hle => ?_⟩
    have : m = greatest ns := by have a1 := m2 m hm; have a2 := hle _ m1; omega
    rw [this]
    exact Post.val h ok rfl (.int _)
  · rename_i a
    obtain ⟨x, rfl, r1⟩ := hr.one
    have l1 := r1.lookR ok
    generalize a.look = d1 at h l1
    split at h <;> first | exact (Post.no h).elim | skip
    split at h <;> first | exact (Post.no h).elim | skip
    split at h <;> first | exact (Post.no h).elim | skip
    rename_i ns e hn
    obtain ⟨a, vs, rfl, h1, z1, q1⟩ := l1.lst
    have ev := dInts_vals q1 e
    obtain ⟨m1, m2⟩ := least_is ns hn
    refine cr_min hc pins s σ g.H _ us Q I r ⟨a, ns, rfl, by rw [← ev]; exact SqL.of h1, List.length_pos_iff.mpr hn, fun m hm hle => ?_⟩
    have : m = least ns := by have a1 := m2 m hm; have a2 := hle _ m1; omega
    rw [this]
    exact Post.val h ok rfl (.int _)
  · -- sum
    rename_i a
    obtain ⟨x, rfl, r1⟩ := hr.one
    have l1 := r1.lookR ok
    generalize a.look = d1 at h l1
    split at h <;> first | exact (Post.no h).elim | skip
    rename_i xs
    cases e : dInts xs with
    | none => rw [e] at h; exact h.elim
    | some ns =>
      rw [e] at h
      obtain ⟨a, vs, rfl, h1, z1, q1⟩ := l1.lst
      have ev := dInts_vals q1 e
      exact cr_sum hc pins s σ g.H _ us Q I r ⟨a, ns, rfl, by rw [← ev]; exact SqL.of h1, Post.val h ok rfl (.int _)⟩
  · rename_i a
    obtain ⟨x, rfl, r1⟩ := hr.one
    have l1 := r1.lookR ok
    generalize a.look = d1 at h l1
    split at h <;> first | exact (Post.no h).elim | skip
    rename_i xs
    cases e : dBools xs with
    | none => rw [e] at h; exact h.elim
    | some ns =>
      rw [e] at h
      obtain ⟨a, vs, rfl, h1, z1, q1⟩ := l1.lst
      have ev := dBools_vals q1 e
      exact cr_all hc pins s σ g.H _ us Q I r ⟨a, ns, rfl, by rw [← ev]; exact SqL.of h1, Post.val h ok rfl (.bl _)⟩
  · rename_i a
    obtain ⟨x, rfl, r1⟩ := hr.one
    have l1 := r1.lookR ok
    generalize a.look = d1 at h l1
    split at h <;> first | exact (Post.no h).elim | skip
    rename_i xs
    cases e : dBools xs with
    | none => rw [e] at h; exact h.elim
    | some ns =>
      rw [e] at h
      obtain ⟨a, vs, rfl, h1, z1, q1⟩ := l1.lst
      have ev := dBools_vals q1 e
      exact cr_any hc pins s σ g.H _ us Q I r ⟨a, ns, rfl, by rw [← ev]; exact SqL.of h1, Post.val h ok rfl (.bl _)⟩
  · -- tuple
    rename_i a
    obtain ⟨x, rfl, r1⟩ := hr.one
    have l1 := r1.lookR ok
    generalize a.look = d1 at h l1
    split at h <;> first | exact (Post.no h).elim | skip
    · obtain ⟨a, vs, rfl, h1, z1, q1⟩ := l1.lst
      exact call_tuple_of pins s σ g.H _ us Q I r ⟨a, vs, rfl, .inl ⟨SqL.of h1, Post.tup h ok rfl q1 z1⟩⟩
    · obtain ⟨a, vs, rfl, s1, t1, z1, q1⟩ := l1.tup ok
      exact call_tuple_of pins s σ g.H _ us Q I r ⟨a, vs, rfl, .inr ⟨t1, Post.val h ok rfl (.tup s1 z1 q1)⟩⟩
  · -- list
    rename_i a
    obtain ⟨x, rfl, r1⟩ := hr.one
    have l1 := r1.lookR ok
    generalize a.look = d1 at h l1
    split at h <;> first | exact (Post.no h).elim | skip
    · obtain ⟨a, vs, rfl, h1, z1, q1⟩ := l1.lst
      exact call_list_of pins s σ g.H _ us Q I r ⟨a, vs, rfl, .inl (SqL.of h1), Post.fresh h ok rfl q1 z1⟩
    · obtain ⟨a, vs, rfl, s1, t1, z1, q1⟩ := l1.tup ok
      exact call_list_of pins s σ g.H _ us Q I r ⟨a, vs, rfl, .inr t1, Post.fresh h ok rfl q1 z1⟩
  · -- repr
    rename_i a
    obtain ⟨x, rfl, r1⟩ := hr.one
    have l1 := r1.lookR ok
    generalize a.look = d1 at h l1
    split at h
    case isFalse => exact h.elim
    rename_i hz
    obtain ⟨h1, h2, h3, h4⟩ := hz
    obtain ⟨u, rfl, rx⟩ := vals1 r
    exact call_reprS hg hu I rx (l1.dp ok h2) h1 h2 h3 h4 (Post.val h ok rfl (.str _))
  · -- int
    rename_i a
    obtain ⟨x, rfl, r1⟩ := hr.one
    have l1 := r1.lookR ok
    generalize a.look = d1 at h l1
    split at h <;> first | exact (Post.no h).elim | skip
    · cases l1.int
      exact call_int1 pins s σ g.H _ us Q I r (.inl ⟨_, rfl, Post.val h ok rfl (.int _)⟩)
    · cases l1.bl
      exact call_int1 pins s σ g.H _ us Q I r (.inr ⟨_, rfl, Post.val h ok rfl (.int _)⟩)
  · -- str
    rename_i a
    obtain ⟨x, rfl, r1⟩ := hr.one
    have l1 := r1.lookR ok
    generalize a.look = d1 at h l1
    split at h <;> first | exact (Post.no h).elim | skip
    cases l1.int
    split at h
    case isFalse => exact h.elim
    rename_i hz
    exact call_str_int pins s σ g.H _ us Q I r ⟨_, rfl, hz, Post.val h ok rfl (.str _)⟩
  · -- sorted
    rename_i a
    obtain ⟨x, rfl, r1⟩ := hr.one
    have l1 := r1.lookR ok
    generalize a.look = d1 at h l1
    split at h <;> first | exact (Post.no h).elim | skip
    · rename_i xs
      cases e : sortD xs with
      | none => rw [e] at h; exact h.elim
      | some ys =>
        rw [e] at h
        exact call_sortedS (r := a) (xs := xs) (g0 := g) I r rfl ok l1 e h
    · rename_i xs
      cases e : dPairs xs with
      | none => rw [e] at h; exact h.elim
      | some ps =>
        rw [e] at h
        exact call_sortedU (xs := xs) (g0 := g) I r rfl ok l1 e h
end
end Px

set_option Elab.async false
set_option linter.all false
set_option maxRecDepth 100000
set_option maxHeartbeats 4000000
/-! Px, part G: when a piece of the plain language is a piece of the text. -/
namespace Px
open PySem PySem.Spec PyProof.Rows L2

/-- what a look at a def's text knows: its scope, its names by place, the defs and the constants of the module, whose cells are its own -/
structure Tx where
  sc : Scope
  N : List Str
  fns : List String
  gls : List String
  fn : Str → Bool
abbrev sO (x : String) : Str := Str.ofString x
def visB (sc : Scope) (x : Str) : Bool := match sc.names.lookup x with
  | some .local => true | some .cell => true | some .free => true | _ => false
def locB (sc : Scope) (x : Str) : Bool := match sc.names.lookup x with
  | some .local => true | some .cell => true | _ => false
def lclB (sc : Scope) (x : Str) : Bool := match sc.names.lookup x with
  | some .local => true | _ => false
def gloB (sc : Scope) (x : Str) : Bool := match sc.names.lookup x with
  | some .globalImplicit => true | _ => false
def dbgB (x : Str) : Bool := x == ("__debug__" : Str) || x == ("__classdict__" : Str) || decide (x = ("__name__" : Str))
def atB (N : List Str) (i : Nat) (x : Str) : Bool := match N[i]? with
  | some y => decide (y = x)
  | none => false
mutual
def chkG (T : Tx) : Tg → Expr → Bool
  | .nm i, .Name x _ => atB T.N i x && locB T.sc x && (T.fn x || lclB T.sc x)
  | .tup ts, .Tuple es _ _ => chkGs T ts es
  | _, _ => false
def chkGs (T : Tx) : Tgs → List Expr → Bool
  | .nil, [] => true
  | .cons t ts, e :: es => chkG T t e && chkGs T ts es
  | _, _ => false
end
mutual
def Tg.slots : Tg → List Nat
  | .nm i => [i]
  | .tup ts => ts.slots
def Tgs.slots : Tgs → List Nat
  | .nil => []
  | .cons t ts => t.slots ++ ts.slots
end
def gBlt (T : Tx) (x : Str) (n : String) : Bool := decide (x = sO n) && gloB T.sc x
def chkTy (T : Tx) (u : Ty) : Expr → Bool
  | .Name x _ => gBlt T x u.nm
  | _ => false
def chkTys (T : Tx) : List Ty → List Expr → Bool
  | [], [] => true
  | u :: us, e :: es => chkTy T u e && chkTys T us es
  | _, _ => false
def isTupE : Expr → Bool
  | .Tuple _ _ _ => true
  | _ => false
def ownS (own : List (String × Nat)) : List (Str × Nat) := own.map fun p => (sO p.1, p.2)
def Tx.blk (T : Tx) (scope : Scope) : Tx := { T with sc := relS scope T.sc, fn := fun x => scope.names.lookup x == some .cell }
def subB (xs ys : List Nat) : Bool := xs.all fun i => ys.contains i
/-- no test -/
def chkN : Ex → Bool
  | .nop => true
  | _ => false
/-- a clause's tests: none, or one -/
def chkIf (f : Expr → Bool) (no : Bool) : List Expr → Bool
  | [] => no
  | [x] => f x
  | _ => false
def notCall : Expr → Bool
  | .Call _ _ _ _ => false
  | _ => true
/-- what makes a new thing -/
def isMk : Expr → Bool
  | .List _ _ => true
  | .ListComp _ _ _ _ => true
  | .Call _ _ _ _ => true
  | _ => false
mutual
def chkE (T : Tx) : Ex → Expr → Bool
  | .var i, .Name x _ => atB T.N i x && visB T.sc x && !dbgB x
  | .int z, .Constant (.int z') _ _ => decide (z = z')
  | .bl b, .Constant (.bool b') _ _ => b == b'
  | .non, .Constant .none _ _ => true
  | .str s, .Constant (.str x) _ _ => decide (x = sO s)
  | .glob g, .Name x _ => gBlt T x g && T.gls.contains g && !dbgB x
  | .bin o a b, .BinOp l op r _ => decide (o.op = op) && chkE T a l && chkE T b r
  | .cmp o a b, .Compare l [op] [r] _ => decide (o.op = op) && chkE T a l && chkE T b r
  | .cmp2 o o' a b c, .Compare l [op, op'] [m, r] _ => decide (o.op = op) && decide (o'.op = op') && chkE T a l && chkE T b m && chkE T c r
  | .and a b, .BoolOp .And [v, w] _ => chkE T a v && chkE T b w
  | .and a b, .BoolOp .And (v :: w :: u :: r) pos => chkE T a v && chkE T b (.BoolOp .And (w :: u :: r) pos)
  | .or a b, .BoolOp .Or [v, w] _ => chkE T a v && chkE T b w
  | .or a b, .BoolOp .Or (v :: w :: u :: r) pos => chkE T a v && chkE T b (.BoolOp .Or (w :: u :: r) pos)
  | .not a, .UnaryOp .Not x _ => chkE T a x
  | .neg a, .UnaryOp .USub x _ => chkE T a x
  | .ife c a b, .IfExp t x y _ => chkE T c t && chkE T a x && chkE T b y
  | .tup es, .Tuple xs _ _ => chkA T es xs
  | .list es, .List xs _ => chkA T es xs
  | .call f es, .Call (.Name x _) xs [] _ => gBlt T x f && T.fns.contains f && !dbgB x && chkA T es xs
  | .bi b es, .Call (.Name x _) (y :: xs) [] _ => gBlt T x b.nm && chkA T es (y :: xs)
  | .isin e one ts, .Call (.Name x _) [y, t] [] _ => gBlt T x "isinstance" && chkE T e y && (match one, ts, t with
    | true, [u], t => chkTy T u t
    | false, ts, .Tuple us _ _ => chkTys T ts us && decide (ts.length < 20)
    | _, _, _ => false)
  | .ix a i, .Subscript x y _ => chkE T a x && chkE T i y
  | .sl a lo hi, .Subscript x (.Slice l h none _) _ => chkE T a x && chkO T lo l && chkO T hi h
  | .rev a, .Subscript x (.Slice none none (some (.UnaryOp .USub (.Constant (.int k) _ _) _)) _) _ => chkE T a x && decide (k = 1)
  | .sset a, .Call (.Name x _) [.Call (.Name y _) [z] [] _] [] _ => gBlt T x "sorted" && gBlt T y "set" && chkE T a z
  | .lrng a, .Call (.Name x _) [.Call (.Name y _) [z] [] _] [] _ => gBlt T x "list" && gBlt T y "range" && chkE T a z
  | .ixr a i, .Subscript x y _ => chkE T a x && chkE T i y
  | .cmpr o a b, .Compare l [op] [r] _ => decide (o.op = op) && chkE T a l && chkE T b r
  | .shr e, x => isMk x && chkE T e x
  | .popr a k, .Call (.Attribute x m ap) ys [] cp => decide (m = sO "pop") && (ap.endLine == cp.line) && notCall x && chkE T a x && (decide (ys.length ≤ 1) && chkO T k ys.head?)
  | .appr a e, .Call (.Attribute x m ap) [y] [] cp => decide (m = sO "append") && (ap.endLine == cp.line) && notCall x && chkE T a x && chkE T e y
  | .comp own tg it c elt, .ListComp e [⟨t, i, ifs, az⟩] scope _ => decide (az = 0) && blkC T.N T.sc scope (ownS own) && chkI T t it i && chkG (T.blk scope) tg t && subB tg.slots (own.map (·.2)) && chkE (T.blk scope) elt e &&
      chkIf (chkE (T.blk scope) c) (chkN c) ifs
  | .comp2 own tg it c vs1 tg1 it1 c1 elt, .ListComp e [⟨t, i, ifs, az⟩, ⟨t1, i1, ifs1, az1⟩] scope _ => decide (az = 0) && decide (az1 = 0) && blkC T.N T.sc scope (ownS own) && chkI T t it i && chkG (T.blk scope) tg t && subB tg.slots (own.map (·.2)) &&
      chkIf (chkE (T.blk scope) c) (chkN c) ifs && subB vs1 (own.map (·.2)) && chkI (T.blk scope) t1 it1 i1 && chkG (T.blk scope) tg1 t1 && subB tg1.slots vs1 && chkIf (chkE (T.blk scope) c1) (chkN c1) ifs1 && chkE (T.blk scope) elt e
  | _, _ => false
def chkA (T : Tx) : Exs → List Expr → Bool
  | .nil, [] => true
  | .cons e es, x :: xs => chkE T e x && chkA T es xs
  | _, _ => false
def chkO (T : Tx) : Exo → Option Expr → Bool
  | .no, none => true
  | .yes e, some x => chkE T e x
  | _, _ => false
def chkI (T : Tx) (tg : Expr) : Itx → Expr → Bool
  | .val e, x => chkE T e x
  | .rng1 a, .Call (.Name n _) [x] [] _ => gBlt T n "range" && chkE T a x
  | .rng2 a b, .Call (.Name n _) [x, y] [] _ => gBlt T n "range" && chkE T a x && chkE T b y
  | .enum e, .Call (.Name n _) [x] [] _ => gBlt T n "enumerate" && chkE T e x && isTupE tg
  | .zip a b, .Call (.Name n _) [x, y] [] _ => gBlt T n "zip" && chkE T a x && chkE T b y && isTupE tg
  | _, _ => false
end
end Px

set_option Elab.async false
set_option linter.all false
set_option maxRecDepth 100000
set_option maxHeartbeats 4000000
/-! Px, part H: contexts, calls, the small expressions. -/
namespace Px
open PySem PySem.Spec PyProof.Rows L2

/-- a def's promise: it does what the plain function says -/
structure FnP (P : Program) (w : World) (K : PySem.W.Frag) (mg : Str → Option Value) (base : Heap) (n : Nat) (a : Addr) (fd : FuncData) (ps : List Str) (f : List D → Sto → Res Rv) : Prop where
  len : ∀ ds S, f ds S ≠ .stuck → ds.length = ps.length
  run : ∀ (A : Around) (outer : List Env) (s : Shared) (g : Gh) (args : Args) (us : List Value) (vs : List V) (ds : List D) (Q : VK) (E : XK), Room n A → A.guards = some [] → Env0 P w K mg base A outer s g.H →
    BindsTo s fd args (ps.zip us) → Vals vs us → Gok K g → g.Reps K ds vs → Post K E (RvR K) g (f ds g.S) Q → codeAny (model P w) A (.call (.ref a) args) (CR CX0 outer P w g.H s Q E) s
def FnAt (P : Program) (w : World) (K : PySem.W.Frag) (mg : Str → Option Value) (base : Heap) (n : Nat) (f : String) (φ : List D → Sto → Res Rv) : Prop :=
  ∃ a fd ps, mg (sO f) = some (.ref a) ∧ PySem.W.keepIn K (.ref a) = true ∧ Binds K fd ps [] ∧ FnP P w K mg base n a fd ps φ
def blts : List String := ["len", "abs", "max", "min", "sum", "all", "any", "tuple", "list", "repr", "isinstance", "range", "enumerate", "zip", "int", "bool", "str", "dict", "sorted", "set", "reversed"]
structure Ctx (X : Cx) (F : Cf) (fns gls : List String) (n : Nat) : Prop where
  calm : X.calm = true
  nd : X.N.Nodup
  room : Room n X.A
  grd : X.A.guards = some []
  bl : ∀ b ∈ blts, X.mg (sO b) = none
  fn : ∀ f ∈ fns, FnAt X.prog X.w X.K X.mg X.base n f (F.call f)
  gl : ∀ x ∈ gls, ∃ u v, X.mg (sO x) = some u ∧ RelV v u ∧ ∀ d, F.glob x = some d → ∀ sa R, Rep X.K sa R d v
abbrev tx (X : Cx) (fns gls : List String) : Tx := ⟨X.env.scope, X.N, fns, gls, X.fn⟩
section
variable {X : Cx} {F : Cf} {fns gls : List String} {n : Nat} {E : XK}
theorem Ctx.un (c : Ctx X F fns gls n) : X.A.units + 200 < cLine := by have := c.room.un; omega

theorem vis_of {sc : Scope} {x : Str} (h : visB sc x = true) : Vis sc x := by
  unfold visB at h
  split at h
  · exact .inl (by assumption)
  · exact .inr (.inl (by assumption))
  · exact .inr (.inr (by assumption))
  · cases h
theorem loc_of {sc : Scope} {x : Str} (h : locB sc x = true) : Loc sc x := by
  unfold locB at h
  split at h
  · exact .inl (by assumption)
  · exact .inr (by assumption)
  · cases h
theorem lcl_of {sc : Scope} {x : Str} (h : lclB sc x = true) : sc.names.lookup x = some .local := by
  unfold lclB at h
  split at h
  · assumption
  · cases h
theorem at_of {N : List Str} {i : Nat} {x : Str} (h : atB N i x = true) : N[i]? = some x := by
  unfold atB at h
  split at h
  · rename_i y e
    rw [e, of_decide_eq_true h]
  · cases h
theorem glo_of {sc : Scope} {x : Str} (h : gloB sc x = true) : sc.names.lookup x = some .globalImplicit := by
  unfold gloB at h
  split at h
  · assumption
  · cases h
theorem dbg_of {x : Str} (h : (!dbgB x) = true) : (x == ("__debug__" : Str)) = false ∧ (x == ("__classdict__" : Str)) = false ∧ x ≠ ("__name__" : Str) := by
  unfold dbgB at h
  rw [Bool.not_eq_true', Bool.or_eq_false_iff, Bool.or_eq_false_iff] at h
  exact ⟨h.1.1, h.1.2, of_decide_eq_false h.2⟩
theorem gBlt_of {T : Tx} {x : Str} {m : String} (h : gBlt T x m = true) : x = sO m ∧ T.sc.names.lookup x = some .globalImplicit := by
  unfold gBlt at h
  rw [Bool.and_eq_true] at h
  exact ⟨of_decide_eq_true h.1, glo_of h.2⟩

/-! ### names, constants -/
theorem s_var {i : Nat} {x : Str} {pos : Pos} (h1 : X.N[i]? = some x) (h2 : Vis X.env.scope x) (h3 : (x == ("__debug__" : Str)) = false) (h4 : (x == ("__classdict__" : Str)) = false) : PE X (.Name x pos) (rdE X.K E (evE F (.var i))) :=
  PE.imp (pe_var h1 h2 h3 h4) fun σ H Q ⟨g0, g, sl, e, ok, so, h⟩ => by
    subst e
    unfold evE at h
    split at h
    · rename_i d e1
      obtain ⟨v, e2, x, e3, r⟩ := so.at_ i _ e1
      rw [e3] at e2
      exact ⟨x, e2, h g x rfl ok (Stp.refl g) r⟩
    · rename_i c e1
      obtain ⟨v, e2, a, o, e3, h1, h2, h3, h4, h5⟩ := so.at_ i _ e1
      rw [e3] at e2
      exact ⟨.ref a, e2, h g (.ref a) rfl ok (Stp.refl g) ⟨a, o, rfl, h1, h2, h3, h4⟩⟩
    · exact h.elim
theorem s_const {e : Expr} {v : V} {d : D} (h : PE X e (tC v)) (r : ∀ sa R, Rep X.K sa R d v) {f : Slots → Sto → Res Rv} (hf : ∀ sl S, f sl S = .ok (.val d) S) : PE X e (rdE X.K E f) :=
  PE.imp h fun σ H Q ⟨g0, g, sl, e, ok, so, h⟩ => by
    subst e
    rw [hf] at h
    exact h g v rfl ok (Stp.refl g) (r _ _)

/-! ### operators -/
section
variable {a b c : Expr} {fa fb fc : Slots → Sto → Res Rv} {pos : Pos}
theorem s_op2 {ex : Expr} {sem : Rv → Rv → Option Rv} (mk : ∀ {ta tb : TE}, PE X a ta → PE X b tb → PE X ex (tOp (rOp2 X.K E sem) ta tb)) (ha : PE X a (rdE X.K E fa)) (hb : PE X b (rdE X.K E fb)) :
    PE X ex (rdE X.K E fun sl S => (fa sl S).bind fun x S1 => (fb sl S1).bind fun y S2 => Res.opt (sem x y) S2) :=
  PE.imp (mk ha hb) fun σ H Q ⟨g0, g, sl, e, ok, so, h⟩ => by
    subst e
    refine ⟨g0, g, sl, rfl, ok, so, Post.bind h fun g1 x v ok1 st1 r1 h1 => ?_⟩
    refine ⟨g0, g1, sl, rfl, ok1, so.step st1, Post.bind (h1.shiftE st1) fun g2 y u ok2 st2 r2 h2 => ?_⟩
    exact ⟨g, g2, x, y, rfl, ok2, r1.after st2, r2.ahead st1, h2.shiftE st2⟩
theorem s_un {ex : Expr} {sem : Rv → Option Rv} (mk : ∀ {ta : TE}, PE X a ta → PE X ex (tUn (rOp1 X.K E sem) ta)) (ha : PE X a (rdE X.K E fa)) :
    PE X ex (rdE X.K E fun sl S => (fa sl S).bind fun x S1 => Res.opt (sem x) S1) :=
  PE.imp (mk ha) fun σ H Q ⟨g0, g, sl, e, ok, so, h⟩ => by
    subst e
    refine ⟨g0, g, sl, rfl, ok, so, Post.bind h fun g1 x v ok1 st1 r1 h1 => ?_⟩
    exact ⟨g, g1, x, rfl, ok1, r1, h1.shiftE st1⟩
def semNeg (a : Rv) : Option Rv := match a.look with | .int i => some (.val (.int (-i))) | _ => none
theorem un_negS : UnR X (unaryOp .USub) (rOp1 X.K E semNeg) := by
  intro pins s σ H x v Q I rx ⟨g0, g, ra, e, ok, r1, h⟩
  subst e
  have l1 := r1.lookR ok
  unfold semNeg at h
  generalize ra.look = d1 at h l1
  split at h
  · cases l1.int
    exact un_neg pins s σ g.H _ v Q I rx ⟨_, rfl, Post.val h ok rfl (.int _)⟩
  · exact (Post.no h).elim
/-- what a value's truth is -/
theorem truV_of {g : Gh} {d : D} {v : V} {k : Bool} (ok : Gok X.K g) (l : LookR X.K g d v) (h : d.truth = some k) : TruV X.K v g.H k := by
  cases d with
  | non => cases l.non; cases h; rfl
  | bl b => cases l.bl; cases h; rfl
  | int i => cases l.int; cases h; rfl
  | str z =>
    cases l.str
    have h' : (if z.length ≤ sizeLine then some ((z.length : Int) != 0) else none) = some k := h
    by_cases hz : z.length ≤ sizeLine
    · rw [if_pos hz] at h'; cases h'; exact ⟨hz, rfl⟩
    · rw [if_neg hz] at h'; cases h'
  | tup xs =>
    obtain ⟨a, vs, rfl, s1, t1, z1, q1⟩ := l.tup ok
    cases h
    refine .inr (.inl ⟨vs, t1, ?_⟩)
    cases q1 <;> rfl
  | lst xs =>
    obtain ⟨a, vs, rfl, h1, z1, q1⟩ := l.lst
    cases h
    refine .inl ⟨vs, SqL.of h1, ?_⟩
    cases q1 <;> rfl
  | scr xs =>
    obtain ⟨a, vs, rfl, h1, z1, q1⟩ := l.scr ok
    cases h
    refine .inl ⟨vs, h1, ?_⟩
    cases q1 <;> rfl
  | dic _ _ => cases h
  | ref _ => cases h
theorem Post.optBind {K : PySem.W.Frag} {α γ δ : Type} {RS : Gh → Gh → γ → δ → Prop} {g : Gh} {o : Option α} {S : Sto} {k : α → Sto → Res γ} {Q : δ → Hp → Prop} (h : Post K E RS g ((Res.opt o S).bind k) Q) : ∃ a, o = some a ∧ Post K E RS g (k a S) Q := by
  cases o with
  | none => exact h.elim
  | some a => exact ⟨a, rfl, h⟩
/-- a test by the value's truth -/
theorem s_truth (ha : PE X a (rdE X.K E fa)) (he : ∀ whole, isTrue a X.env whole = (do let v ← whole; standAt a.pos; holding [v] (truthy v))) : PT X a (rdT X.K E fun sl S => (fa sl S).truth) :=
  PT.imp (pt_truth ha he) fun σ H Q ⟨g0, g, sl, e, ok, so, h⟩ => by
    subst e
    refine ⟨g0, g, sl, rfl, ok, so, Post.bind h fun g1 x v ok1 st1 r1 h1 => ?_⟩
    cases e1 : x.look.truth with
    | none => rw [e1] at h1; exact h1.elim
    | some k =>
      rw [e1] at h1
      exact ⟨k, truV_of ok1 (r1.lookR ok1) e1, h1 g1 k rfl ok1 st1 rfl⟩
theorem s_not (ha : PE X a (rdE X.K E fa)) : PE X (.UnaryOp .Not a pos) (rdE X.K E fun sl S => (fa sl S).bind fun x S1 => (Res.opt x.look.truth S1).bind fun k S2 => .ok (.val (.bl (!k))) S2) :=
  PE.imp (pe_notT ha) fun σ H Q ⟨g0, g, sl, e, ok, so, h⟩ => by
    subst e
    refine ⟨g0, g, sl, rfl, ok, so, Post.bind h fun g1 x v ok1 st1 r1 h1 => ?_⟩
    obtain ⟨k, e1, h2⟩ := Post.optBind h1
    exact ⟨k, truV_of ok1 (r1.lookR ok1) e1, h2 g1 _ rfl ok1 st1 (.bl _)⟩
theorem s_and {rest : List Expr} (ha : PE X a (rdE X.K E fa)) (hb : PE X (.BoolOp .And (b :: rest) pos) (rdE X.K E fb)) :
    PE X (.BoolOp .And (a :: b :: rest) pos) (rdE X.K E fun sl S => (fa sl S).bind fun x S1 => (Res.opt x.look.truth S1).bind fun k S2 => if k then fb sl S2 else .ok x S2) :=
  PE.imp (pe_andT ha hb) fun σ H Q ⟨g0, g, sl, e, ok, so, h⟩ => by
    subst e
    refine ⟨g0, g, sl, rfl, ok, so, Post.bind h fun g1 x v ok1 st1 r1 h1 => ?_⟩
    obtain ⟨k, e1, h2⟩ := Post.optBind h1
    refine ⟨k, truV_of ok1 (r1.lookR ok1) e1, ?_⟩
    cases k with
    | true => exact ⟨g0, g1, sl, rfl, ok1, so.step st1, h2.shiftE st1⟩
    | false => exact h2 g1 v rfl ok1 st1 r1
theorem s_or {rest : List Expr} (ha : PE X a (rdE X.K E fa)) (hb : PE X (.BoolOp .Or (b :: rest) pos) (rdE X.K E fb)) :
    PE X (.BoolOp .Or (a :: b :: rest) pos) (rdE X.K E fun sl S => (fa sl S).bind fun x S1 => (Res.opt x.look.truth S1).bind fun k S2 => if k then .ok x S2 else fb sl S2) :=
  PE.imp (pe_orT ha hb) fun σ H Q ⟨g0, g, sl, e, ok, so, h⟩ => by
    subst e
    refine ⟨g0, g, sl, rfl, ok, so, Post.bind h fun g1 x v ok1 st1 r1 h1 => ?_⟩
    obtain ⟨k, e1, h2⟩ := Post.optBind h1
    refine ⟨k, truV_of ok1 (r1.lookR ok1) e1, ?_⟩
    cases k with
    | true => exact h2 g1 v rfl ok1 st1 r1
    | false => exact ⟨g0, g1, sl, rfl, ok1, so.step st1, h2.shiftE st1⟩
/-- .. as tests -/
theorem s_andT {rest : List Expr} (ha : PT X a (rdT X.K E fun sl S => (fa sl S).truth)) (hb : PW X (.BoolOp .And (b :: rest) pos) (rdT X.K E fun sl S => (fb sl S).truth)) :
    PW X (.BoolOp .And (a :: b :: rest) pos) (rdT X.K E fun sl S => Res.truth ((fa sl S).bind fun x S1 => (Res.opt x.look.truth S1).bind fun k S2 => if k then fb sl S2 else .ok x S2)) :=
  ⟨fun whole pins s σ H Q I ⟨g0, g, sl, e, ok, so, h⟩ => by
    subst e
    refine (pw_and ha hb).run whole pins s σ g.H Q I ⟨g0, g, sl, rfl, ok, so, ?_⟩
    dsimp only at h ⊢
    cases e1 : fa sl g.S with
    | stuck => rw [e1] at h; exact h.elim
    | exc x S => rw [e1] at h; exact h
    | ok x S =>
      rw [e1] at h
      cases e2 : x.look.truth with
      | none => simp only [Res.truth, Res.bind_ok, e2, Res.opt_none, Res.bind_stuck] at h; exact h.elim
      | some k =>
        simp only [Res.truth, Res.bind_ok, e2, Res.opt_some]
        intro g1 k' hS ok1 st1 ek
        subst ek
        cases k' with
        | true =>
          simp only [Res.truth, Res.bind_ok, e2, Res.opt_some, if_true] at h
          rw [← hS] at h
          exact ⟨g0, g1, sl, rfl, ok1, so.step st1, Post.shiftT h st1⟩
        | false =>
          simp only [Res.truth, Res.bind_ok, e2, Res.opt_some, if_false, Bool.false_eq_true] at h
          exact h g1 false hS ok1 st1 rfl⟩
theorem s_orT {rest : List Expr} (ha : PT X a (rdT X.K E fun sl S => (fa sl S).truth)) (hb : PW X (.BoolOp .Or (b :: rest) pos) (rdT X.K E fun sl S => (fb sl S).truth)) :
    PW X (.BoolOp .Or (a :: b :: rest) pos) (rdT X.K E fun sl S => Res.truth ((fa sl S).bind fun x S1 => (Res.opt x.look.truth S1).bind fun k S2 => if k then .ok x S2 else fb sl S2)) :=
  ⟨fun whole pins s σ H Q I ⟨g0, g, sl, e, ok, so, h⟩ => by
    subst e
    refine (pw_or ha hb).run whole pins s σ g.H Q I ⟨g0, g, sl, rfl, ok, so, ?_⟩
    dsimp only at h ⊢
    cases e1 : fa sl g.S with
    | stuck => rw [e1] at h; exact h.elim
    | exc x S => rw [e1] at h; exact h
    | ok x S =>
      rw [e1] at h
      cases e2 : x.look.truth with
      | none => simp only [Res.truth, Res.bind_ok, e2, Res.opt_none, Res.bind_stuck] at h; exact h.elim
      | some k =>
        simp only [Res.truth, Res.bind_ok, e2, Res.opt_some]
        intro g1 k' hS ok1 st1 ek
        subst ek
        cases k' with
        | true =>
          simp only [Res.truth, Res.bind_ok, e2, Res.opt_some, if_true] at h
          exact h g1 true hS ok1 st1 rfl
        | false =>
          simp only [Res.truth, Res.bind_ok, e2, Res.opt_some, if_false, Bool.false_eq_true] at h
          rw [← hS] at h
          exact ⟨g0, g1, sl, rfl, ok1, so.step st1, Post.shiftT h st1⟩⟩
theorem s_notT (ha : PT X a (rdT X.K E fun sl S => (fa sl S).truth)) : PT X (.UnaryOp .Not a pos) (rdT X.K E fun sl S => Res.truth ((fa sl S).bind fun x S1 => (Res.opt x.look.truth S1).bind fun k S2 => .ok (.val (.bl (!k))) S2)) :=
  PT.imp (pt_not ha) fun σ H Q ⟨g0, g, sl, e, ok, so, h⟩ => by
    subst e
    refine ⟨g0, g, sl, rfl, ok, so, ?_⟩
    dsimp only at h ⊢
    cases e1 : fa sl g.S with
    | stuck => rw [e1] at h; exact h.elim
    | exc x S => rw [e1] at h; exact h
    | ok x S =>
      rw [e1] at h
      cases e2 : x.look.truth with
      | none => simp only [Res.truth, Res.bind_ok, e2, Res.opt_none, Res.bind_stuck] at h; exact h.elim
      | some k =>
        simp only [Res.truth, Res.bind_ok, e2, Res.opt_some] at h ⊢
        intro g1 k' hS ok1 st1 ek
        subst ek
        exact h g1 _ hS ok1 st1 rfl
theorem s_ife (hc : PT X c (rdT X.K E fun sl S => (fc sl S).truth)) (ha : PE X a (rdE X.K E fa)) (hb : PE X b (rdE X.K E fb)) :
    PE X (.IfExp c a b pos) (rdE X.K E fun sl S => (fc sl S).truth.bind fun k S1 => if k then fa sl S1 else fb sl S1) :=
  PE.imp (pe_ifExp hc ha hb) fun σ H Q ⟨g0, g, sl, e, ok, so, h⟩ => by
    subst e
    refine ⟨g0, g, sl, rfl, ok, so, Post.bind h fun g1 k v ok1 st1 r1 h1 => ?_⟩
    subst r1
    cases v with
    | true => exact ⟨g0, g1, sl, rfl, ok1, so.step st1, h1.shiftE st1⟩
    | false => exact ⟨g0, g1, sl, rfl, ok1, so.step st1, h1.shiftE st1⟩
/-- a test of an IfExp, of a comparison: by the value -/
theorem s_cmpT {op : CmpOp} {o : Cop} (hu : X.A.units + 65 < cLine) (hm : behindInMarks op b = false) (ho : o.op = op) (ha : PE X a (rdE X.K E fa)) (hb : PE X b (rdE X.K E fb)) :
    PT X (.Compare a [op] [b] pos) (rdT X.K E fun sl S => Res.truth ((fa sl S).bind fun x S1 => (fb sl S1).bind fun y S2 => Res.opt (semC o x y) S2)) := by
  subst ho
  refine PT.imp (pt_cmpR (op_cmpS (E := E) hu o) ha hb hm) fun σ H Q ⟨g0, g, sl, e, ok, so, h⟩ => ?_
  subst e
  dsimp only at h
  refine ⟨g0, g, sl, rfl, ok, so, Post.bind (RS := fun _ _ a (b : Bool) => b = a) (γ := Bool) (k := fun x S1 => Res.truth ((fb sl S1).bind fun y S2 => Res.opt (semC o x y) S2)) (by
    cases e1 : fa sl g.S <;> rw [e1] at h <;> exact h) fun g1 x v ok1 st1 r1 h1 => ?_⟩
  refine ⟨g0, g1, sl, rfl, ok1, so.step st1, Post.bind (RS := fun _ _ a (b : Bool) => b = a) (γ := Bool) (k := fun y S2 => Res.truth (Res.opt (semC o x y) S2)) (by
    have h1 := Post.shiftT h1 st1
    cases e1 : fb sl g1.S <;> rw [e1] at h1 <;> exact h1) fun g2 y u ok2 st2 r2 h2 => ?_⟩
  refine ⟨g, g2, x, y, rfl, ok2, r1.after st2, r2.ahead st1, ?_⟩
  cases e1 : semC o x y with
  | none => rw [e1] at h2; exact h2.elim
  | some r =>
    rw [e1] at h2
    unfold semC at e1
    obtain ⟨k, e2, e3⟩ := Option.map_eq_some_iff.mp e1
    subst e3
    intro g3 v3 hS ok3 st3 r3
    have r3' : g3.Rep X.K (.bl k) v3 := r3
    cases r3'
    exact ⟨k, rfl, (Post.shiftT h2 st2) g3 k hS ok3 st3 rfl⟩
end
end
end Px

set_option Elab.async false
set_option linter.all false
set_option maxRecDepth 100000
set_option maxHeartbeats 4000000
/-! Px, part I: displays, arguments, calls, subscripts. -/
namespace Px
open PySem PySem.Spec PyProof.Rows L2
theorem Res.bind_assoc {α β γ : Type} (r : Res α) (k : α → Sto → Res β) (l : β → Sto → Res γ) : (r.bind k).bind l = r.bind fun a S => (k a S).bind l := by cases r <;> rfl
def notStar : Expr → Bool
  | .Starred _ _ => false
  | _ => true
theorem star_cons {e : Expr} {es : List Expr} {env : Env} (h : notStar e = true) : starEach (e :: es) env = (false, eval e env) :: starEach es env := by
  cases e <;> first | rfl | cases h
theorem star_plain {env : Env} {pos : Pos} : ∀ {es : List Expr}, (∀ e ∈ es, notStar e = true) → (backTo pos (starEach es env)).any (·.1) = false
  | [], _ => rfl
  | e :: es, h => by
    rw [star_cons (h e List.mem_cons_self)]
    show (false || (backTo pos (starEach es env)).any (·.1)) = false
    rw [star_plain fun x hx => h x (List.mem_cons_of_mem _ hx)]
    rfl
section
variable {X : Cx} {F : Cf} {fns gls : List String} {n : Nat} {E : XK} {a b c e : Expr} {es : List Expr} {fa fb fc : Slots → Sto → Res Rv} {pos : Pos}
theorem Post.bindAt {K : PySem.W.Frag} {α β γ δ : Type} {RR : Gh → Gh → α → β → Prop} {RS : Gh → Gh → γ → δ → Prop} {g g1 : Gh} {f : Res α} {k : α → Sto → Res γ} {Q : δ → Hp → Prop} {Q1 : β → Hp → Prop} (st : Stp g g1) (h : Post K E RS g (f.bind k) Q)
    (hk : ∀ g2 a v, Gok K g2 → Stp g1 g2 → RR g1 g2 a v → Post K E RS g (k a g2.S) Q → Q1 v g2.H) : Post K E RR g1 f Q1 := by
  cases f with
  | ok a S => intro g' v e ok s r; subst e; exact hk g' a v ok s r h
  | exc x S => intro g' C od e ok s q; exact h g' C od e ok (st.trans s) q
  | stuck => exact h
/-- data of an expression, then more -/
theorem Post.data {K : PySem.W.Frag} {γ δ : Type} {RS : Gh → Gh → γ → δ → Prop} {g0 g : Gh} {sl : Slots} {σ : L2.St} {r : Res Rv} {k : D → Sto → Res γ} {Q : δ → Hp → Prop} {Q1 : V → Hp → Prop} (so : SlOk K g0 g σ sl) (h : Post K E RS g (r.data.bind k) Q)
    (hk : ∀ g1 d v, Gok K g1 → Stp g g1 → SlOk K g0 g1 σ sl → g1.Rep K d v → Post K E RS g (k d g1.S) Q → Q1 v g1.H) : Post K E (RvR K) g r Q1 := by
  unfold Res.data at h
  rw [Res.bind_assoc] at h
  refine Post.bind h fun g1 x v ok1 st1 r1 h1 => ?_
  obtain ⟨d, e1, h2⟩ := Post.optBind h1
  obtain ⟨g2, q1, q2, q3, q4, q5, q6⟩ := r1.esc ok1 st1 e1
  rw [← q1]
  rw [← q2] at h2
  exact hk g2 d v q3 q4 (so.step q4) q6 h2
theorem s_nil {es : List Expr} (h : es = []) : PA X es (rdA X.K E (evA F .nil)) := by
  subst h
  exact PA.imp pa_nil fun σ H Q ⟨g0, g, sl, e, ok, so, h⟩ => by
    subst e
    unfold evA at h
    exact h g [] rfl ok (Stp.refl g) .nil
theorem s_cons {x : Ex} {xs : Exs} (hs : notStar e = true) (ha : PE X e (rdE X.K E (evE F x))) (hr : PA X es (rdA X.K E (evA F xs))) : PA X (e :: es) (rdA X.K E (evA F (.cons x xs))) :=
  PA.imp (pa_cons ha hr (star_cons hs)) fun σ H Q ⟨g0, g, sl, e, ok, so, h⟩ => by
    subst e
    unfold evA at h
    refine ⟨g0, g, sl, rfl, ok, so, Post.data so h fun g1 d v ok1 st1 so1 r1 h1 => ?_⟩
    refine ⟨g0, g1, sl, rfl, ok1, so1, Post.bind (h1.shiftA st1) fun g2 ds vs ok2 st2 r2 h2 => ?_⟩
    exact h2 g2 (v :: vs) rfl ok2 st2 (.cons (st2.gro.rep r1) r2)
theorem s_nilR {es : List Expr} (h : es = []) : PA X es (rdR X.K E (evR F .nil)) := by
  subst h
  exact PA.imp pa_nil fun σ H Q ⟨g0, g, sl, e, ok, so, h⟩ => by
    subst e
    unfold evR at h
    exact h g [] rfl ok (Stp.refl g) .nil
theorem s_consR {x : Ex} {xs : Exs} (hs : notStar e = true) (ha : PE X e (rdE X.K E (evE F x))) (hr : PA X es (rdR X.K E (evR F xs))) : PA X (e :: es) (rdR X.K E (evR F (.cons x xs))) :=
  PA.imp (pa_cons ha hr (star_cons hs)) fun σ H Q ⟨g0, g, sl, e, ok, so, h⟩ => by
    subst e
    unfold evR at h
    refine ⟨g0, g, sl, rfl, ok, so, Post.bind h fun g1 d v ok1 st1 r1 h1 => ?_⟩
    refine ⟨g0, g1, sl, rfl, ok1, so.step st1, Post.bindAt st1 h1 fun g2 ds vs ok2 st2 r2 h2 => ?_⟩
    exact h2 g2 (v :: vs) rfl ok2 (st1.trans st2) (.cons (r1.after st2) (r2.ahead st1))

theorem s_tup {xs : Exs} {k : Nat} (ha : PA X es (rdA X.K E (evA F xs))) : PE X (.Tuple es k pos) (rdE X.K E (evE F (.tup xs))) :=
  PE.imp (pe_tup ha) fun σ H Q ⟨g0, g, sl, e, ok, so, h⟩ => by
    subst e
    unfold evE at h
    refine ⟨g0, g, sl, rfl, ok, so, Post.bind h fun g1 ds vs ok1 st1 r1 h1 => ?_⟩
    split at h1
    case isFalse => exact h1.elim
    rename_i hz
    exact ⟨by rw [← r1.length]; exact hz, Post.tup (h1.shiftE st1) ok1 rfl r1 hz⟩
theorem s_list {xs : Exs} (ha : PA X es (rdA X.K E (evA F xs))) : PE X (.List es pos) (rdE X.K E (evE F (.list xs))) :=
  PE.imp (pe_lst ha) fun σ H Q ⟨g0, g, sl, e, ok, so, h⟩ => by
    subst e
    unfold evE at h
    refine ⟨g0, g, sl, rfl, ok, so, Post.bind h fun g1 ds vs ok1 st1 r1 h1 => ?_⟩
    split at h1
    case isFalse => exact h1.elim
    rename_i hz
    exact ⟨by rw [← r1.length]; exact hz, Post.fresh (h1.shiftE st1) ok1 rfl r1 hz⟩

/-- the call of a def, from a body -/
theorem run_P {P : Program} {a : Addr} {fd : FuncData} {ps : List Str} {φ : List D → Sto → Res Rv} {pins : List (Addr × Obj)} {σ : L2.St} {s : Shared} {Q : VK} {us : List Value} {vs : List V} {g : Gh} {ds : List D}
    (G : FnP X.prog X.w X.K X.mg X.base n a fd ps φ) (hr : Room n X.A) (hg : X.A.guards = some []) (hb : Binds X.K fd ps []) (I : Inv X pins σ g.H s) (r : Vals vs us) (ok : Gok X.K g) (q : g.Reps X.K ds vs)
    (h : Post X.K E (RvR X.K) g (φ ds g.S) Q) : wpAny (model X.prog X.w) X.A (call (.ref a) us) (EP X pins σ Q) X.xe s := by
  have hl : ds.length = ps.length := G.len ds g.S fun e => by rw [e] at h; exact h
  have hl2 : (us ++ ([] : List Value)).length = ps.length := by rw [List.append_nil, ← r.length, ← q.length, hl]
  have hb2 := hb s us I.kIn hl2
  rw [List.append_nil] at hb2
  refine wpAny_call (codeAny_mono (G.run X.A X.stack s g ⟨us, []⟩ us vs ds Q E hr hg I.env0 hb2 r ok q h) fun rr s' hq => ?_)
  cases rr with
  | error e => exact (show False from hq).elim
  | ok fl =>
    cases fl with
    | ret u => exact I.after hq
    | next => exact False.elim hq
    | brk => exact False.elim hq
    | cont => exact False.elim hq
theorem s_call (c : Ctx X F fns gls n) {f : String} {x : Str} {p : Pos} {xs : Exs} (hx : x = sO f) (hgl : X.env.scope.names.lookup x = some .globalImplicit) (hf : f ∈ fns) (hd : (x == ("__debug__" : Str)) = false)
    (hst : ∀ e ∈ es, notStar e = true) (hz : es = [] → xs = .nil) (ha : PA X es (rdA X.K E (evA F xs))) : PE X (.Call (.Name x p) es [] pos) (rdE X.K E (evE F (.call f xs))) := by
  obtain ⟨a, fd, ps, hm, hk, hb, G⟩ := c.fn f hf
  refine ⟨fun pins s σ H Q I ⟨g0, g, sl, e, ok, so, h⟩ => ?_⟩
  subst e hx
  unfold evE at h
  refine wpAny_Call_Name_kw (ld_glob I hgl hm ?_ hd)
  cases es with
  | nil =>
    refine PySem.W.callWith_K0 I.kIn hk ?_
    have := hz rfl
    subst this
    unfold evA at h
    exact run_P (P := X.prog) (vs := []) G c.room c.grd hb I .nil ok .nil h
  | cons e0 es =>
    refine PySem.W.callWith_K (h₀ := X.base) I.ok.mod.kin hk (thn (ha.run pos pins s σ g.H (fun vs H1 => ∃ g1 ds, g1.H = H1 ∧ Gok X.K g1 ∧ g1.Reps X.K ds vs ∧ Post X.K E (RvR X.K) g1 (F.call f ds g1.S) Q) I ?_) fun us s1 ⟨vs, H1, I1, r, g1, ds, e1, ok1, q1, h1⟩ => ⟨I1.kIn, ?_⟩) (star_cons (hst _ List.mem_cons_self)) (star_plain fun z hz => hst z (List.mem_cons_of_mem _ hz))
    · refine ⟨g0, g, sl, rfl, ok, so, Post.bind h fun g1 ds vs ok1 st1 r1 h1 => ?_⟩
      exact ⟨g1, ds, rfl, ok1, r1, h1.shiftE st1⟩
    · subst e1
      exact run_P (P := X.prog) G c.room c.grd hb I1 r ok1 q1 h1

/-! ### builtins -/
theorem bi_boot : ∀ b : Bi, bootBuiltins (sO b.nm) = some b.val
  | .len => by decide +kernel | .abs => by decide +kernel | .max2 => by decide +kernel | .min2 => by decide +kernel | .maxL => by decide +kernel | .minL => by decide +kernel
  | .sum => by decide +kernel | .all => by decide +kernel | .any => by decide +kernel | .tuple => by decide +kernel | .list => by decide +kernel | .repr => by decide +kernel
  | .int => by decide +kernel | .str => by decide +kernel | .sorted => by decide +kernel
theorem bi_in (b : Bi) : b.nm ∈ blts := by cases b <;> decide
theorem bi_nn (b : Bi) : sO b.nm ≠ "__name__" := by cases b <;> decide +kernel
theorem bi_nd (b : Bi) : (sO b.nm == ("__debug__" : Str)) = false := by cases b <;> decide +kernel
theorem s_bi (c : Ctx X F fns gls n) {bi : Bi} {x : Str} {p : Pos} {xs : Exs} (hx : x = sO bi.nm) (hgl : X.env.scope.names.lookup x = some .globalImplicit)
    (hst : ∀ y ∈ e :: es, notStar y = true) (ha : PA X (e :: es) (rdR X.K E (evR F xs))) : PE X (.Call (.Name x p) (e :: es) [] pos) (rdE X.K E (evE F (.bi bi xs))) := by
  subst hx
  have hm := c.bl _ (bi_in bi)
  have hs := star_cons (env := X.env) (es := es) (hst e List.mem_cons_self)
  have hp := star_plain (env := X.env) (pos := pos) fun z hz => hst z (List.mem_cons_of_mem e hz)
  have hcr := call_biS (E := E) c.calm c.grd (by have := c.un; omega) bi
  have key : PE X (.Call (.Name (sO bi.nm) p) (e :: es) [] pos) (tCB (rBi X.K E bi) (rdR X.K E (evR F xs))) := by
    by_cases ht : bi = .tuple ∨ bi = .list ∨ bi = .int ∨ bi = .str
    · rcases ht with ht | ht | ht | ht
      · subst ht
        exact pe_callTy (T := "tuple") hcr hgl hm (bi_boot .tuple) ha (bi_nn .tuple) (bi_nd .tuple) hs hp
      · subst ht
        exact pe_callTy (T := "list") hcr hgl hm (bi_boot .list) ha (bi_nn .list) (bi_nd .list) hs hp
      · subst ht
        exact pe_callTy (T := "int") hcr hgl hm (bi_boot .int) ha (bi_nn .int) (bi_nd .int) hs hp
      · subst ht
        exact pe_callTy (T := "str") hcr hgl hm (bi_boot .str) ha (bi_nn .str) (bi_nd .str) hs hp
    · have e1 : bi.val = .builtin bi.nm := by cases bi <;> first | rfl | (exfalso; exact ht (.inl rfl)) | (exfalso; exact ht (.inr (.inl rfl))) | (exfalso; exact ht (.inr (.inr (.inl rfl)))) | (exfalso; exact ht (.inr (.inr (.inr rfl))))
      have hcr' : CallR X (.builtin bi.nm) (rBi X.K E bi) := by rw [← e1]; exact hcr
      exact pe_callB hcr' hgl hm (by rw [bi_boot, e1]) ha (bi_nn bi) (bi_nd bi) hs hp
  exact PE.imp key fun σ H Q ⟨g0, g, sl, e, ok, so, h⟩ => by
    subst e
    unfold evE at h
    refine ⟨g0, g, sl, rfl, ok, so, Post.bind h fun g1 ds vs ok1 st1 r1 h1 => ?_⟩
    exact ⟨g, g1, ds, rfl, ok1, r1, h1.shiftE st1⟩

/-! ### isinstance -/
def D.tyN : D → String
  | .non => "NoneType"
  | .bl _ => "bool" | .int _ => "int" | .str _ => "str" | .tup _ => "tuple" | .lst _ => "list" | .scr _ => "list" | .dic _ _ => "dict" | .ref _ => "list"
theorem tyX_of {g : Gh} {d : D} {v : V} (ok : Gok X.K g) (l : LookR X.K g d v) : TyX X.K g.H v (.type d.tyN) := by
  cases d with
  | non => cases l.non; exact .base .non
  | bl b => cases l.bl; exact .base (.bl _)
  | int b => cases l.int; exact .base (.int _)
  | str b => cases l.str; exact .base (.str _)
  | tup xs =>
    obtain ⟨a, vs, rfl, s1, t1, z1, q1⟩ := l.tup ok
    rcases t1 with (t1 | ⟨o, t1⟩) | ⟨o, its, m, t1, t2, _⟩
    · exact .base (.tup t1)
    · exact .fTuple t1
    · exact .kTuple t1 t2
  | lst xs =>
    obtain ⟨a, vs, rfl, h1, z1, q1⟩ := l.lst
    exact .base (.lst h1)
  | scr xs =>
    obtain ⟨a, vs, rfl, t1, z1, q1⟩ := l.scr ok
    rcases t1 with (t1 | ⟨o, t1⟩) | ⟨o, its, m, t1, t2, _⟩
    · exact .base (.lst t1)
    · exact .base (.frz t1)
    · exact .kList t1 t2
  | dic _ _ => have h' : g.Rep X.K (.dic _ _) v := l; cases h'
  | ref i =>
    have h' : g.Rep X.K (.ref i) v := l
    cases h' with | ref e1 =>
    have hi : i < g.S.length := by rw [← ok.len]; exact (List.getElem?_eq_some_iff.mp e1).1
    obtain ⟨o, q1, q2, _⟩ := ok.sto i _ _ e1 (List.getElem?_eq_getElem hi)
    generalize g.S[i] = cc at q2
    cases cc with
    | lst ys => obtain ⟨_, vs, rfl, _⟩ := q2; exact .base (.lst q1)
def isIn1 (d : D) (u : Ty) : Bool := match d.ty with | some t => t.sub u | none => false
theorem kitB_ty (t u : Ty) : kitB t.nm u.nm = some (t.sub u) := by cases t <;> cases u <;> decide +kernel
theorem kitB_non (u : Ty) : kitB "NoneType" u.nm = some false := by cases u <;> decide +kernel
theorem kit1 {K : PySem.W.Frag} (d : D) (u : Ty) : PySem.W.kitOne K (.type d.tyN) (.type u.nm) = some (isIn1 d u) := by
  cases d with
  | non => exact kit_ty (kitB_non u)
  | bl _ => exact kit_ty (kitB_ty .bool u)
  | int _ => exact kit_ty (kitB_ty .int u)
  | str _ => exact kit_ty (kitB_ty .str u)
  | tup _ => exact kit_ty (kitB_ty .tuple u)
  | lst _ => exact kit_ty (kitB_ty .list u)
  | scr _ => exact kit_ty (kitB_ty .list u)
  | dic _ _ => exact kit_ty (kitB_ty .dict u)
  | ref _ => exact kit_ty (kitB_ty .list u)
theorem isIn_eq (d : D) (ts : List Ty) : isIn d ts = ts.any (isIn1 d) := by
  unfold isIn isIn1
  cases d.ty with
  | none => induction ts with | nil => rfl | cons t ts ih => rw [List.any_cons, ← ih]; rfl
  | some t => rfl
theorem kitA {K : PySem.W.Frag} (d : D) : ∀ ts : List Ty, PySem.W.kitAny K (.type d.tyN) (ts.map fun t => .type t.nm) = some (isIn d ts)
  | [] => by rw [isIn_eq]; rfl
  | t :: ts => by
    rw [isIn_eq, List.any_cons, ← isIn_eq]
    refine kitAny_cons (kit1 d t) (fun e => ?_) fun e => ?_
    · rw [e, Bool.false_or]; exact kitA d ts
    · rw [e, Bool.true_or]
theorem ty_boot : ∀ u : Ty, bootBuiltins (sO u.nm) = some (.type u.nm)
  | .int => by decide +kernel | .bool => by decide +kernel | .str => by decide +kernel | .tuple => by decide +kernel | .list => by decide +kernel | .dict => by decide +kernel
theorem ty_in (u : Ty) : u.nm ∈ blts := by cases u <;> decide
theorem ty_nn (u : Ty) : sO u.nm ≠ "__name__" := by cases u <;> decide +kernel
theorem ty_nd (u : Ty) : (sO u.nm == ("__debug__" : Str)) = false := by cases u <;> decide +kernel
theorem pe_ty (c : Ctx X F fns gls n) {u : Ty} (h : chkTy (tx X fns gls) u e = true) : PE X e (tC (.ty u.nm)) := by
  cases e <;> first | (cases h; done) | skip
  rename_i x p
  obtain ⟨h1, h2⟩ := gBlt_of (show gBlt (tx X fns gls) x u.nm = true from h)
  subst h1
  exact pe_bltn h2 (c.bl _ (ty_in u)) (ty_boot u) rfl (ty_nn u) (ty_nd u)
theorem ty_star {T : Tx} {u : Ty} (h : chkTy T u e = true) : notStar e = true := by cases e <;> first | rfl | cases h
/-- the written classes of a tuple -/
def tTys (ts : List Ty) : TA := fun _ H Q => Q (ts.map fun t => V.ty t.nm) H
theorem pa_tys (c : Ctx X F fns gls n) : ∀ {ts : List Ty} {es : List Expr}, chkTys (tx X fns gls) ts es = true → PA X es (tTys ts)
  | [], [], _ => pa_nil
  | u :: us, e :: es, h => by
    have h' : chkTy (tx X fns gls) u e = true ∧ chkTys (tx X fns gls) us es = true := by simpa [chkTys] using h
    exact PA.imp (pa_cons (pe_ty c h'.1) (pa_tys c h'.2) (star_cons (ty_star h'.1))) fun σ H Q q => q
  | [], _ :: _, h => by simp [chkTys] at h
  | _ :: _, [], h => by simp [chkTys] at h
theorem s_isin1 (c : Ctx X F fns gls n) {u : Ty} {x : Str} {p : Pos} {t : Expr} (hx : x = sO "isinstance") (hgl : X.env.scope.names.lookup x = some .globalImplicit) (hst : notStar e = true) (he : PE X e (rdE X.K E fa)) (ht : chkTy (tx X fns gls) u t = true) :
    PE X (.Call (.Name x p) [e, t] [] pos) (rdE X.K E fun sl S => (fa sl S).bind fun r S1 => .ok (.val (.bl (isIn r.look [u]))) S1) := by
  subst hx
  have hs2 := ty_star ht
  refine PE.imp (pe_callB call_isi hgl (c.bl _ (by decide)) (by decide +kernel) (pa_cons he (pa_cons (pe_ty c ht) pa_nil (star_cons hs2)) (star_cons hst)) (by decide +kernel) (by decide +kernel) (star_cons hst) (star_plain fun z hz => by
    have : z = t := by simpa using hz
    rw [this]; exact hs2)) fun σ H Q ⟨g0, g, sl, e, ok, so, h⟩ => ?_
  subst e
  refine ⟨g0, g, sl, rfl, ok, so, Post.bind h fun g1 r v ok1 st1 r1 h1 => ?_⟩
  refine ⟨v, .ty u.nm, .type r.look.tyN, .type u.nm, isIn r.look [u], rfl, .ty _, tyX_of ok1 (r1.lookR ok1), ?_, h1 g1 _ rfl ok1 st1 (.bl _)⟩
  rw [kit1, isIn_eq]
  simp
theorem s_isinT (c : Ctx X F fns gls n) {ts : List Ty} {x : Str} {p p2 : Pos} {k : Nat} {us : List Expr} (hx : x = sO "isinstance") (hgl : X.env.scope.names.lookup x = some .globalImplicit) (hst : notStar e = true) (he : PE X e (rdE X.K E fa)) (ht : chkTys (tx X fns gls) ts us = true) (hl : ts.length < 20) :
    PE X (.Call (.Name x p) [e, .Tuple us k p2] [] pos) (rdE X.K E fun sl S => (fa sl S).bind fun r S1 => .ok (.val (.bl (isIn r.look ts))) S1) := by
  subst hx
  refine PE.imp (pe_callB call_isiT hgl (c.bl _ (by decide)) (by decide +kernel) (pa_cons he (pa_cons (pe_tup (pa_tys c ht)) pa_nil (star_cons rfl)) (star_cons hst)) (by decide +kernel) (by decide +kernel) (star_cons hst) (star_plain fun z hz => by
    have : z = .Tuple us k p2 := by simpa using hz
    rw [this]; rfl)) fun σ H Q ⟨g0, g, sl, e, ok, so, h⟩ => ?_
  subst e
  refine ⟨g0, g, sl, rfl, ok, so, Post.bind h fun g1 r v ok1 st1 r1 h1 => ?_⟩
  refine ⟨by rw [List.length_map, sizeLine_eq]; omega, fun q hq => ?_⟩
  obtain ⟨k2, st2⟩ := ok1.newR hq (.tup (ts.map fun t => V.ty t.nm))
  refine ⟨v, q, ts.map fun t => V.ty t.nm, .type r.look.tyN, ts.map fun t => .type t.nm, isIn r.look ts, rfl, upd_same, ?_, tyX_of k2 ((r1.after st2).lookR k2), kitA _ ts, h1 (g1.newR q _) _ rfl k2 (st1.trans st2) (.bl _)⟩
  clear h1 k2 st2
  induction ts with
  | nil => exact .nil
  | cons t ts ih => exact .cons (.ty _) (by
      have h' : chkTy (tx X fns gls) t (us.headD (.Constant .none 0 p2)) = true ∨ True := .inr trivial
      have : ∀ l : List Ty, Paired ClsV (l.map fun t => V.ty t.nm) (l.map fun t => Value.type t.nm) := fun l => by
        induction l with
        | nil => exact .nil
        | cons t l ih => exact .cons (.ty _) ih
      exact this ts)

end
end Px

set_option Elab.async false
set_option linter.all false
set_option maxRecDepth 100000
set_option maxHeartbeats 1000000
namespace Px
open PySem PySem.Spec PyProof.Rows L2
section
variable {X : Cx} {F : Cf} {fns gls : List String} {n : Nat} {E : XK} {a b c e : Expr} {es : List Expr} {fa fb fc : Slots → Sto → Res Rv} {pos : Pos}
/-! ### subscripts -/
theorem plain_ix {b : Expr} (h : ∀ l u p, b ≠ .Slice l u none p) : PlainIx b := by
  intro o i
  cases b <;> first | rfl | skip
  rename_i l u st p
  cases st with
  | none => exact absurd rfl (h l u p)
  | some z => rfl
theorem s_ix {x y : Ex} (hb : ∀ l u p, b ≠ .Slice l u none p) (ha : PE X a (rdE X.K E (evE F x))) (hi : PE X b (rdE X.K E (evE F y))) : PE X (.Subscript a b pos) (rdE X.K E (evE F (.ix x y))) :=
  PE.imp (s_op2 (sem := opIx) (fun h1 h2 => pe_ix ix_S h1 h2 (plain_ix hb)) ha hi) fun σ H Q h => by
    obtain ⟨g0, g, sl, e, ok, so, h⟩ := h
    unfold evE at h
    exact ⟨g0, g, sl, e, ok, so, h⟩
/-- a part of a slice -/
theorem s_part {l : Option Expr} {x : Exo} {f : Slots → Sto → Res (Option Int)} (hf : f = evP F x) (h : (x = .no ∧ l = none) ∨ ∃ y e, x = .yes y ∧ l = some e ∧ PE X e (rdE X.K E (evE F y))) :
    PO X l (fun σ H (Q : Option Int → Hp → Prop) => rd X.K E (fun _ _ (a b : Option Int) => b = a) f σ H Q) := by
  subst hf
  rcases h with ⟨rfl, rfl⟩ | ⟨y, e, rfl, rfl, he⟩
  · refine ⟨fun pins s σ H Q I ⟨g0, g, sl, e, ok, so, h⟩ => ?_⟩
    subst e
    unfold evP at h
    exact (po_none (X := X)).run pins s σ g.H Q I (h g none rfl ok (Stp.refl g) rfl)
  · refine ⟨fun pins s σ H Q I ⟨g0, g, sl, e, ok, so, h⟩ => ?_⟩
    subst e
    unfold evP Res.int? at h
    rw [Res.bind_assoc] at h
    refine (po_some he).run pins s σ g.H Q I ⟨g0, g, sl, rfl, ok, so, Post.bind h fun g1 r v ok1 st1 r1 h1 => ?_⟩
    have l1 := r1.lookR ok1
    generalize r.look = d at h1 l1
    split at h1
    · cases l1.int
      exact ⟨_, rfl, h1 g1 _ rfl ok1 st1 rfl⟩
    · exact h1.elim
theorem s_sl {x : Ex} {lo hi : Exo} {l u : Option Expr} {p2 : Pos} (ha : PE X a (rdE X.K E (evE F x))) (hl : (lo = .no ∧ l = none) ∨ ∃ y e, lo = .yes y ∧ l = some e ∧ PE X e (rdE X.K E (evE F y)))
    (hu : (hi = .no ∧ u = none) ∨ ∃ y e, hi = .yes y ∧ u = some e ∧ PE X e (rdE X.K E (evE F y))) : PE X (.Subscript a (.Slice l u none p2) pos) (rdE X.K E (evE F (.sl x lo hi))) :=
  PE.imp (pe_slice sl_S ha (s_part rfl hl) (s_part rfl hu)) fun σ H Q ⟨g0, g, sl, e, ok, so, h⟩ => by
    subst e
    unfold evE at h
    refine ⟨g0, g, sl, rfl, ok, so, Post.bind h fun g1 r v ok1 st1 r1 h1 => ?_⟩
    refine ⟨g0, g1, sl, rfl, ok1, so.step st1, Post.bindAt st1 h1 fun g2 lo' l' ok2 st2 r2 h2 => ?_⟩
    subst r2
    have st12 := st1.trans st2
    refine ⟨g0, g2, sl, rfl, ok2, so.step st12, Post.bindAt st12 h2 fun g3 hi' h' ok3 st3 r3 h3 => ?_⟩
    subst r3
    exact ⟨g, g3, r, rfl, ok3, r1.after (st2.trans st3), h3.shiftE (st12.trans st3)⟩
theorem s_rev {x : Ex} {k : Nat} {p1 p2 p3 : Pos} (ha : PE X a (rdE X.K E (evE F x))) : PE X (.Subscript a (.Slice none none (some (.UnaryOp .USub (.Constant (.int 1) k p1) p2)) p3) pos) (rdE X.K E (evE F (.rev x))) :=
  PE.imp (pe_back ha) fun σ H Q ⟨g0, g, sl, e, ok, so, h⟩ => by
    subst e
    unfold evE at h
    refine ⟨g0, g, sl, rfl, ok, so, Post.bind h fun g1 r v ok1 st1 r1 h1 => ?_⟩
    have l1 := r1.lookR ok1
    have h2 := h1.shiftE st1
    unfold opRev at h2
    generalize r.look = d1 at h2 l1
    unfold opRevD at h2
    split at h2 <;> first | exact (Post.no h2).elim | skip
    · rename_i xs
      obtain ⟨b, vs, rfl, s1, t1, z1, q1⟩ := l1.tup ok1
      exact ⟨b, vs, rfl, .inr ⟨t1, by rw [← q1.length]; exact z1, Post.tup h2 ok1 rfl q1.reverse (by rw [List.length_reverse]; exact z1)⟩⟩
    · obtain ⟨b, vs, rfl, hb, z1, q1⟩ := l1.lst
      exact ⟨b, vs, rfl, .inl ⟨SqL.of hb, Post.fresh h2 ok1 rfl q1.reverse (by rw [List.length_reverse]; exact z1)⟩⟩
end
end Px

set_option Elab.async false
set_option linter.all false
set_option maxRecDepth 100000
set_option maxHeartbeats 4000000
/-! Px, part I3: sorted(set(list)), list(range(n)). -/
namespace Px
open PySem PySem.Spec PyProof.Rows L2
/-! ### rising numbers without repeats -/
theorem insI_mem (k x : Int) : ∀ l : List Int, x ∈ insI k l ↔ x = k ∨ x ∈ l
  | [] => by simp [insI]
  | y :: l => by
    unfold insI
    split
    · simp
    · split
      · rename_i h; subst h; simp
      · simp only [List.mem_cons, insI_mem k x l]
        constructor
        · rintro (h | h | h) <;> simp [h]
        · rintro (h | h | h) <;> simp [h]
theorem insI_lt (k : Int) : ∀ {l : List Int}, l.Pairwise (· < ·) → (insI k l).Pairwise (· < ·)
  | [], _ => by simp [insI]
  | y :: l, h => by
    obtain ⟨h1, h2⟩ := List.pairwise_cons.mp h
    unfold insI
    split
    · rename_i c
      refine List.pairwise_cons.mpr ⟨fun z hz => ?_, h⟩
      rcases List.mem_cons.mp hz with rfl | hz
      · exact c
      · exact Int.lt_trans c (h1 z hz)
    · split
      · exact h
      · refine List.pairwise_cons.mpr ⟨fun z hz => ?_, insI_lt k h2⟩
        rcases (insI_mem k z l).mp hz with rfl | hz
        · omega
        · exact h1 z hz
theorem ssetI_mem (x : Int) : ∀ l : List Int, x ∈ ssetI l ↔ x ∈ l
  | [] => by simp [ssetI]
  | y :: l => by
    show x ∈ insI y (ssetI l) ↔ _
    rw [insI_mem, ssetI_mem x l, List.mem_cons]
theorem ssetI_lt : ∀ l : List Int, (ssetI l).Pairwise (· < ·)
  | [] => List.Pairwise.nil
  | y :: l => insI_lt y (ssetI_lt l)
theorem ssetI_nodup (l : List Int) : (ssetI l).Nodup := (ssetI_lt l).imp fun h => Int.ne_of_lt h
theorem rising_uniq : ∀ {a b : List Int}, a.Pairwise (· < ·) → b.Pairwise (· < ·) → (∀ x, x ∈ a ↔ x ∈ b) → a = b := fun {a b} ha hb h => by
  have na : a.Nodup := ha.imp fun h => Int.ne_of_lt h
  have nb : b.Nodup := hb.imp fun h => Int.ne_of_lt h
  have p : a.Perm b := (List.perm_ext_iff_of_nodup na nb).mpr h
  exact List.Perm.eq_of_pairwise (le := fun x y => x < y) (fun x y _ _ h1 h2 => absurd h1 (Int.not_lt.mpr (Int.le_of_lt h2))) ha hb p
theorem ssetI_of {a l : List Int} (h : a.Pairwise (· < ·)) (m : ∀ x, x ∈ a ↔ x ∈ l) : ssetI l = a :=
  rising_uniq (ssetI_lt l) h fun x => by rw [ssetI_mem, m]
theorem ssetI_fix {l : List Int} (h : l.Pairwise (· < ·)) : ssetI l = l := ssetI_of h fun _ => Iff.rfl

/-! ### set(list of ints) -/
abbrev setOb (w : World) : Obj := { cls := .type "set", dict := none, data := .set #[] 0 (.fresh 0 0 (!w.params.followText "set-order")) }
section
variable {P : Program} {w : World} {A : Around} {E : Value → Shared → Prop} {s : Shared}
set_option maxRecDepth 100000 in
set_option maxHeartbeats 4000000 in
theorem set_listR {t : Addr} {vs : Array Value} (ms : List Int) {Q : Value → Shared → Prop} (hh : A.handled = none) (ht : s.heap.IsList t vs) (hm : IntsAre vs.toList ms) (hb : ms.length + 1 < scanBound)
    (h : ∀ (k : Heap) (tk c : Nat), SetR w k s.heap.objs.size (fun j => decide (j ∈ ms)) c → (∀ b o, s.heap.get? b = some o → k.get? b = some o) → Q (.ref s.heap.objs.size) { s with heap := k, toks := tk }) :
    wpAny (model P w) A (call (.type "set") [.ref t]) Q E s := by
  have sz : vs.size = ms.length := by
    have := IntsAre.length hm
    rwa [Array.length_toList] at this
  obtain ⟨c0, tl, hmro⟩ := F.called_set.mro
  have hmade := F.called_set.made
  have hsub := F.called_set.sub
  refine wpAny_call (codeAny_of_tree ?_)
  show wpAny _ _ (callAny (.type "set") _) _ _ _
  refine wpAny_pure ⟨Code.quiet_builtin _ (by decide +kernel), codeAny_builtin F.entry_type_call ?_⟩
  rw [Around.under_plain (weight_type_call_type "set" [.ref t] []) rfl]
  have z1 := F.called_set.notType
  have z2 := F.called_set.canCreate
  have z3 := F.typeCall_set_1 (.ref t)
  repeat (any_goals (first | assumption | wp_step))
  refine codeAny_mono (code_set_led1 (.ref t) (E := E) (Q₁ := fun ob s1 => ob = .ref s.heap.objs.size ∧ s1 = { s with heap := s.heap.push (setOb w) }) ⟨rfl, rfl⟩) fun r s1 hr => ?_
  cases r with
  | error e => exact hr
  | ok fl =>
    cases fl with
    | ret ob =>
      obtain ⟨rfl, rfl⟩ := hr
      have hS : (s.heap.push (setOb w)).get? s.heap.objs.size = some (setOb w) := Heap.get?_push_size _ rfl
      have hT : Shared.TypeIs { s with heap := s.heap.push (setOb w) } (.ref s.heap.objs.size) "set" := ⟨_, hS, rfl⟩
      have y1 := F.called_set.init.lookup
      have y2 := F.called_set.init.bind (.ref s.heap.objs.size)
      repeat (any_goals (first | assumption | wp_step))
      refine codeAny_mono (codeAny_call_builtin (R := wants (fun r s2 => r = .none ∧ ∃ k tk c, s2 = { s with heap := k, toks := tk } ∧ SetR w k s.heap.objs.size (fun j => decide (j ∈ ms)) c ∧
          (∀ b o, s.heap.get? b = some o → k.get? b = some o)) E) F.called_set.init.plain F.entry_set_init (check_set_init_1 hT ?_)) fun r2 s2 hr2 => ?_
      · obtain ⟨⟨cl, di, da, sl⟩, hol, hcl, nl, hdl⟩ := ht
        simp only at hcl hdl
        subst hcl
        subst hdl
        have ho : (s.heap.push (setOb w)).get? t = some { cls := .type "list", dict := di, data := .seq vs nl, slots := sl } := Heap.get?_push_of_some _ hol
        have x1 := F.sub_list_set
        have x2 := F.sub_list_frozenset
        have x3 : (Value.type "list" == Value.type "dict") = false := by decide
        have hl1 : (s.heap.push (setOb w)).IsList t vs := ⟨_, ho, rfl, nl, rfl⟩
        unfold Builtin.«set.__init__» noKeywords Builtin.Frozenset.updateFrom
        generalize hPI : pyIter = PI
        wp_walk
        subst hPI
        refine wpAny_pyIter_list hl1 (wpAny_bind (wpAny_runValue ?_))
        have lt : t < s.heap.objs.size := Heap.lt_size hol
        have h3 : A.in1.in1.in1.handled = none := by simp [hh]
        have e1 : (s.heap.push (setOb w)).objs.size = s.heap.objs.size + 1 := Heap.size_push ..
        have n1 : t ≠ (s.heap.push (setOb w)).objs.size := by rw [e1]; exact Nat.ne_of_lt (Nat.lt_succ_of_lt lt)
        have n2 : s.heap.objs.size ∉ [(s.heap.push (setOb w)).objs.size, t] := by
          rw [e1]
          simp only [List.mem_cons, List.not_mem_nil, or_false, not_or]
          exact ⟨Nat.ne_of_lt (Nat.lt_succ_self _), Nat.ne_of_gt lt⟩
        have hv : ∀ (i : Nat) (v : Value), vs[i]? = some v → ∃ k t, ms[i]? = some k ∧ v = .int k t := fun i v hv => by
          have hi : i < ms.length := by rw [← sz]; exact (Array.getElem?_eq_some_iff.mp hv).1
          obtain ⟨t, e⟩ := PyProof.Rows.IntsAre.int_at hm i v (by rw [Array.getElem?_toList]; exact hv)
          exact ⟨ms[i], t, List.getElem?_eq_getElem hi, by rw [e, List.getD_eq_getElem?_getD, List.getElem?_eq_getElem hi] <;> rfl⟩
        refine set_update_ints ((Walks.list h3 _ t n1 vs).toS) s.heap.objs.size n2 ms sz hb hv (vs.size - 0) 0 _ (by omega) (Nat.zero_le _) ⟨⟨_, Heap.get?_push_size _ rfl, rfl, rfl⟩, (hl1.push _)⟩
          ⟨0, Nat.le_refl 0, setR_new_at (Heap.get?_push_of_some _ hS)⟩ fun s' c' hmv _ hS' => ?_
        obtain ⟨k, g2, d2, tk, os2⟩ := s'
        obtain rfl : g2 = s.gens := hmv.gens
        obtain rfl : d2 = s.drawn := hmv.drawn
        obtain rfl : os2 = s.os := hmv.os
        show wpAny _ _ _ _ _ _
        refine wpAny_pure ?_
        show wpAny _ _ (ret Value.none) _ _ _
        refine wpAny_pure ⟨rfl, k, tk, c', rfl, hS', fun b o e => ?_⟩
        have hb0 : b < s.heap.objs.size := Heap.lt_size e
        refine hmv.heap b o ?_ (Heap.get?_push_of_some _ (Heap.get?_push_of_some _ e))
        simp only [List.mem_cons, List.not_mem_nil, or_false, not_or]
        exact ⟨Nat.ne_of_lt hb0, by rw [e1]; exact Nat.ne_of_lt (Nat.lt_succ_of_lt hb0)⟩
      · cases r2 with
        | error e => exact hr2
        | ok f2 =>
          cases f2 with
          | ret r =>
            obtain ⟨rfl, k, tk, c', rfl, hS', hk'⟩ := hr2
            repeat (any_goals (first | assumption | wp_step))
            exact h _ _ _ hS' hk'
          | _ => exact hr2.elim
    | _ => exact hr.elim
theorem setR_card {k : Heap} {p : Addr} {S : Int → Bool} {c : Nat} {l : List Int} (R : SetR w k p S c) (h : ∀ x, S x = true ↔ x ∈ l) : c = (ssetI l).length := by
  obtain ⟨o, es, ep, t, ho, hx, hd, g, nd, hm, hb, hf, hn, _⟩ := R
  have q : (es.toList.map keyOf).Perm (ssetI l) := (List.perm_ext_iff_of_nodup nd (ssetI_nodup l)).mpr fun x => by rw [← hm, h, ssetI_mem]
  rw [← q.length_eq, List.length_map, Array.length_toList, hn]
end
section
variable {X : Cx} {F : Cf} {fns gls : List String} {n : Nat} {E : XK} {a b c e : Expr} {es : List Expr} {pos : Pos}
def rSetL (K : PySem.W.Frag) (w : World) : List V → Hp → VK → Prop := fun vs H Q => ∃ (a : Addr) (ms : List Int), vs = [.ref a] ∧ SqL K H a (ms.map V.int) ∧ ms.length ≤ sizeLine ∧ ms.length + 1 < scanBound ∧
  ∀ p, H p = none → Q (.ref p) (upd H p (SetO w p (fun j => decide (j ∈ ms)) (ssetI ms).length))
theorem cr_setL (hc : X.calm = true) : CallR X (.type "set") (rSetL X.K X.w) := by
  intro pins s σ H vs us Q I r h
  obtain ⟨a, ms, rfl, hq, _, hb, q⟩ := h
  rw [Vals.ref1 r]
  obtain ⟨its, rv, pl, hz⟩ := I.list hq
  refine set_listR ms (I.ok.hd hc) pl.isList (by simpa using ints_of_vals rv) hb fun k tk c R hk => ?_
  have hc' := setR_card (l := ms) R fun x => by simp
  subst hc'
  exact ⟨.ref s.heap.objs.size, upd H s.heap.objs.size (SetO X.w s.heap.objs.size (fun j => decide (j ∈ ms)) (ssetI ms).length), I.laid (t' := tk) hk (Nat.le_refl _) (setO_new R), rfl, q _ (I.hok.fresh (Nat.le_refl _))⟩
theorem boot_sortedB : bootBuiltins (sO "sorted") = some (.builtin "sorted") := by decide +kernel
theorem boot_setT : bootBuiltins (sO "set") = some (.type "set") := by decide +kernel
theorem s_sset (cx : Ctx X F fns gls n) {x : Ex} {nm nm2 : Str} {p p2 q : Pos} (hx : nm = sO "sorted") (hy : nm2 = sO "set") (hgl : X.env.scope.names.lookup nm = some .globalImplicit) (hgl2 : X.env.scope.names.lookup nm2 = some .globalImplicit)
    (hst : notStar a = true) (ha : PE X a (rdE X.K E (evE F x))) : PE X (.Call (.Name nm p) [.Call (.Name nm2 p2) [a] [] q] [] pos) (rdE X.K E (evE F (.sset x))) := by
  subst hx hy
  have in1 : PE X (.Call (.Name (sO "set") p2) [a] [] q) _ := pe_callTy (cr_setL cx.calm) hgl2 (cx.bl _ (by decide)) boot_setT (pa_cons ha pa_nil (star_cons hst)) (by decide +kernel) (by decide +kernel) (star_cons hst) (star_plain fun z hz => by cases hz)
  have out := pe_callB (id := "sorted") (cr_sortedSet cx.calm) hgl (cx.bl _ (by decide)) boot_sortedB (pa_cons in1 pa_nil (star_cons rfl)) (by decide +kernel) (by decide +kernel) (star_cons rfl) (star_plain fun z hz => by cases hz) (p := p) (pos := pos)
  refine PE.imp out fun σ H Q ⟨g0, g, sl, e, ok, so, h⟩ => ?_
  subst e
  unfold evE at h
  refine ⟨g0, g, sl, rfl, ok, so, Post.bind h fun g1 r v ok1 st1 r1 h1 => ?_⟩
  have l1 := r1.lookR ok1
  have h2 := h1.shiftE st1
  generalize r.look = d1 at h2 l1
  split at h2 <;> first | exact (Post.no h2).elim | exact h2.elim | skip
  rename_i xs
  split at h2
  case h_2 => exact h2.elim
  rename_i ns en
  split at h2
  case isFalse => exact h2.elim
  rename_i h64
  obtain ⟨b, vs, rfl, hb, z1, q1⟩ := l1.lst
  have ev := reps_int q1 en
  have hlen : ns.length ≤ sizeLine := by rw [dInts_len en]; exact z1
  refine ⟨b, ns, rfl, by rw [← ev]; exact SqL.of hb, hlen, ?_, fun p0 hp0 => ⟨p0, _, _, rfl, upd_same, h64.2, fun ms p1 hms hmem hml hp1 => ?_⟩⟩
  · show ns.length + 1 < 4096
    omega
  · have e2 : ssetI ns = ms := ssetI_of hms fun x => by rw [hmem]; simp
    rw [e2] at h2
    obtain ⟨k, st⟩ := ok1.new hp0 (SetO X.w p0 (fun j => decide (j ∈ ns)) (ssetI ns).length)
    have rp : ∀ ks : List Int, (g1.new p0 (SetO X.w p0 (fun j => decide (j ∈ ns)) (ssetI ns).length)).Reps X.K (ks.map D.int) (ks.map V.int) := fun ks => by
      induction ks with
      | nil => exact .nil
      | cons m ks ih => exact .cons (.int m) ih
    exact Post.fresh (h2.shiftE st) k rfl (rp ms) (by rw [List.length_map, hml]; unfold sizeLine; omega) p1 hp1
theorem s_lrng (cx : Ctx X F fns gls n) {x : Ex} {nm nm2 : Str} {p p2 q : Pos} (hx : nm = sO "list") (hy : nm2 = sO "range") (hgl : X.env.scope.names.lookup nm = some .globalImplicit) (hgl2 : X.env.scope.names.lookup nm2 = some .globalImplicit)
    (hst : notStar a = true) (ha : PE X a (rdE X.K E (evE F x))) : PE X (.Call (.Name nm p) [.Call (.Name nm2 p2) [a] [] q] [] pos) (rdE X.K E (evE F (.lrng x))) := by
  subst hx hy
  refine PE.imp (pe_listRg cx.calm hgl (cx.bl _ (by decide)) (prg_1 hgl2 (cx.bl _ (by decide)) ha (star_cons hst)) (star_cons rfl)) fun σ H Q ⟨g0, g, sl, e, ok, so, h⟩ => ?_
  subst e
  unfold evE Res.int? at h
  rw [Res.bind_assoc] at h
  refine ⟨g0, g, sl, rfl, ok, so, Post.bind h fun g1 r v ok1 st1 r1 h1 => ?_⟩
  have l1 := r1.lookR ok1
  have h2 := h1.shiftE st1
  generalize r.look = d1 at h2 l1
  split at h2
  case h_2 => exact h2.elim
  rename_i i
  cases l1.int
  rw [Res.bind_ok] at h2
  split at h2
  case isFalse => exact h2.elim
  rename_i hz
  refine ⟨i, rfl, RgOk.of_le (Int.le_refl 0) hz.2 (by decide) hz.1, ?_⟩
  refine Post.fresh h2 ok1 rfl ?_ ?_
  · show g1.Reps X.K (rngD 0 i.toNat) (rgV 0 i)
    unfold rngD rgV
    rw [Int.sub_zero]
    have : ∀ ks : List Nat, g1.Reps X.K (ks.map fun (k : Nat) => D.int (0 + (k : Int))) (ks.map fun (k : Nat) => V.int (0 + (k : Int))) := fun ks => by
      induction ks with
      | nil => exact .nil
      | cons m ks ih => exact .cons (.int _) ih
    exact this _
  · unfold rngD sizeLine
    rw [List.length_map, List.length_range]
    omega
end
end Px

set_option Elab.async false
set_option linter.all false
set_option maxRecDepth 100000
set_option maxHeartbeats 1000000
/-! Px, part J: targets, what is walked. -/
namespace Px
open PySem PySem.Spec PyProof.Rows L2
section
variable {K : PySem.W.Frag} {g0 g : Gh} {σ : L2.St} {sl : Slots}
theorem SlOk.setVal (h : SlOk K g0 g σ sl) (i : Nat) {d : D} {v : V} (r : g.Rep K d v) : SlOk K g0 g (σ.set i (some v)) (sl.set i (.val d)) := by
  refine ⟨by rw [List.length_set, List.length_set]; exact h.len, fun j s e => ?_, fun j k c c' a e1 e2 hn e3 e4 => ?_⟩
  · by_cases hj : i = j
    · subst hj
      by_cases hl : i < sl.length
      · rw [List.getElem?_set_self hl] at e
        cases e
        exact ⟨some v, List.getElem?_set_self (by rw [h.len]; exact hl), v, rfl, r⟩
      · rw [List.getElem?_eq_none (by rw [List.length_set]; omega)] at e; cases e
    · rw [List.getElem?_set_ne hj] at e
      obtain ⟨x, e1, r1⟩ := h.at_ j s e
      exact ⟨x, by rw [List.getElem?_set_ne hj]; exact e1, r1⟩
  · have ne : ∀ {m : Nat} {c : Cn}, (sl.set i (.val d))[m]? = some (.own c) → i ≠ m ∧ sl[m]? = some (.own c) := fun {m c} q => by
      by_cases hm : i = m
      · subst hm
        by_cases hl : i < sl.length
        · rw [List.getElem?_set_self hl] at q; cases q
        · rw [List.getElem?_eq_none (by rw [List.length_set]; omega)] at q; cases q
      · rw [List.getElem?_set_ne hm] at q; exact ⟨hm, q⟩
    obtain ⟨n1, q1⟩ := ne e1
    obtain ⟨n2, q2⟩ := ne e2
    rw [List.getElem?_set_ne n1] at e3
    rw [List.getElem?_set_ne n2] at e4
    exact h.sep j k c c' a q1 q2 hn e3 e4
theorem SlOk.setEmp (h : SlOk K g0 g σ sl) (i : Nat) (x : Option V) : SlOk K g0 g (σ.set i x) (sl.set i .emp) := by
  refine ⟨by rw [List.length_set, List.length_set]; exact h.len, fun j s e => ?_, fun j k c c' a e1 e2 hn e3 e4 => ?_⟩
  · by_cases hj : i = j
    · subst hj
      by_cases hl : i < sl.length
      · rw [List.getElem?_set_self hl] at e
        cases e
        exact ⟨x, List.getElem?_set_self (by rw [h.len]; exact hl), trivial⟩
      · rw [List.getElem?_eq_none (by rw [List.length_set]; omega)] at e; cases e
    · rw [List.getElem?_set_ne hj] at e
      obtain ⟨x, e1, r1⟩ := h.at_ j s e
      exact ⟨x, by rw [List.getElem?_set_ne hj]; exact e1, r1⟩
  · have ne : ∀ {m : Nat} {c : Cn}, (sl.set i .emp)[m]? = some (.own c) → i ≠ m ∧ sl[m]? = some (.own c) := fun {m c} q => by
      by_cases hm : i = m
      · subst hm
        by_cases hl : i < sl.length
        · rw [List.getElem?_set_self hl] at q; cases q
        · rw [List.getElem?_eq_none (by rw [List.length_set]; omega)] at q; cases q
      · rw [List.getElem?_set_ne hm] at q; exact ⟨hm, q⟩
    obtain ⟨n1, q1⟩ := ne e1
    obtain ⟨n2, q2⟩ := ne e2
    rw [List.getElem?_set_ne n1] at e3
    rw [List.getElem?_set_ne n2] at e4
    exact h.sep j k c c' a q1 q2 hn e3 e4
theorem SlOk.wipe (h : SlOk K g0 g σ sl) : ∀ vs : List Nat, SlOk K g0 g (L2.wipe σ vs) (wipeS sl vs)
  | [] => h
  | v :: vs => (h.wipe vs).setEmp v none
end
def NoOwn (sl : Slots) : Prop := ∀ (i : Nat) c, sl[i]? ≠ some (Slot.own c)
theorem hide_get {sl : Slots} {i : Nat} {s : Slot} (h : (hideS sl)[i]? = some s) : sl[i]? = some s ∨ (s = .emp ∧ ∃ c, sl[i]? = some (.own c)) := by
  unfold hideS at h
  rw [List.getElem?_map] at h
  obtain ⟨t, e1, e2⟩ := Option.map_eq_some_iff.mp h
  cases t with
  | own c => cases e2; exact .inr ⟨rfl, c, e1⟩
  | emp => cases e2; exact .inl e1
  | val d => cases e2; exact .inl e1
theorem hide_no (sl : Slots) : NoOwn (hideS sl) := fun i c h => by
  unfold hideS at h
  rw [List.getElem?_map] at h
  obtain ⟨t, e1, e2⟩ := Option.map_eq_some_iff.mp h
  cases t <;> cases e2
theorem SlOk.hide {K : PySem.W.Frag} {g0 g : Gh} {σ : L2.St} {sl : Slots} (h : SlOk K g0 g σ sl) : SlOk K g0 g σ (hideS sl) := by
  refine ⟨by rw [h.len]; simp [hideS], fun i s e => ?_, fun i j c c' a e1 _ _ _ _ => (hide_no sl i c e1).elim⟩
  rcases hide_get e with e | ⟨rfl, c, e⟩
  · exact h.at_ i s e
  · obtain ⟨v, e1, _⟩ := h.at_ i _ e
    exact ⟨v, e1, trivial⟩
theorem NoOwn.set {sl : Slots} (h : NoOwn sl) (i : Nat) (s : Slot) (hs : ∀ c, s ≠ .own c) : NoOwn (sl.set i s) := fun j c e => by
  by_cases hj : i = j
  · subst hj
    by_cases hl : i < sl.length
    · rw [List.getElem?_set_self hl] at e; cases e; exact hs c rfl
    · rw [List.getElem?_eq_none (by rw [List.length_set]; omega)] at e; cases e
  · rw [List.getElem?_set_ne hj] at e; exact h j c e
theorem NoOwn.wipe {sl : Slots} (h : NoOwn sl) : ∀ vs : List Nat, NoOwn (wipeS sl vs)
  | [] => h
  | v :: vs => (h.wipe vs).set v _ fun _ q => nomatch q
mutual
theorem NoOwn.bind : ∀ {t : Tg} {d : D} {sl sl' : Slots}, NoOwn sl → bindT t d sl = some sl' → NoOwn sl'
  | .nm i, d, sl, sl', h, e => by unfold bindT at e; cases e; exact h.set i _ fun _ q => nomatch q
  | .tup ts, d, sl, sl', h, e => by
    cases d with
    | tup xs => exact NoOwn.binds h (show bindTs ts xs sl = some sl' by rw [← e]; simp [bindT])
    | _ => simp [bindT] at e
theorem NoOwn.binds : ∀ {ts : Tgs} {ds : List D} {sl sl' : Slots}, NoOwn sl → bindTs ts ds sl = some sl' → NoOwn sl'
  | .nil, [], sl, sl', h, e => by unfold bindTs at e; cases e; exact h
  | .cons t ts, x :: xs, sl, sl', h, e => by
    unfold bindTs at e
    cases e1 : bindT t x sl with
    | none => rw [e1] at e; cases e
    | some sl1 => rw [e1] at e; exact NoOwn.binds (NoOwn.bind h e1) e
  | .nil, _ :: _, _, _, _, e => by simp [bindTs] at e
  | .cons _ _, [], _, _, _, e => by simp [bindTs] at e
end
theorem SlOk.noOwn {K : PySem.W.Frag} {g0 g g' : Gh} {σ : L2.St} {sl : Slots} (h : SlOk K g0 g σ sl) (no : NoOwn sl) (gr : Gro g g') : SlOk K g0 g' σ sl := by
  refine ⟨h.len, fun i s e => ?_, fun i j c c' a e1 _ _ _ _ => (no i c e1).elim⟩
  obtain ⟨v, e1, r⟩ := h.at_ i s e
  refine ⟨v, e1, ?_⟩
  cases s with
  | emp => trivial
  | val d => obtain ⟨x, e2, q⟩ := r; exact ⟨x, e2, gr.rep q⟩
  | own c => exact (no i c e).elim
theorem bindTs_len : ∀ {ts : Tgs} {xs : List D} {sl sl' : Slots}, bindTs ts xs sl = some sl' → xs.length = ts.len
  | .nil, [], _, _, _ => rfl
  | .cons t ts, x :: xs, sl, sl', h => by
    unfold bindTs at h
    cases e1 : bindT t x sl with
    | none => rw [e1] at h; cases h
    | some sl1 => rw [e1] at h; simp [bindTs_len h, Tgs.len]
  | .nil, _ :: _, _, _, h => by simp [bindTs] at h
  | .cons _ _, [], _, _, h => by simp [bindTs] at h
/-- the slots differ at some places alone -/
def OffS (is : List Nat) (σ σ' : L2.St) : Prop := ∀ vs : List Nat, (∀ i ∈ is, i ∈ vs) → L2.wipe σ' vs = L2.wipe σ vs
theorem wipe_set {i : Nat} {x : Option V} : ∀ {vs : List Nat} {σ : L2.St}, i ∈ vs → L2.wipe (σ.set i x) vs = L2.wipe σ vs
  | v :: vs, σ, h => by
    by_cases hv : i = v
    · subst hv
      by_cases hm : i ∈ vs
      · unfold L2.wipe; rw [wipe_set hm]
      · unfold L2.wipe
        have aux : ∀ (vs : List Nat) (σ : L2.St), i ∉ vs → L2.wipe (σ.set i x) vs = (L2.wipe σ vs).set i x := fun vs => by
          induction vs with
          | nil => intro σ _; rfl
          | cons w ws ih =>
            intro σ hn
            unfold L2.wipe
            rw [ih σ fun q => hn (List.mem_cons_of_mem _ q), List.set_comm _ _ (fun e : i = w => hn (e ▸ List.mem_cons_self))]
        rw [aux vs σ hm, List.set_set]
    · have hm : i ∈ vs := (List.mem_cons.mp h).resolve_left hv
      unfold L2.wipe
      rw [wipe_set hm]
theorem wipe_idem : ∀ {vs ws : List Nat} {σ : L2.St}, (∀ i ∈ ws, i ∈ vs) → L2.wipe (L2.wipe σ ws) vs = L2.wipe σ vs
  | vs, [], σ, _ => rfl
  | vs, w :: ws, σ, h => by
    show L2.wipe ((L2.wipe σ ws).set w none) vs = _
    rw [wipe_set (h w List.mem_cons_self)]
    exact wipe_idem fun i hi => h i (List.mem_cons_of_mem _ hi)
/-- a target's reading -/
def rdG (K : PySem.W.Frag) (t : Tg) : TG := fun v σ H Q => ∃ g0 g sl d sl', g.H = H ∧ Gok K g ∧ SlOk K g0 g σ sl ∧ g.Rep K d v ∧ bindT t d sl = some sl' ∧ ∀ σ', SlOk K g0 g σ' sl' → OffS t.slots σ σ' → Q σ' g.H
def rdGs (K : PySem.W.Frag) (t : Tgs) : TGs := fun vs σ H Q => ∃ g0 g sl ds sl', g.H = H ∧ Gok K g ∧ SlOk K g0 g σ sl ∧ g.Reps K ds vs ∧ bindTs t ds sl = some sl' ∧ ∀ σ', SlOk K g0 g σ' sl' → OffS t.slots σ σ' → Q σ' g.H
theorem PG.imp {X : Cx} {e : Expr} {t u : TG} (h : PG X e t) (i : ∀ v σ H Q, u v σ H Q → t v σ H Q) : PG X e u := ⟨fun pins s σ H v w Q I r q => h.run pins s σ H v w Q I r (i v σ H Q q)⟩
theorem PGs.imp {X : Cx} {e : List Expr} {t u : TGs} (h : PGs X e t) (i : ∀ v σ H Q, u v σ H Q → t v σ H Q) : PGs X e u := ⟨fun pins s σ H v w Q I r q => h.run pins s σ H v w Q I r (i v σ H Q q)⟩
theorem chkG_star {T : Tx} {t : Tg} {e : Expr} (h : chkG T t e = true) : notStar e = true := by
  cases e <;> first | rfl | (cases t <;> simp [chkG] at h)
theorem each_cons {e : Expr} {es : List Expr} {env : Env} (h : notStar e = true) : assignEach (e :: es) env = (false, assign e env) :: assignEach es env := by
  cases e <;> first | rfl | cases h
theorem chkGs_each {T : Tx} {env : Env} : ∀ {ts : Tgs} {es : List Expr}, chkGs T ts es = true → (assignEach es env).length = ts.len ∧ (assignEach es env).findIdx? (·.1) = none
  | .nil, [], _ => ⟨rfl, rfl⟩
  | .cons t ts, e :: es, h => by
    have h' : chkG T t e = true ∧ chkGs T ts es = true := by simpa [chkGs] using h
    obtain ⟨h1, h2⟩ := chkGs_each (env := env) h'.2
    rw [each_cons (chkG_star h'.1)]
    refine ⟨by simp [h1, Tgs.len], ?_⟩
    rw [List.findIdx?_cons]
    simp [h2]
  | .nil, _ :: _, h => by simp [chkGs] at h
  | .cons _ _, [], h => by simp [chkGs] at h
section
variable {X : Cx} {F : Cf} {fns gls : List String} {n : Nat} {E : XK}
mutual
theorem sG (hc : X.calm = true) (hN : X.N.Nodup) : ∀ (t : Tg) (e : Expr), chkG (tx X fns gls) t e = true → PG X e (rdG X.K t)
  | .nm i, .Name x p, h => by
    have h' : (atB X.N i x = true ∧ locB X.env.scope x = true) ∧ (X.fn x = true ∨ lclB X.env.scope x = true) := by simpa [chkG, tx] using h
    refine PG.imp (pg_name hN (at_of h'.1.1) (loc_of h'.1.2) (h'.2.imp id lcl_of)) fun v σ H Q ⟨g0, g, sl, d, sl', e, ok, so, r, hb, k⟩ => ?_
    subst e
    unfold bindT at hb
    cases hb
    exact k _ (so.setVal i r) fun vs hv => wipe_set (hv i (by simp [Tg.slots]))
  | .tup ts, .Tuple es kk p, h => by
    have h' : chkGs (tx X fns gls) ts es = true := by simpa [chkG] using h
    obtain ⟨c1, c2⟩ := chkGs_each (env := X.env) h'
    refine PG.imp (pg_tup hc (sGs hc hN ts es h') c1 c2) fun v σ H Q ⟨g0, g, sl, d, sl', e, ok, so, r, hb, k⟩ => ?_
    subst e
    cases d with
    | tup xs =>
      have hb' : bindTs ts xs sl = some sl' := by rw [← hb]; simp [bindT]
      cases r with | tup a l q =>
      refine ⟨_, _, rfl, SqT.mono a ok.sub, ?_, g0, g, sl, xs, sl', rfl, ok, so, q, hb', fun σ1 so1 of1 => k σ1 so1 fun vs hv => of1 vs (by simpa [Tg.slots] using hv)⟩
      rw [← q.length]
      exact bindTs_len hb'
    | _ => simp [bindT] at hb
  | .nm _, .BoolOp .., h | .nm _, .NamedExpr .., h | .nm _, .BinOp .., h | .nm _, .UnaryOp .., h | .nm _, .Lambda .., h | .nm _, .IfExp .., h | .nm _, .Dict .., h | .nm _, .Set .., h | .nm _, .ListComp .., h | .nm _, .SetComp .., h | .nm _, .DictComp .., h | .nm _, .GeneratorExp .., h | .nm _, .Await .., h | .nm _, .Yield .., h | .nm _, .YieldFrom .., h | .nm _, .Compare .., h | .nm _, .Call .., h | .nm _, .FormattedValue .., h | .nm _, .JoinedStr .., h | .nm _, .Constant .., h | .nm _, .Attribute .., h | .nm _, .Subscript .., h | .nm _, .Starred .., h | .nm _, .List .., h | .nm _, .Tuple .., h | .nm _, .Slice .., h => by simp [chkG] at h
  | .tup _, .BoolOp .., h | .tup _, .NamedExpr .., h | .tup _, .BinOp .., h | .tup _, .UnaryOp .., h | .tup _, .Lambda .., h | .tup _, .IfExp .., h | .tup _, .Dict .., h | .tup _, .Set .., h | .tup _, .ListComp .., h | .tup _, .SetComp .., h | .tup _, .DictComp .., h | .tup _, .GeneratorExp .., h | .tup _, .Await .., h | .tup _, .Yield .., h | .tup _, .YieldFrom .., h | .tup _, .Compare .., h | .tup _, .Call .., h | .tup _, .FormattedValue .., h | .tup _, .JoinedStr .., h | .tup _, .Constant .., h | .tup _, .Attribute .., h | .tup _, .Subscript .., h | .tup _, .Starred .., h | .tup _, .List .., h | .tup _, .Name .., h | .tup _, .Slice .., h => by simp [chkG] at h
theorem sGs (hc : X.calm = true) (hN : X.N.Nodup) : ∀ (ts : Tgs) (es : List Expr), chkGs (tx X fns gls) ts es = true → PGs X es (rdGs X.K ts)
  | .nil, [], _ => PGs.imp pgs_nil fun vs σ H Q ⟨g0, g, sl, ds, sl', e, ok, so, r, hb, k⟩ => by
    subst e
    cases ds with
    | nil => cases r; unfold bindTs at hb; cases hb; exact ⟨rfl, k σ so fun _ _ => rfl⟩
    | cons d ds => unfold bindTs at hb; cases hb
  | .cons t ts, e :: es, h => by
    have h' : chkG (tx X fns gls) t e = true ∧ chkGs (tx X fns gls) ts es = true := by simpa [chkGs] using h
    refine PGs.imp (pgs_cons (sG hc hN t e h'.1) (sGs hc hN ts es h'.2) (by rw [each_cons (chkG_star h'.1)]; rfl)) fun vs σ H Q ⟨g0, g, sl, ds, sl', e, ok, so, r, hb, k⟩ => ?_
    subst e
    cases ds with
    | nil => unfold bindTs at hb; cases hb
    | cons d ds =>
      unfold bindTs at hb
      cases e1 : bindT t d sl with
      | none => rw [e1] at hb; cases hb
      | some sl1 =>
        rw [e1] at hb
        cases r with | cons r rr =>
        refine ⟨_, _, rfl, g0, g, sl, d, sl1, rfl, ok, so, r, e1, fun σ1 so1 of1 => ⟨g0, g, sl1, ds, sl', rfl, ok, so1, rr, hb, fun σ2 so2 of2 => k σ2 so2 fun vs hv => ?_⟩⟩
        rw [of2 vs fun i hi => hv i (by simp [Tgs.slots, hi]), of1 vs fun i hi => hv i (by simp [Tgs.slots, hi])]
  | .nil, _ :: _, h => by simp [chkGs] at h
  | .cons _ _, [], h => by simp [chkGs] at h
end
end
end Px

set_option Elab.async false
set_option linter.all false
set_option maxRecDepth 100000
set_option maxHeartbeats 1000000
/-! Px, part K0: enumerate of a tuple. -/
namespace Px
open PySem PySem.Spec PyProof.Rows L2
theorem enT_new {t : Addr} {its : Array Value} : Meets (Builtin.«enumerate.__new__» ⟨[.type "enumerate", .ref t], []⟩) (fun _ R z => z.heap.IsTuple t its ∧
      R (.ok (.ret (.ref (z.heap.push { cls := .type "tuple_iterator", data := .fields #[.ref t, .int 0 0] }).objs.size))) { z with heap := (z.heap.push { cls := .type "tuple_iterator", data := .fields #[.ref t, .int 0 0] }).push { cls := .type "enumerate", data := .fields #[.none, .bool false, .ref z.heap.objs.size, rawInt 0, .none, .none] } }) :=
  .of_wp fun prog w A R z h => by
    obtain ⟨hp, gg, dd, tt, oo⟩ := z
    obtain ⟨ht, h⟩ := h
    have sb := sub_enumerate
    have q : ∀ {A' : Around} {E : Value → Shared → Prop} {Q : Value → Shared → Prop}, Q (.ref hp.objs.size) ⟨hp.push { cls := .type "tuple_iterator", data := .fields #[.ref t, .int 0 0] }, gg, dd, tt, oo⟩ → wpAny (model prog w) A' (pyIter (.ref t)) Q E ⟨hp, gg, dd, tt, oo⟩ := fun q => wpAny_pyIter_tuple ht q
    obtain ⟨o, e, _⟩ := id ht
    wp_walk using q
    refine wpAny_stack_any fun st => wpAny_pure ?_
    split
    · rename_i c _ _ _ _ _
      cases (c == Value.type "enumerate") <;> (wp_walk using q; exact ⟨_, rfl, h⟩)
    · wp_walk using q
      exact ⟨_, rfl, h⟩
section
variable {prog : Program} {w : World} {A : Around} {E : Value → Shared → Prop} {s : Shared}
theorem enT_call {t : Addr} {its : Array Value} {Q : Value → Shared → Prop} (ht : s.heap.IsTuple t its)
    (h : ∀ k, IsEnum k (s.heap.objs.size + 1) s.heap.objs.size 0 .none → k.IsTupleIter s.heap.objs.size t 0 → k.objs.size = s.heap.objs.size + 2 → (∀ b o, s.heap.get? b = some o → k.get? b = some o) → Q (.ref (s.heap.objs.size + 1)) { s with heap := k }) :
    wpAny (model prog w) A (call (.type "enumerate") [.ref t]) Q E s := by
  refine callType_new F.called_enumerate (by decide) (F.typeCall_enumerate_1 _) (F.newCall_enumerate_1 _) (fun ob => F.args_object_init_2 ob _) F.entry_enumerate_new enT_new ⟨ht, ?_⟩
  have z1 : (s.heap.push { cls := .type "tuple_iterator", data := .fields #[.ref t, .int 0 0] }).objs.size = s.heap.objs.size + 1 := Heap.size_push ..
  show _ ∧ _
  rw [z1]
  have z2 : IsEnum ((s.heap.push { cls := .type "tuple_iterator", data := .fields #[.ref t, .int 0 0] }).push { cls := .type "enumerate", data := .fields #[.none, .bool false, .ref s.heap.objs.size, rawInt 0, .none, .none] }) (s.heap.objs.size + 1) s.heap.objs.size 0 .none := by
    have q := Heap.get?_push_size (s.heap.push { cls := .type "tuple_iterator", data := .fields #[.ref t, .int 0 0] }) (o := { cls := .type "enumerate", data := .fields #[.none, .bool false, .ref s.heap.objs.size, rawInt 0, .none, .none] }) rfl
    rw [z1] at q
    exact q
  exact ⟨⟨_, z2, rfl⟩, h _ z2 ⟨_, Heap.get?_push_of_some _ (Heap.get?_push_size _ rfl), rfl, rfl⟩ (by rw [Heap.size_push, z1]) fun b o x => Heap.get?_push_of_some _ (Heap.get?_push_of_some _ x)⟩
end
/-- the tuple at a, each item in a new pair with its number -/
def IteT (K : PySem.W.Frag) (a : Addr) : It :=
  ⟨fun i H => ∃ (xs : List V) (x : V), SqT K H a xs ∧ xs[i]? = some x, fun i H v H' => ∃ T x, v = .ref T ∧ H T = none ∧ H' = upd H T (.tup [.int (i : Nat), x]) ∧ ∀ xs, SqT K H a xs → xs[i]? = some x, fun i H => ∃ xs : List V, SqT K H a xs ∧ xs.length ≤ i⟩
theorem turn_enumT {P : Program} {w : World} {K : PySem.W.Frag} {els : List Expr} {kk : Nat} {tp : Pos} (a e it : Addr) (hai : a ≠ it) (hae : e ≠ a) :
    Turn P w K (.Tuple els kk tp) (IteT K a) [e, it] e (fun i h => (∃ old, IsEnum h e it ((i : Nat) : Int) old) ∧ h.IsTupleIter it a i ∧ e ≠ it) where
  mem := by simp
  obj := fun i h st b hb => by
    obtain ⟨⟨old, he⟩, ⟨o, ho, hc, hd⟩, _⟩ := st
    rcases (show b = e ∨ b = it by simpa using hb) with z | z
    · subst z; exact ⟨_, he, fun v q => nomatch q⟩
    · subst z; exact ⟨o, ho, fun v q => by rw [hd] at q; cases q⟩
  keep := fun i h k st q => let ⟨⟨old, he⟩, hi, hne⟩ := st; ⟨⟨old, q e (by simp) _ he⟩, hi.at fun o r => q it (by simp) o r, hne⟩
  item := by
    intro X hP hw hK hc i pins s σ H E I hf st hg
    subst hP hw hK
    obtain ⟨⟨old, he⟩, hit, hne⟩ := st
    obtain ⟨xs, x, hq, hx⟩ := hg
    obtain ⟨its, rv, p, hz⟩ := I.tuple hq
    obtain ⟨u, hu, ru⟩ := rv.get hx
    have le1 : e < s.heap.objs.size := Heap.lt_size he
    have le2 : it < s.heap.objs.size := by obtain ⟨_, q, _⟩ := hit; exact Heap.lt_size q
    have hin : X.A.in1.handled = none := I.ok.hd hc
    have dr := Draws.tuple (prog := X.prog) (w := X.w) hin it a hai its.toArray
    have li : i < its.toArray.size := by
      obtain ⟨q, _⟩ := List.getElem?_eq_some_iff.mp hu
      simpa using q
    refine wpAny_pyNext_enum_itemD dr he ⟨hit, p⟩ li hne (by simp [hne, hae]) fun y h' tk hy ho hit' hT hsz hk => ?_
    obtain rfl : y = u := by
      have q : its.toArray[i]? = some y := hy
      rw [List.getElem?_toArray, hu] at q
      exact (Option.some.inj q).symm
    refine ⟨_, rfl, wpAny_letOwnedTupleGo_enum (s := { s with heap := h', toks := tk + 1 }) ho fun h'' he' sb => ?_⟩
    have hT2 : h''.get? s.heap.objs.size = some { cls := .type "tuple", data := .seq #[.int i tk, y] } := (sb.2 _ (Nat.ne_of_gt le1)).trans hT
    have new : ObjOk X.prog X.w (upd H s.heap.objs.size (.tup [.int (i : Nat), x])) h'' s.heap.objs.size (.tup [.int (i : Nat), x]) :=
      ⟨by show 2 ≤ sizeLine; decide, [.int i tk, y], .cons ⟨_, rfl⟩ (.cons ru .nil), ⟨_, hT2, rfl, _, rfl⟩⟩
    have I1 : Inv X pins σ (upd H s.heap.objs.size (.tup [.int (i : Nat), x])) { s with heap := h'', toks := tk + 1 } :=
      I.turnedNew (ch := [e, it]) (fun b ob hb q => (sb.2 b (fun z => hb (by simp [z]))).trans (hk b ob (fun z => hb (by simp [z])) (fun z => hb (by simp [z])) q)) hf (Nat.le_refl _) new
    refine ⟨.ref s.heap.objs.size, _, I1, rfl, ⟨_, x, rfl, I.hok.fresh (Nat.le_refl _), rfl, fun ys hy => by rw [I.tuple_inj hy hq]; exact hx⟩, ⟨⟨y, ?_⟩, hit'.1.at fun o q => (sb.2 it (Ne.symm hne)).trans q, hne⟩, fun b hb => ?_⟩
    · rw [show ((i + 1 : Nat) : Int) = (i : Int) + 1 by omega]
      exact he'
    · have lb : b < s.heap.objs.size := by
        rcases (show b = e ∨ b = it by simpa using hb) with z | z
        · subst z; exact le1
        · subst z; exact le2
      rw [upd_ne (Nat.ne_of_lt lb)]
      exact (hf b hb).1
  done := by
    intro X hP hw hK hc i pins s σ H E I hf st hg
    subst hP hw hK
    obtain ⟨⟨old, he⟩, hit, hne⟩ := st
    obtain ⟨xs, hq, hx⟩ := hg
    obtain ⟨its, rv, p, hz⟩ := I.tuple hq
    obtain ⟨f0, f1, f2, f3, f4, f5⟩ := hf it (by simp)
    have hl := rv.length
    unfold pyNext
    have hT : s.TypeIs (.ref e) "enumerate" := ⟨_, he, rfl⟩
    refine wpAny_bind (wpAny_attempt (wpAny_callSpecial?_slot (name := Str.ofString "__next__") hT F.slot_enumerate_next (wpAny_call_entry F.slot_enumerate_next hT F.entry_enumerate_next ?_ (F.args_enumerate_next_1 _))))
    show wpAny _ _ (field (.ref e) 2 >>= _) _ _ _
    refine wpAny_bind (wpAny_field he rfl (x := .ref it) rfl (wpAny_bind (wpAny_nextOf_tuple_end (I.ok.hd hc) hit p (by simp; omega) fun h' x he' hx' => ?_)))
    obtain ⟨o, ho, hcl⟩ := hx'
    refine wpAny_bind (wpAny_isInstance (T := "StopIteration") (b := true) ⟨o, ho, hcl⟩ isSubtype_stop (wpAny_pure ⟨rfl, ?_⟩))
    exact I.turned (t' := s.toks) (fun b o hb q => he' b o hb q) f0 f1 f3 f4 f5
  self := fun A i s Q E st h => let ⟨⟨_, he⟩, _⟩ := st; wpAny_pyIter_enum he h
def iEnumA (K : PySem.W.Frag) (ta : TA) : TI := fun σ H R => ta σ H fun vs H1 => ∃ a xs, vs = [.ref a] ∧ ((SqL K H1 a xs ∧ R (Ite K a) H1) ∨ (SqT K H1 a xs ∧ R (IteT K a) H1))
theorem pi_enumA {X : Cx} {e : Expr} {ta : TA} {p pos tp : Pos} {els : List Expr} {kk : Nat} (hg : Gl X "enumerate") (hm : X.mg "enumerate" = none) (ha : PA X [e] ta) (hs : starEach [e] X.env = [(false, eval e X.env)]) :
    PI X (.Tuple els kk tp) (.Call (.Name "enumerate" p) [e] [] pos) (iEnumA X.K ta) := by
  refine ⟨fun pins s σ H R I h => ?_⟩
  refine Call_ (ld_blt I hg hm boot_enumerate (PyProof.Rows.callWith_type1 (thn (ha.run pos pins s σ H _ I h) fun us s1 ⟨vs, H1, I1, r1, q1⟩ => ?_) hs rfl))
  obtain ⟨a, xs, ex, q1⟩ := q1
  subst ex
  cases r1 with
  | cons r rr =>
    cases rr
    cases r
    have fp : ∀ b ∈ [s1.heap.objs.size + 1, s1.heap.objs.size], FpOk X pins H1 b := fun b hb => by
      have hle : s1.heap.objs.size ≤ b := by
        rcases (show b = s1.heap.objs.size + 1 ∨ b = s1.heap.objs.size by simpa using hb) with z | z <;> omega
      exact I1.fpOk hle (I1.hok.fresh hle)
    rcases q1 with ⟨hq, q⟩ | ⟨hq, q⟩
    · obtain ⟨its, rv, p', hz⟩ := I1.list hq
      refine call_enumerate_list p'.isList fun h' he hit hsz hk => wpAny_pyIter_enum he ?_
      exact ⟨s1.heap.objs.size + 1, [s1.heap.objs.size + 1, s1.heap.objs.size], _, _, H1, rfl, I1.kept (t' := s1.toks) hk, turn_enum a (s1.heap.objs.size + 1) s1.heap.objs.size, ⟨⟨.none, he⟩, hit, Nat.succ_ne_self _⟩, fp, q⟩
    · obtain ⟨its, rv, p', hz⟩ := I1.tuple hq
      have la : a < s1.heap.objs.size := by obtain ⟨_, q, _⟩ := id p'; exact Heap.lt_size q
      refine enT_call p' fun h' he hit hsz hk => wpAny_pyIter_enum he ?_
      exact ⟨s1.heap.objs.size + 1, [s1.heap.objs.size + 1, s1.heap.objs.size], _, _, H1, rfl, I1.kept (t' := s1.toks) hk, turn_enumT a (s1.heap.objs.size + 1) s1.heap.objs.size (Nat.ne_of_lt la) (Nat.ne_of_gt (Nat.lt_succ_of_lt la)), ⟨⟨.none, he⟩, hit, Nat.succ_ne_self _⟩, fp, q⟩
end Px

set_option Elab.async false
set_option linter.all false
set_option maxRecDepth 100000
set_option maxHeartbeats 1000000
/-! Px, part K1: zip of a list and a tuple. -/
namespace Px
open PySem PySem.Spec PyProof.Rows L2
/-- a list and a tuple side by side -/
def ItzM (K : PySem.W.Frag) (a b : Addr) : It :=
  ⟨fun i H => ∃ (vs us : List V) (v u : V), SqL K H a vs ∧ SqT K H b us ∧ vs[i]? = some v ∧ us[i]? = some u,
   fun i H r H' => ∃ T v u, r = .ref T ∧ H T = none ∧ H' = upd H T (.tup [v, u]) ∧ (∀ vs, SqL K H a vs → vs[i]? = some v) ∧ ∀ us, SqT K H b us → us[i]? = some u,
   fun i H => ∃ vs us : List V, SqL K H a vs ∧ SqT K H b us ∧ (vs.length ≤ i ∨ us.length ≤ i)⟩
theorem sepOf {a b z TI TO i1 i2 : Addr} (D : ZipApart z TI TO i1 i2 a b) : ZipSep2 z TI TO i1 i2 [i1, a] [i2, b] where
  TIz := D.TIz
  TOz := D.TOz
  TITO := D.TITO
  TIi1 := D.TIi1
  TIi2 := D.TIi2
  mem1 := by simp
  mem2 := by simp
  zf1 := by simp [D.i1z.symm, D.l1z.symm]
  zf2 := by simp [D.i2z.symm, D.l2z.symm]
  Tf1 := by simp [D.TOi1, D.l1TO.symm]
  Tf2 := by simp [D.TOi2, D.l2TO.symm]
  sep1_2 := by simp [D.i12, D.l2i1.symm]
  sep2_1 := by simp [D.i12.symm, D.l1i2.symm]
abbrev StM (a b z TI TO i1 i2 : Addr) (i : Nat) (h : Heap) : Prop :=
  IsZip h z TI TO .none ∧ IsPair h TI (.ref i1) (.ref i2) ∧ (∃ x y, IsPair h TO x y) ∧ h.IsListIter i1 a i ∧ h.IsTupleIter i2 b i
theorem endL {P : Program} {w : World} {A : Around} (hh : A.handled = none) (it l : Addr) (hne : l ≠ it) {ws : Array Value} {i : Nat} (hx : ws[i]? = none) :
    Draws P w A it [it, l] i (fun _ _ => False) (fun j h => j = i ∧ h.IsListIter it l i ∧ h.IsList l ws) where
  live := fun _ _ st => let ⟨o, ho, _⟩ := st.2.1; ⟨o, ho⟩
  frame := fun _ _ _ st hk => ⟨st.1, st.2.1.at fun o e => hk it (by simp) o e, st.2.2.at fun o e => hk l (by simp) o e⟩
  item := fun j s Q E hj st => absurd st.1 (Nat.ne_of_lt hj)
  done := fun s Q E st hE => wpAny_nextOf_list_end hh st.2.1 st.2.2 hx hE
theorem endT {P : Program} {w : World} {A : Around} (hh : A.handled = none) (it l : Addr) (hne : l ≠ it) {ws : Array Value} {i : Nat} (hx : ws[i]? = none) :
    Draws P w A it [it, l] i (fun _ _ => False) (fun j h => j = i ∧ h.IsTupleIter it l i ∧ h.IsTuple l ws) where
  live := fun _ _ st => let ⟨o, ho, _⟩ := st.2.1; ⟨o, ho⟩
  frame := fun _ _ _ st hk => ⟨st.1, st.2.1.at fun o e => hk it (by simp) o e, st.2.2.at fun o e => hk l (by simp) o e⟩
  item := fun j s Q E hj st => absurd st.1 (Nat.ne_of_lt hj)
  done := fun s Q E st hE => wpAny_nextOf_tuple_end hh st.2.1 st.2.2 hx hE
theorem endM {P : Program} {w : World} {A : Around} {E : Value → Shared → Prop} {s : Shared} {a b z TI TO i1 i2 : Addr} {i : Nat} {ws ts : List Value} {x0 y0 : Value} {Q : Option Value → Shared → Prop} (hh : A.handled = none) (D : ZipApart z TI TO i1 i2 a b)
    (q1 : IsZip s.heap z TI TO .none) (q2 : IsPair s.heap TI (.ref i1) (.ref i2)) (q3 : IsPair s.heap TO x0 y0) (q4 : s.heap.IsListIter i1 a i) (q5 : s.heap.IsTupleIter i2 b i) (p1 : s.heap.IsList a ws.toArray) (p2 : s.heap.IsTuple b ts.toArray) (hend : ws.length ≤ i ∨ ts.length ≤ i)
    (h : ∀ h' tk, (∀ c o, c ≠ z → c ≠ TO → c ≠ i1 → c ≠ i2 → s.heap.get? c = some o → h'.get? c = some o) → Q none { s with heap := h', toks := tk }) : wpAny (model P w) A (pyNext (.ref z)) Q E s := by
  have n1 : ws.length ≤ i → ws.toArray[i]? = none := fun h => by simpa using h
  have n2 : ts.length ≤ i → ts.toArray[i]? = none := fun h => by simpa using h
  by_cases c1 : ws.length ≤ i
  · by_cases c2 : ts.length ≤ i
    · exact wpAny_pyNext_zipD2_end (sepOf D) (endL (A := A.in1) hh i1 a D.l1i1 (n1 c1)) (endT (A := A.in1) hh i2 b D.l2i2 (n2 c2)) q1 q2 q3 ⟨rfl, q4, p1⟩ ⟨rfl, q5, p2⟩ (Nat.le_refl _) (Nat.le_refl _) (.inl rfl) h
    · exact wpAny_pyNext_zipD2_end (sepOf D) (endL (A := A.in1) hh i1 a D.l1i1 (n1 c1)) (Draws.tuple (A := A.in1) hh i2 b D.l2i2 ts.toArray) q1 q2 q3 ⟨rfl, q4, p1⟩ ⟨q5, p2⟩ (Nat.le_refl _) (by simpa using Nat.le_of_not_le c2) (.inl rfl) h
  · have c2 : ts.length ≤ i := hend.resolve_left c1
    exact wpAny_pyNext_zipD2_end (sepOf D) (Draws.list (A := A.in1) hh i1 a D.l1i1 ws.toArray) (endT (A := A.in1) hh i2 b D.l2i2 (n2 c2)) q1 q2 q3 ⟨q4, p1⟩ ⟨rfl, q5, p2⟩ (by simpa using Nat.le_of_not_le c1) (Nat.le_refl _) (.inr rfl) h
theorem turn_zipM {P : Program} {w : World} {K : PySem.W.Frag} {elts : List Expr} {kk : Nat} {tpos : Pos} {a b z TI TO i1 i2 : Addr} (D : ZipApart z TI TO i1 i2 a b) :
    Turn P w K (.Tuple elts kk tpos) (ItzM K a b) [z, TI, TO, i1, i2] z (StM a b z TI TO i1 i2) where
  mem := by simp
  obj := fun i h st c hc => by
    obtain ⟨q1, q2, ⟨x, y, q3⟩, ⟨o1, e1, _, d1⟩, o2, e2, _, d2⟩ := st
    simp only [List.mem_cons, List.not_mem_nil, or_false] at hc
    rcases hc with rfl | rfl | rfl | rfl | rfl
    · exact ⟨_, q1, fun v q => nomatch q⟩
    · exact ⟨_, q2, fun v q => nomatch q⟩
    · exact ⟨_, q3, fun v q => nomatch q⟩
    · exact ⟨o1, e1, fun v q => by rw [d1] at q; cases q⟩
    · exact ⟨o2, e2, fun v q => by rw [d2] at q; cases q⟩
  keep := fun i h h' st k => by
    obtain ⟨q1, q2, ⟨x, y, q3⟩, q4, q5⟩ := st
    exact ⟨k z (by simp) _ q1, k TI (by simp) _ q2, ⟨x, y, k TO (by simp) _ q3⟩, q4.at fun o q => k i1 (by simp) o q, q5.at fun o q => k i2 (by simp) o q⟩
  item := by
    intro X hP hw hK hc i pins s σ H E I hf st hg
    subst hP hw hK
    obtain ⟨q1, q2, ⟨x0, y0, q3⟩, q4, q5⟩ := st
    obtain ⟨vs, us, v, u, hv, hu, iv, iu⟩ := hg
    obtain ⟨ws, rw1, p1, _⟩ := I.list hv
    obtain ⟨ts, rw2, p2, _⟩ := I.tuple hu
    obtain ⟨m1, hm1, rm1⟩ := rw1.get iv
    obtain ⟨m2, hm2, rm2⟩ := rw2.get iu
    have lz : z < s.heap.objs.size := Heap.lt_size q1
    have hh := I.ok.hd hc
    refine wpAny_pyNext_zipD2_item (sepOf D) (Draws.list (by exact hh) i1 a D.l1i1 ws.toArray) (Draws.tuple (by exact hh) i2 b D.l2i2 ts.toArray) q1 q2 q3 ⟨q4, p1.isList⟩ ⟨q5, p2⟩ (by have := (List.getElem?_eq_some_iff.mp hm1).1; simpa using this) (by have := (List.getElem?_eq_some_iff.mp hm2).1; simpa using this) fun y1 y2 h' tk e1 e2 z' TO' s1 s2 hT hsz hk => ?_
    have e1' : y1 = m1 := by
      have : ws[i]? = some y1 := by simpa using e1
      rw [hm1] at this; cases this; rfl
    have e2' : y2 = m2 := by
      have : ts[i]? = some y2 := by simpa using e2
      rw [hm2] at this; cases this; rfl
    subst e1' e2'
    refine ⟨_, rfl, wpAny_letOwnedTupleGo_zip (s := { s with heap := h', toks := tk }) z' fun k zz sb => ?_⟩
    have hN : k.get? s.heap.objs.size = some { cls := .type "tuple", data := .seq #[y1, y2] } := (sb.2 _ (Nat.ne_of_gt lz)).trans hT
    have nw : ObjOk X.prog X.w (upd H s.heap.objs.size (.tup [v, u])) k s.heap.objs.size (.tup [v, u]) :=
      ⟨by show 2 ≤ sizeLine; decide, [y1, y2], .cons rm1 (.cons rm2 .nil), ⟨_, hN, rfl, _, rfl⟩⟩
    have J : Inv X pins σ (upd H s.heap.objs.size (.tup [v, u])) { s with heap := k, toks := tk } :=
      I.turnedNew (t' := tk) (ch := [z, TI, TO, i1, i2]) (fun c o hb q => by
        have n1 : c ≠ z := fun e => hb (by simp [e])
        exact (sb.2 c n1).trans (hk c o n1 (fun e => hb (by simp [e])) (fun e => hb (by simp [e])) (fun e => hb (by simp [e])) q)) hf (Nat.le_refl _) nw
    refine ⟨.ref s.heap.objs.size, _, J, rfl, ⟨_, v, u, rfl, I.hok.fresh (Nat.le_refl _), rfl, fun l hl => by rw [I.list_inj hl hv]; exact iv, fun l hl => by rw [I.tuple_inj hl hu]; exact iu⟩, ⟨zz, (sb.2 _ D.TIz).trans (hk _ _ D.TIz D.TITO D.TIi1 D.TIi2 q2), ⟨y1, y2, (sb.2 _ D.TOz).trans TO'⟩, s1.1.at fun o q => (sb.2 _ D.i1z).trans q, s2.1.at fun o q => (sb.2 _ D.i2z).trans q⟩, fun c hcm => ?_⟩
    have hlt : c < s.heap.objs.size := by
      simp only [List.mem_cons, List.not_mem_nil, or_false] at hcm
      rcases hcm with rfl | rfl | rfl | rfl | rfl
      · exact lz
      · exact Heap.lt_size q2
      · exact Heap.lt_size q3
      · obtain ⟨_, e, _⟩ := q4; exact Heap.lt_size e
      · obtain ⟨_, e, _⟩ := q5; exact Heap.lt_size e
    rw [upd_ne (Nat.ne_of_lt hlt)]
    exact (hf c hcm).1
  done := by
    intro X hP hw hK hc i pins s σ H E I hf st hg
    subst hP hw hK
    obtain ⟨q1, q2, ⟨x0, y0, q3⟩, q4, q5⟩ := st
    obtain ⟨vs, us, hv, hu, hend⟩ := hg
    obtain ⟨ws, rw1, p1, _⟩ := I.list hv
    obtain ⟨ts, rw2, p2, _⟩ := I.tuple hu
    have l1 := rw1.length
    have l2 := rw2.length
    have hh := I.ok.hd hc
    have fin := fun (Q : Option Value → Shared → Prop) (h : ∀ h' tk, (∀ c o, c ≠ z → c ≠ TO → c ≠ i1 → c ≠ i2 → s.heap.get? c = some o → h'.get? c = some o) → Q none { s with heap := h', toks := tk }) => endM (P := X.prog) (w := X.w) (Q := Q) (E := E) hh D q1 q2 q3 q4 q5 p1.isList p2 (by omega) h
    exact fin _ fun h' tk hk => ⟨rfl, I.turnedL (t' := tk) (ch := [z, TI, TO, i1, i2]) (fun c o hb q =>
      hk c o (fun e => hb (by simp [e])) (fun e => hb (by simp [e])) (fun e => hb (by simp [e])) (fun e => hb (by simp [e])) q) hf⟩
  self := fun A i s Q E st h => wpAny_pyIter_zip st.1 h
/-- zip(x, y): two lists, two tuples, a list and a tuple -/
def iZipX (K : PySem.W.Frag) (ta : TA) : TI := fun σ H R => ta σ H fun vs H1 => ∃ a b xs ys, vs = [.ref a, .ref b] ∧ ((SqL K H1 a xs ∧ SqL K H1 b ys ∧ R (Itz K a b) H1) ∨ (SqT K H1 a xs ∧ SqT K H1 b ys ∧ R (RZ.ItzT K a b) H1) ∨ (SqL K H1 a xs ∧ SqT K H1 b ys ∧ R (ItzM K a b) H1))
theorem pi_zipX {X : Cx} {e e2 : Expr} {ta : TA} {p pos tpos : Pos} {elts : List Expr} {kk : Nat} (hg : Gl X "zip") (hm : X.mg "zip" = none) (ha : PA X [e, e2] ta)
    (hs : starEach [e, e2] X.env = (false, eval e X.env) :: starEach [e2] X.env := by rfl) (hpl : (backTo pos (starEach [e2] X.env)).any (·.1) = false := by rfl) :
    PI X (.Tuple elts kk tpos) (.Call (.Name "zip" p) [e, e2] [] pos) (iZipX X.K ta) := by
  refine ⟨fun pins s σ H R I h => Call_ (ld_blt I hg hm PyProof.Rows.boot_zip (PyProof.Rows.callWith_type1 (thn (ha.run pos pins s σ H _ I h) fun us s1 ⟨vs, H1, J, rl, a, b, xs, ys, ex, q⟩ => ?_) hs hpl))⟩
  subst ex
  obtain ⟨u1, u2, rfl, r1, r2⟩ : ∃ u1 u2, us = [u1, u2] ∧ RelV (.ref a) u1 ∧ RelV (.ref b) u2 := by
    cases rl with | cons r1 rl => cases rl with | cons r2 rl => cases rl; exact ⟨_, _, rfl, r1, r2⟩
  cases r1
  cases r2
  have nw : ∀ c, c ∈ [s1.heap.objs.size + 4, s1.heap.objs.size + 2, s1.heap.objs.size + 3, s1.heap.objs.size, s1.heap.objs.size + 1] → FpOk X pins H1 c := fun c hc => by
    have hle : s1.heap.objs.size ≤ c := by
      simp only [List.mem_cons, List.not_mem_nil, or_false] at hc
      rcases hc with rfl | rfl | rfl | rfl | rfl <;> first | exact Nat.le_add_right _ _ | exact Nat.le_refl _
    exact J.fpOk hle (J.hok.fresh hle)
  rcases q with ⟨qa, qb, q⟩ | ⟨qa, qb, q⟩ | ⟨qa, qb, q⟩
  · obtain ⟨w1, v1, p1, _⟩ := J.list qa
    obtain ⟨w2, v2, p2, _⟩ := J.list qb
    exact call_zip_2 p1.isList p2.isList fun k z1 z2 z3 z4 z5 z6 hk => wpAny_pyIter_zip z1 ⟨s1.heap.objs.size + 4, [s1.heap.objs.size + 4, s1.heap.objs.size + 2, s1.heap.objs.size + 3, s1.heap.objs.size, s1.heap.objs.size + 1], _, _, H1, rfl, J.kept (t' := s1.toks) hk, turn_zip (PySem.W.ktu_apart s1.heap.objs.size a b p1.lt p2.lt), ⟨z1, z2, ⟨_, _, z3⟩, z4, z5⟩, nw, q⟩
  · obtain ⟨w1, v1, p1, _⟩ := J.tuple qa
    obtain ⟨w2, v2, p2, _⟩ := J.tuple qb
    obtain ⟨o1, k1, _⟩ := id p1
    obtain ⟨o2, k2, _⟩ := id p2
    exact RZ.call_zipT (show s1.heap.IsTuple a w1.toArray from p1) (show s1.heap.IsTuple b w2.toArray from p2) fun k z1 z2 z3 z4 z5 z6 hk => wpAny_pyIter_zip z1 ⟨s1.heap.objs.size + 4, [s1.heap.objs.size + 4, s1.heap.objs.size + 2, s1.heap.objs.size + 3, s1.heap.objs.size, s1.heap.objs.size + 1], _, _, H1, rfl, J.kept (t' := s1.toks) hk, RZ.turn_zipT (PySem.W.ktu_apart s1.heap.objs.size a b (Heap.lt_size k1) (Heap.lt_size k2)), ⟨z1, z2, ⟨_, _, z3⟩, z4, z5⟩, nw, q⟩
  · obtain ⟨w1, v1, p1, _⟩ := J.list qa
    obtain ⟨w2, v2, p2, _⟩ := J.tuple qb
    obtain ⟨o2, k2, _⟩ := id p2
    exact zip_begins2 (begins_list a w1.toArray) (begins_tuple b w2.toArray) p1.isList (show s1.heap.IsTuple b w2.toArray from p2) fun k z1 z2 z3 z4 z5 z6 hk => wpAny_pyIter_zip z1 ⟨s1.heap.objs.size + 4, [s1.heap.objs.size + 4, s1.heap.objs.size + 2, s1.heap.objs.size + 3, s1.heap.objs.size, s1.heap.objs.size + 1], _, _, H1, rfl, J.kept (t' := s1.toks) hk, turn_zipM (PySem.W.ktu_apart s1.heap.objs.size a b p1.lt (Heap.lt_size k2)), ⟨z1, z2, ⟨_, _, z3⟩, ⟨_, z4, rfl, rfl⟩, ⟨_, z5, rfl, rfl⟩⟩, nw, q⟩
end Px

set_option Elab.async false
set_option linter.all false
set_option maxRecDepth 100000
set_option maxHeartbeats 1000000
/-! Px, part K: what is walked. -/
namespace Px
open PySem PySem.Spec PyProof.Rows L2
/-- a walk that yields the data ds -/
def ItR (K : PySem.W.Frag) (_ g' : Gh) (ds : List D) (J : It) : Prop := ∀ g1, Gro g' g1 → Gok K g1 → ∀ i : Nat,
  (∀ d, ds[i]? = some d → J.go i g1.H ∧ ∀ x H', J.yld i g1.H x H' → ∃ g2 : Gh, g2.H = H' ∧ g2.S = g1.S ∧ Gok K g2 ∧ Stp g1 g2 ∧ g2.Rep K d x) ∧ (ds[i]? = none → J.stop i g1.H)
abbrev rdI (K : PySem.W.Frag) (E : XK) (f : Slots → Sto → Res (List D)) : TI := rd K E (ItR K) f
theorem PI.imp {X : Cx} {tg e : Expr} {t u : TI} (h : PI X tg e t) (i : ∀ σ H R, u σ H R → t σ H R) : PI X tg e u := ⟨fun pins s σ H R I q => h.run pins s σ H R I (i σ H R q)⟩
theorem PI.or {X : Cx} {tg e : Expr} {t u : TI} (h : PI X tg e t) (h' : PI X tg e u) : PI X tg e (fun σ H R => t σ H R ∨ u σ H R) := ⟨fun pins s σ H R I q => q.elim (h.run pins s σ H R I) (h'.run pins s σ H R I)⟩
section
variable {X : Cx} {F : Cf} {fns gls : List String} {n : Nat} {E : XK} {tg a b c e : Expr} {fa fb fc : Slots → Sto → Res Rv} {pos : Pos}
theorem itr_list {K : PySem.W.Frag} {g g' : Gh} {a : Addr} {xs : List D} {vs : List V} (h : g'.R a = some (.lst vs)) (q : g'.Reps K xs vs) : ItR K g g' xs (Itl K a) := fun g1 gr ok i => by
  have hs : SqL K g1.H a vs := SqL.of (ok.sub _ _ (gr.rr _ _ h))
  refine ⟨fun d hd => ?_, fun hn => ⟨vs, hs, ?_⟩⟩
  · obtain ⟨v, h1, h2⟩ := (gr.reps q).get hd
    refine ⟨⟨vs, v, hs, h1⟩, fun x H' y => ?_⟩
    obtain ⟨e1, e2⟩ := y
    subst e1
    have := e2 vs hs
    rw [h1] at this
    cases this
    exact ⟨g1, rfl, rfl, ok, Stp.refl _, h2⟩
  · rw [← q.length]; exact List.getElem?_eq_none_iff.mp hn
theorem itr_tup {K : PySem.W.Frag} {g g' : Gh} {a : Addr} {xs : List D} {vs : List V} (h : SqT K g'.R a vs) (q : g'.Reps K xs vs) : ItR K g g' xs (Itt K a) := fun g1 gr ok i => by
  have hs : SqT K g1.H a vs := SqT.mono (SqT.mono h gr.rr) ok.sub
  refine ⟨fun d hd => ?_, fun hn => ⟨vs, hs, ?_⟩⟩
  · obtain ⟨v, h1, h2⟩ := (gr.reps q).get hd
    refine ⟨⟨vs, v, hs, h1⟩, fun x H' y => ?_⟩
    obtain ⟨e1, e2⟩ := y
    subst e1
    have := e2 vs hs
    rw [h1] at this
    cases this
    exact ⟨g1, rfl, rfl, ok, Stp.refl _, h2⟩
  · rw [← q.length]; exact List.getElem?_eq_none_iff.mp hn
theorem rngD_get {lo : Int} {m i : Nat} : (rngD lo m)[i]? = if i < m then some (.int (lo + i)) else none := by
  unfold rngD
  rw [List.getElem?_map]
  by_cases h : i < m
  · rw [if_pos h, List.getElem?_eq_getElem (by simpa using h)]; simp
  · rw [if_neg h, List.getElem?_eq_none (by simpa using h)]; rfl
theorem itr_rng {K : PySem.W.Frag} {g g' : Gh} {lo : Int} {m : Nat} : ItR K g g' (rngD lo m) (Itr lo m) := fun g1 gr ok i => by
  rw [rngD_get]
  by_cases h : i < m
  · rw [if_pos h]
    refine ⟨fun d hd => ?_, fun q => by cases q⟩
    cases hd
    refine ⟨h, fun x H' y => ?_⟩
    obtain ⟨e1, e2⟩ := y
    subst e1 e2
    exact ⟨g1, rfl, rfl, ok, Stp.refl _, .int _⟩
  · rw [if_neg h]
    refine ⟨fun d q => ?_, fun _ => Nat.le_of_not_lt h⟩
    cases q
theorem enumD_get {xs : List D} {i : Nat} : (enumD xs)[i]? = xs[i]?.map fun d => .tup [.int i, d] := by
  unfold enumD
  rw [List.getElem?_map, List.getElem?_zipIdx]
  cases xs[i]? with
  | none => rfl
  | some d => simp
theorem zipD_get : ∀ {xs ys : List D} {i : Nat}, (zipD xs ys)[i]? = match xs[i]?, ys[i]? with | some x, some y => some (.tup [x, y]) | _, _ => none
  | [], ys, i => by simp [zipD]
  | x :: xs, [], i => by cases i <;> simp [zipD] <;> (cases xs[_]? <;> rfl)
  | x :: xs, y :: ys, 0 => by simp [zipD]
  | x :: xs, y :: ys, i + 1 => by
    have := zipD_get (xs := xs) (ys := ys) (i := i)
    simpa [zipD] using this
theorem new_pair {K : PySem.W.Frag} {g1 : Gh} (ok : Gok K g1) {T : Addr} (hT : g1.H T = none) {x y : V} {d e : D} (rx : g1.Rep K d x) (ry : g1.Rep K e y) :
    ∃ g2 : Gh, g2.H = upd g1.H T (.tup [x, y]) ∧ g2.S = g1.S ∧ Gok K g2 ∧ Stp g1 g2 ∧ g2.Rep K (.tup [d, e]) (.ref T) := by
  obtain ⟨k, st⟩ := ok.newR hT (.tup [x, y])
  refine ⟨g1.newR T (.tup [x, y]), rfl, rfl, k, st, .tup (vs := [x, y]) (SqT.of (show upd g1.R T (.tup [x, y]) T = some _ from upd_same)) ?_ (.cons (st.gro.rep rx) (.cons (st.gro.rep ry) .nil))⟩
  show 2 ≤ sizeLine
  rw [sizeLine_eq]; decide
theorem itr_enum {K : PySem.W.Frag} {g g' : Gh} {a : Addr} {xs : List D} {vs : List V} (h : g'.R a = some (.lst vs)) (q : g'.Reps K xs vs) : ItR K g g' (enumD xs) (Ite K a) := fun g1 gr ok i => by
  have hs : SqL K g1.H a vs := SqL.of (ok.sub _ _ (gr.rr _ _ h))
  rw [enumD_get]
  refine ⟨fun d hd => ?_, fun hn => ⟨vs, hs, ?_⟩⟩
  · obtain ⟨d0, hd0, e0⟩ := Option.map_eq_some_iff.mp hd
    subst e0
    obtain ⟨v, h1, h2⟩ := (gr.reps q).get hd0
    refine ⟨⟨vs, v, hs, h1⟩, fun x H' y => ?_⟩
    obtain ⟨T, z, e1, e2, e3, e4⟩ := y
    have := e4 vs hs
    rw [h1] at this
    cases this
    obtain ⟨g2, k1, k2, k3, k4, k5⟩ := new_pair ok e2 (.int (i : Int)) h2
    exact ⟨g2, by rw [k1, e3], k2, k3, k4, by rw [e1]; exact k5⟩
  · rw [← q.length]
    exact List.getElem?_eq_none_iff.mp (by simpa using hn)
theorem itr_enumT {K : PySem.W.Frag} {g g' : Gh} {a : Addr} {xs : List D} {vs : List V} (h : SqT K g'.R a vs) (q : g'.Reps K xs vs) : ItR K g g' (enumD xs) (IteT K a) := fun g1 gr ok i => by
  have hs : SqT K g1.H a vs := SqT.mono (SqT.mono h gr.rr) ok.sub
  rw [enumD_get]
  refine ⟨fun d hd => ?_, fun hn => ⟨vs, hs, ?_⟩⟩
  · obtain ⟨d0, hd0, e0⟩ := Option.map_eq_some_iff.mp hd
    subst e0
    obtain ⟨v, h1, h2⟩ := (gr.reps q).get hd0
    refine ⟨⟨vs, v, hs, h1⟩, fun x H' y => ?_⟩
    obtain ⟨T, z, e1, e2, e3, e4⟩ := y
    have := e4 vs hs
    rw [h1] at this
    cases this
    obtain ⟨g2, k1, k2, k3, k4, k5⟩ := new_pair ok e2 (.int (i : Int)) h2
    exact ⟨g2, by rw [k1, e3], k2, k3, k4, by rw [e1]; exact k5⟩
  · rw [← q.length]
    exact List.getElem?_eq_none_iff.mp (by simpa using hn)
theorem itr_zipL {K : PySem.W.Frag} {g g' : Gh} {a b : Addr} {xs ys : List D} {vs us : List V} (h : g'.R a = some (.lst vs)) (q : g'.Reps K xs vs) (h' : g'.R b = some (.lst us)) (q' : g'.Reps K ys us) : ItR K g g' (zipD xs ys) (Itz K a b) := fun g1 gr ok i => by
  have hs : SqL K g1.H a vs := SqL.of (ok.sub _ _ (gr.rr _ _ h))
  have hs' : SqL K g1.H b us := SqL.of (ok.sub _ _ (gr.rr _ _ h'))
  rw [zipD_get]
  refine ⟨fun d hd => ?_, fun hn => ⟨vs, us, hs, hs', ?_⟩⟩
  · cases e1 : xs[i]? with
    | none => rw [e1] at hd; cases hd
    | some d1 =>
      cases e2 : ys[i]? with
      | none => rw [e1, e2] at hd; cases hd
      | some d2 =>
        rw [e1, e2] at hd
        cases hd
        obtain ⟨v, h1, h2⟩ := (gr.reps q).get e1
        obtain ⟨u, h3, h4⟩ := (gr.reps q').get e2
        refine ⟨⟨vs, us, v, u, hs, hs', h1, h3⟩, fun x H' y => ?_⟩
        obtain ⟨T, z, w, f1, f2, f3, f4, f5⟩ := y
        have j1 := f4 vs hs
        have j2 := f5 us hs'
        rw [h1] at j1; cases j1
        rw [h3] at j2; cases j2
        obtain ⟨g2, k1, k2, k3, k4, k5⟩ := new_pair ok f2 h2 h4
        exact ⟨g2, by rw [k1, f3], k2, k3, k4, by rw [f1]; exact k5⟩
  · rw [← q.length, ← q'.length]
    cases e1 : xs[i]? with
    | none => exact .inl (List.getElem?_eq_none_iff.mp e1)
    | some d1 =>
      cases e2 : ys[i]? with
      | none => exact .inr (List.getElem?_eq_none_iff.mp e2)
      | some d2 => rw [e1, e2] at hn; cases hn
theorem itr_zipT {K : PySem.W.Frag} {g g' : Gh} {a b : Addr} {xs ys : List D} {vs us : List V} (h : SqT K g'.R a vs) (q : g'.Reps K xs vs) (h' : SqT K g'.R b us) (q' : g'.Reps K ys us) : ItR K g g' (zipD xs ys) (RZ.ItzT K a b) := fun g1 gr ok i => by
  have hs : SqT K g1.H a vs := SqT.mono (SqT.mono h gr.rr) ok.sub
  have hs' : SqT K g1.H b us := SqT.mono (SqT.mono h' gr.rr) ok.sub
  rw [zipD_get]
  refine ⟨fun d hd => ?_, fun hn => ⟨vs, us, hs, hs', ?_⟩⟩
  · cases e1 : xs[i]? with
    | none => rw [e1] at hd; cases hd
    | some d1 =>
      cases e2 : ys[i]? with
      | none => rw [e1, e2] at hd; cases hd
      | some d2 =>
        rw [e1, e2] at hd
        cases hd
        obtain ⟨v, h1, h2⟩ := (gr.reps q).get e1
        obtain ⟨u, h3, h4⟩ := (gr.reps q').get e2
        refine ⟨⟨vs, us, v, u, hs, hs', h1, h3⟩, fun x H' y => ?_⟩
        obtain ⟨T, z, w, f1, f2, f3, f4, f5⟩ := y
        have j1 := f4 vs hs
        have j2 := f5 us hs'
        rw [h1] at j1; cases j1
        rw [h3] at j2; cases j2
        obtain ⟨g2, k1, k2, k3, k4, k5⟩ := new_pair ok f2 h2 h4
        exact ⟨g2, by rw [k1, f3], k2, k3, k4, by rw [f1]; exact k5⟩
  · rw [← q.length, ← q'.length]
    cases e1 : xs[i]? with
    | none => exact .inl (List.getElem?_eq_none_iff.mp e1)
    | some d1 =>
      cases e2 : ys[i]? with
      | none => exact .inr (List.getElem?_eq_none_iff.mp e2)
      | some d2 => rw [e1, e2] at hn; cases hn

/-- data of an expression, then more: with what it is -/
theorem itr_zipM {K : PySem.W.Frag} {g g' : Gh} {a b : Addr} {xs ys : List D} {vs us : List V} (h : g'.R a = some (.lst vs)) (q : g'.Reps K xs vs) (h' : SqT K g'.R b us) (q' : g'.Reps K ys us) : ItR K g g' (zipD xs ys) (ItzM K a b) := fun g1 gr ok i => by
  have hs : SqL K g1.H a vs := SqL.of (ok.sub _ _ (gr.rr _ _ h))
  have hs' : SqT K g1.H b us := SqT.mono (SqT.mono h' gr.rr) ok.sub
  rw [zipD_get]
  refine ⟨fun d hd => ?_, fun hn => ⟨vs, us, hs, hs', ?_⟩⟩
  · cases e1 : xs[i]? with
    | none => rw [e1] at hd; cases hd
    | some d1 =>
      cases e2 : ys[i]? with
      | none => rw [e1, e2] at hd; cases hd
      | some d2 =>
        rw [e1, e2] at hd
        cases hd
        obtain ⟨v, h1, h2⟩ := (gr.reps q).get e1
        obtain ⟨u, h3, h4⟩ := (gr.reps q').get e2
        refine ⟨⟨vs, us, v, u, hs, hs', h1, h3⟩, fun x H' y => ?_⟩
        obtain ⟨T, z, w, f1, f2, f3, f4, f5⟩ := y
        have j1 := f4 vs hs
        have j2 := f5 us hs'
        rw [h1] at j1; cases j1
        rw [h3] at j2; cases j2
        obtain ⟨g2, k1, k2, k3, k4, k5⟩ := new_pair ok f2 h2 h4
        exact ⟨g2, by rw [k1, f3], k2, k3, k4, by rw [f1]; exact k5⟩
  · rw [← q.length, ← q'.length]
    cases e1 : xs[i]? with
    | none => exact .inl (List.getElem?_eq_none_iff.mp e1)
    | some d1 =>
      cases e2 : ys[i]? with
      | none => exact .inr (List.getElem?_eq_none_iff.mp e2)
      | some d2 => rw [e1, e2] at hn; cases hn

/-- data of an expression, then more: with what it is -/
theorem Post.dataE {K : PySem.W.Frag} {γ δ : Type} {RS : Gh → Gh → γ → δ → Prop} {g0 g g' : Gh} {sl : Slots} {σ : L2.St} {r : Res Rv} {k : D → Sto → Res γ} {Q : δ → Hp → Prop} {Q1 : V → Hp → Prop} (st : Stp g g') (so : SlOk K g0 g' σ sl) (h : Post K E RS g (r.data.bind k) Q)
    (hk : ∀ g1 d v, r.data = .ok d g1.S → Gok K g1 → Stp g' g1 → SlOk K g0 g1 σ sl → g1.Rep K d v → Post K E RS g (k d g1.S) Q → Q1 v g1.H) : Post K E (RvR K) g' r Q1 := by
  cases r with
  | stuck => exact h
  | exc x S => intro g1 C od e ok s q; exact h g1 C od e ok (st.trans s) q
  | ok x S =>
    intro g1 v e ok1 st1 r1
    subst e
    unfold Res.data at h
    rw [Res.bind_ok] at h
    obtain ⟨d, e1, h2⟩ := Post.optBind h
    obtain ⟨g2, q1, q2, q3, q4, q5, q6⟩ := r1.esc ok1 st1 e1
    rw [← q1]
    rw [← q2] at h2
    refine hk g2 d v ?_ q3 q4 (so.step q4) q6 h2
    unfold Res.data
    rw [Res.bind_ok, e1, q2]
    rfl
theorem Post.int {K : PySem.W.Frag} {γ δ : Type} {RS : Gh → Gh → γ → δ → Prop} {g g' : Gh} {r : Res Rv} {k : Int → Sto → Res γ} {Q : δ → Hp → Prop} {Q1 : V → Hp → Prop} (st : Stp g g') (h : Post K E RS g (r.int?.bind k) Q)
    (hk : ∀ g1 i, Gok K g1 → Stp g' g1 → Post K E RS g (k i g1.S) Q → Q1 (.int i) g1.H) : Post K E (RvR K) g' r Q1 := by
  unfold Res.int? at h
  rw [Res.bind_assoc] at h
  refine Post.bindAt st h fun g1 x v ok1 st1 r1 h1 => ?_
  have l1 := r1.lookR ok1
  generalize x.look = d at h1 l1
  split at h1
  · cases l1.int
    exact hk g1 _ ok1 st1 h1
  · exact h1.elim
theorem i_val {x : Ex} (ha : PE X e (rdE X.K E (evE F x))) : PI X tg e (rdI X.K E (evI F (.val x))) :=
  PI.imp (PI.or (pi_tup (tg := tg) ha) (pi_list (tg := tg) ha)) fun σ H R ⟨g0, g, sl, e, ok, so, h⟩ => by
    subst e
    unfold evI at h
    by_cases ht : ∃ xs S, (evE F x sl g.S).data = .ok (.tup xs) S
    · obtain ⟨xs, S, e1⟩ := ht
      refine .inl ⟨g0, g, sl, rfl, ok, so, Post.dataE (Stp.refl g) so h fun g1 d v ed ok1 st1 so1 r1 h1 => ?_⟩
      rw [e1] at ed
      cases ed
      cases r1 with | tup q1 q2 q3 =>
      exact ⟨_, rfl, ⟨_, SqT.mono q1 ok1.sub⟩, h1 g1 _ rfl ok1 st1 (itr_tup q1 q3)⟩
    · refine .inr ⟨g0, g, sl, rfl, ok, so, Post.dataE (Stp.refl g) so h fun g1 d v ed ok1 st1 so1 r1 h1 => ?_⟩
      cases d with
      | tup xs => exact absurd ⟨xs, _, ed⟩ ht
      | lst xs =>
        cases r1 with | lst q1 q2 q3 =>
        exact ⟨_, rfl, ⟨_, SqL.of (ok1.sub _ _ q1)⟩, h1 g1 _ rfl ok1 st1 (itr_list q1 q3)⟩
      | _ => exact (Post.no h1).elim
theorem i_rng1 (c : Ctx X F fns gls n) {x : Ex} {nm : Str} {p : Pos} (hx : nm = sO "range") (hgl : X.env.scope.names.lookup nm = some .globalImplicit) (hst : notStar e = true) (ha : PE X e (rdE X.K E (evE F x))) :
    PI X tg (.Call (.Name nm p) [e] [] pos) (rdI X.K E (evI F (.rng1 x))) := by
  subst hx
  refine PI.imp (pi_range1 hgl (c.bl _ (by decide)) (pa_cons ha pa_nil (star_cons hst)) (star_cons hst)) fun σ H R ⟨g0, g, sl, e, ok, so, h⟩ => ?_
  subst e
  unfold evI at h
  refine ⟨g0, g, sl, rfl, ok, so, Post.int (Stp.refl g) h fun g1 i ok1 st1 h1 => ?_⟩
  split at h1
  case isFalse => exact h1.elim
  rename_i hb
  have hb' : -(2 ^ 62) ≤ i ∧ i < 2 ^ 62 := by simpa [small62] using hb
  exact ⟨i, rfl, hb'.1, hb'.2, h1 g1 _ rfl ok1 st1 itr_rng⟩
theorem i_rng2 (c : Ctx X F fns gls n) {x y : Ex} {nm : Str} {p : Pos} (hx : nm = sO "range") (hgl : X.env.scope.names.lookup nm = some .globalImplicit) (hst : notStar a = true) (hst2 : notStar b = true) (ha : PE X a (rdE X.K E (evE F x))) (hb : PE X b (rdE X.K E (evE F y))) :
    PI X tg (.Call (.Name nm p) [a, b] [] pos) (rdI X.K E (evI F (.rng2 x y))) := by
  subst hx
  refine PI.imp (pi_range2 hgl (c.bl _ (by decide)) (pa_cons ha (pa_cons hb pa_nil (star_cons hst2)) (star_cons hst)) (by rw [star_cons hst, star_cons hst2]; rfl) (by rw [star_cons hst2]; rfl)) fun σ H R ⟨g0, g, sl, e, ok, so, h⟩ => ?_
  subst e
  unfold evI at h
  refine ⟨g0, g, sl, rfl, ok, so, Post.int (Stp.refl g) h fun g1 i ok1 st1 h1 => ?_⟩
  refine ⟨g0, g1, sl, rfl, ok1, so.step st1, Post.int st1 h1 fun g2 j ok2 st2 h2 => ?_⟩
  split at h2
  case isFalse => exact h2.elim
  rename_i hb
  have hb' : (-(2 ^ 62) ≤ i ∧ i < 2 ^ 62) ∧ -(2 ^ 62) ≤ j ∧ j < 2 ^ 62 := by simpa [small62] using hb
  exact ⟨i, j, rfl, ⟨hb'.1.1, hb'.1.2, hb'.2.1, hb'.2.2⟩, h2 g2 _ rfl ok2 (st1.trans st2) itr_rng⟩
theorem i_enum (c : Ctx X F fns gls n) {x : Ex} {nm : Str} {p : Pos} (hx : nm = sO "enumerate") (hgl : X.env.scope.names.lookup nm = some .globalImplicit) (hst : notStar a = true) (ha : PE X a (rdE X.K E (evE F x))) (ht : isTupE tg = true) :
    PI X tg (.Call (.Name nm p) [a] [] pos) (rdI X.K E (evI F (.enum x))) := by
  subst hx
  cases tg <;> first | (cases ht; done) | skip
  refine PI.imp (pi_enumA hgl (c.bl _ (by decide)) (pa_cons ha pa_nil (star_cons hst)) (star_cons hst)) fun σ H R ⟨g0, g, sl, e, ok, so, h⟩ => ?_
  subst e
  unfold evI at h
  refine ⟨g0, g, sl, rfl, ok, so, Post.dataE (Stp.refl g) so h fun g1 d v ed ok1 st1 so1 r1 h1 => ?_⟩
  cases d with
  | tup xs =>
    cases r1 with | tup q1 q2 q3 =>
    exact ⟨_, _, rfl, .inr ⟨SqT.mono q1 ok1.sub, h1 g1 _ rfl ok1 st1 (itr_enumT q1 q3)⟩⟩
  | lst xs =>
    cases r1 with | lst q1 q2 q3 =>
    exact ⟨_, _, rfl, .inl ⟨SqL.of (ok1.sub _ _ q1), h1 g1 _ rfl ok1 st1 (itr_enum q1 q3)⟩⟩
  | _ => exact h1.elim
theorem i_zip (c : Ctx X F fns gls n) {x y : Ex} {nm : Str} {p : Pos} (hx : nm = sO "zip") (hgl : X.env.scope.names.lookup nm = some .globalImplicit) (hst : notStar a = true) (hst2 : notStar b = true) (ha : PE X a (rdE X.K E (evE F x))) (hb : PE X b (rdE X.K E (evE F y))) (ht : isTupE tg = true) :
    PI X tg (.Call (.Name nm p) [a, b] [] pos) (rdI X.K E (evI F (.zip x y))) := by
  subst hx
  cases tg <;> first | (cases ht; done) | skip
  refine PI.imp (pi_zipX hgl (c.bl _ (by decide)) (pa_cons ha (pa_cons hb pa_nil (star_cons hst2)) (star_cons hst)) (star_cons hst) (star_plain fun z hz => by
    have : z = b := by simpa using hz
    rw [this]; exact hst2)) fun σ H R ⟨g0, g, sl, e, ok, so, h⟩ => ?_
  subst e
  unfold evI at h
  refine ⟨g0, g, sl, rfl, ok, so, Post.dataE (Stp.refl g) so h fun g1 d v ed ok1 st1 so1 r1 h1 => ?_⟩
  refine ⟨g0, g1, sl, rfl, ok1, so1, Post.dataE st1 so1 h1 fun g2 d2 v2 ed2 ok2 st2 so2 r2 h2 => ?_⟩
  have r1 := st2.gro.rep r1
  split at h2
  · cases r1 with | tup q1 q2 q3 =>
    cases r2 with | tup p1 p2 p3 =>
    exact ⟨_, _, _, _, rfl, .inr (.inl ⟨SqT.mono q1 ok2.sub, SqT.mono p1 ok2.sub, h2 g2 _ rfl ok2 (st1.trans st2) (itr_zipT q1 q3 p1 p3)⟩)⟩
  · cases r1 with | lst q1 q2 q3 =>
    cases r2 with | lst p1 p2 p3 =>
    exact ⟨_, _, _, _, rfl, .inl ⟨SqL.of (ok2.sub _ _ q1), SqL.of (ok2.sub _ _ p1), h2 g2 _ rfl ok2 (st1.trans st2) (itr_zipL q1 q3 p1 p3)⟩⟩
  · cases r1 with | lst q1 q2 q3 =>
    cases r2 with | tup p1 p2 p3 =>
    exact ⟨_, _, _, _, rfl, .inr (.inr ⟨SqL.of (ok2.sub _ _ q1), SqT.mono p1 ok2.sub, h2 g2 _ rfl ok2 (st1.trans st2) (itr_zipM q1 q3 p1 p3)⟩)⟩
  · exact h2.elim
end
end Px

set_option Elab.async false
set_option linter.all false
set_option maxRecDepth 100000
set_option maxHeartbeats 1000000
/-! Px, part L: comprehensions. -/
namespace Px
open PySem PySem.Spec PyProof.Rows L2
def Gh.setH (g : Gh) (a : Addr) (o : HO) : Gh := { g with H := upd g.H a o }
section
variable {K : PySem.W.Frag} {g g' g1 : Gh} {a : Addr} {o o' : HO}
theorem Stp.own (st : Stp g g') (h1 : g.H a = some o) (h2 : g.R a = none) (h3 : a ∉ g.sa) : g'.H a = some o ∧ g'.R a = none ∧ a ∉ g'.sa :=
  ⟨st.hp a o h1 h3, st.rn a h2 (by rw [h1]; simp), fun m => by have := st.sn a m h3; rw [h1] at this; cases this⟩
theorem Stp.setH (st : Stp g g') (h : g.H a = none) (h1 : g'.H a = some o') : Stp g (g'.setH a o) :=
  ⟨fun b u e n => by
    show upd g'.H a o b = some u
    rw [upd_ne (ne_of_none e h)]; exact st.hp b u e n, fun b e => by
    have e' : upd g'.H a o b = none := e
    by_cases hb : b = a
    · subst hb; rw [upd_same] at e'; cases e'
    · rw [upd_ne hb] at e'; exact st.dom b e', st.rr, st.rn, st.sp, st.sn⟩
theorem Gro.setH (h : Gro g g') : Gro g (g'.setH a o) := ⟨h.rr, h.sp⟩
theorem Gok.setH (ok : Gok K g) (h1 : g.R a = none) (h2 : a ∉ g.sa) : Gok K (g.setH a o) := by
  refine ⟨fun b u e => ?_, ok.len, ok.nd, fun i b c e1 e2 => ?_⟩
  · show upd g.H a o b = some u
    rw [upd_ne (fun z : b = a => by rw [z] at e; exact absurd (h1.symm.trans e) (by simp))]
    exact ok.sub b u e
  · obtain ⟨u, q1, q2, q3⟩ := ok.sto i b c e1 e2
    refine ⟨u, ?_, (Gro.setH (Gro.refl g)).crep q2, q3⟩
    show upd g.H a o b = some u
    rw [upd_ne (fun z : b = a => h2 (z ▸ List.mem_of_getElem? e1))]
    exact q1
end
theorem PTs.imp {X : Cx} {es : List Expr} {t u : TT} (h : PTs X es t) (i : ∀ σ H Q, u σ H Q → t σ H Q) : PTs X es u := ⟨fun pins s σ H Q I q => h.run pins s σ H Q I (i σ H Q q)⟩
theorem s_notest {X : Cx} {F : Cf} {E : XK} : PTs X [] (rdT X.K E fun sl S => (evE F .nop sl S).truth) :=
  PTs.imp pts_nil fun σ H Q ⟨g0, g, sl, e, ok, so, h⟩ => by
    subst e
    unfold evE at h
    exact h g true rfl ok (Stp.refl g) rfl
/-- the turns of a comprehension: from the place of the loop to its end -/
structure LcW (K : PySem.W.Frag) (E : XK) (g0 gs g1 : Gh) (σ : L2.St) (sl : Slots) (items : List D) (f : D → List D → Sto → Res (List D)) (D0 : Addr) (Q : V → Hp → Prop) (i : Nat) (H : Hp) : Prop where
  ex : ∃ g2 acc vs, g2.H = H ∧ Gok K g2 ∧ Stp gs g2 ∧ Gro g1 g2 ∧ SlOk K g0 g2 σ sl ∧ g2.H D0 = some (.lst vs) ∧ g2.R D0 = none ∧ D0 ∉ g2.sa ∧ g2.Reps K acc vs ∧ acc.length ≤ sizeLine ∧
    Post K E (RvR K) gs ((compL f (items.drop i) acc g2.S).bind fun ds S2 => .ok (.fresh (.lst ds)) S2) Q
section
variable {X : Cx} {F : Cf} {fns gls : List String} {n : Nat} {E : XK}
theorem s_comp (hc : X.calm = true) (hN : X.N.Nodup) {own : List (String × Nat)} {tg : Tg} {it : Itx} {cx elt : Ex} {t i e : Expr} {ifs : List Expr} {scope : Scope} {pos : Pos} (hi : PI X t i (rdI X.K E (evI F it))) (ok : BlkOk X.N X.env.scope scope (ownS own))
    (hg : ∀ (s : Shared) (H : Hp) (C : Addr) (cl : List (Str × Addr)) (fp : List Addr), PG (X.blk s H scope (compEnvC scope cl C X.env) fp) t (rdG X.K tg))
    (ht : ∀ (s : Shared) (H : Hp) (C : Addr) (cl : List (Str × Addr)) (fp : List Addr), PTs (X.blk s H scope (compEnvC scope cl C X.env) fp) ifs (rdT X.K E fun sl S => (evE F cx sl S).truth))
    (he : ∀ (s : Shared) (H : Hp) (C : Addr) (cl : List (Str × Addr)) (fp : List Addr), PE (X.blk s H scope (compEnvC scope cl C X.env) fp) e (rdE X.K E (evE F elt)))
    (hs : ∀ x, foldedSetIterable i X.env x = pure x) (hsub : ∀ k ∈ tg.slots, k ∈ own.map (·.2)) :
    PE X (.ListComp e [⟨t, i, ifs, 0⟩] scope pos) (tLc (rdI X.K E (evI F it)) (rdG X.K tg) (rdT X.K E fun sl S => (evE F cx sl S).truth) (rdE X.K E (evE F elt)) (own.map (·.2))) := by
  have e1 : (ownS own).map (·.2) = own.map (·.2) := by simp [ownS]
  rw [← e1]
  exact pe_lc hc hN hi ok hg ht he hs
theorem lc_read {own : List Nat} {tg : Tg} {it : Itx} {cx elt : Ex} (hsub : ∀ k ∈ tg.slots, k ∈ own) {σ : L2.St} {H : Hp} {Q : VK} {K : PySem.W.Frag}
    (h : rdE K E (fun sl S => (evI F it sl S).bind fun items S1 =>
      (compL (fun x acc S => match bindT tg x (wipeS (hideS sl) own) with
        | none => .stuck
        | some sl2 => (evE F cx sl2 S).truth.bind fun k S2 => if k then (evE F elt sl2 S2).data.bind fun d S3 => addL acc d S3 else .ok acc S2) items [] S1).bind fun ds S2 => .ok (.fresh (.lst ds)) S2) σ H Q) :
    tLc (rdI K E (evI F it)) (rdG K tg) (rdT K E fun sl S => (evE F cx sl S).truth) (rdE K E (evE F elt)) own σ H Q := by
  obtain ⟨g0, g, sl, e, ok, so, h⟩ := h
  subst e
  refine ⟨g0, g, sl, rfl, ok, so, Post.bind h fun g1 items J ok1 st1 it1 h1 => ?_⟩
  intro D0 hD
  generalize hf : (fun (x : D) (acc : List D) (S : Sto) => match bindT tg x (wipeS (hideS sl) own) with
        | none => (Res.stuck : Res (List D))
        | some sl2 => (evE F cx sl2 S).truth.bind fun k S2 => if k then (evE F elt sl2 S2).data.bind fun d S3 => addL acc d S3 else .ok acc S2) = f at h1
  have hDg : g.H D0 = none := st1.dom D0 hD
  refine ⟨fun i m H => m = items.length - i ∧ i ≤ items.length ∧ LcW K E g0 g g1 σ sl items f D0 Q i H, ⟨items.length, by simp, Nat.zero_le _, ⟨?_⟩⟩, ?_⟩
  · obtain ⟨k, st⟩ := ok1.new hD (.lst [])
    exact ⟨g1.new D0 (.lst []), [], [], rfl, k, st1.trans st, st.gro, so.step (st1.trans st), upd_same, ok1.Rnone hD, ok1.saTr hD, .nil, Nat.zero_le _, h1⟩
  rintro i m H ⟨rfl, hi, ⟨g2, acc, vs, rfl, ok2, st2, gr2, so2, hD2, hR2, hs2, ra, za, h2⟩⟩
  obtain ⟨go, stp⟩ := it1 g2 gr2 ok2 i
  cases ei : items[i]? with
  | none =>
    refine .inl ⟨stp ei, ?_⟩
    have e2 : items.drop i = [] := by rw [List.drop_eq_nil_iff]; exact List.getElem?_eq_none_iff.mp ei
    rw [e2] at h2
    exact h2 g2 (.ref D0) rfl ok2 st2 ⟨D0, _, rfl, hD2, ⟨za, vs, rfl, ra⟩, hR2, hs2, hDg⟩
  | some d =>
    obtain ⟨g_go, yl⟩ := go d ei
    have hlt : i < items.length := (List.getElem?_eq_some_iff.mp ei).1
    have e2 : items.drop i = d :: items.drop (i + 1) := by
      rw [List.drop_eq_getElem_cons hlt]
      congr 1
      exact (List.getElem?_eq_some_iff.mp ei).2
    rw [e2] at h2
    unfold compL at h2
    rw [Res.bind_assoc] at h2
    refine .inr ⟨g_go, fun H' => LcW K E g0 g g1 σ sl items f D0 Q (i + 1) H', fun H' w => ⟨items.length - (i + 1), by omega, rfl, hlt, w⟩, fun x H' y => ?_⟩
    obtain ⟨g3, rfl, eS, ok3, st3, r3⟩ := yl x H' y
    rw [← eS] at h2
    have fx : f d acc g3.S = match bindT tg d (wipeS (hideS sl) own) with
        | none => .stuck
        | some sl2 => (evE F cx sl2 g3.S).truth.bind fun k S2 => if k then (evE F elt sl2 S2).data.bind fun d S3 => addL acc d S3 else .ok acc S2 := by rw [← hf]
    rw [fx] at h2
    cases eb : bindT tg d (wipeS (hideS sl) own) with
    | none => rw [eb] at h2; exact h2.elim
    | some sl2 =>
      rw [eb] at h2
      dsimp only at h2
      rw [Res.bind_assoc] at h2
      have st23 := st2.trans st3
      obtain ⟨hD3, hR3, hs3⟩ := st3.own hD2 hR2 hs2
      have so3 := (so2.step st3)
      refine ⟨g0, g3, wipeS (hideS sl) own, d, sl2, rfl, ok3, so3.hide.wipe own, r3, eb, fun σ2 sob ofs => ⟨?_, ?_⟩⟩
      · rw [ofs own hsub]; exact wipe_idem fun _ h => h
      refine ⟨g0, g3, sl2, rfl, ok3, sob, Post.bindAt st23 h2 fun g4 k b ok4 st4 r4 h4 => ?_⟩
      subst r4
      have st24 := st23.trans st4
      obtain ⟨hD4, hR4, hs4⟩ := st4.own hD3 hR3 hs3
      have gr4 := gr2.trans (st3.gro.trans st4.gro)
      cases b with
      | false =>
        rw [if_neg Bool.false_ne_true] at h4 ⊢
        rw [Res.bind_ok] at h4
        exact ⟨g4, acc, vs, rfl, ok4, st24, gr4, so3.step st4, hD4, hR4, hs4, (st3.gro.trans st4.gro).reps ra, za, h4⟩
      | true =>
        rw [if_pos rfl] at h4 ⊢
        rw [Res.bind_assoc] at h4
        refine ⟨g0, g4, sl2, rfl, ok4, sob.step st4, Post.dataE st24 (sob.step st4) h4 fun g5 dd v ed ok5 st5 so5 r5 h5 => ?_⟩
        unfold addL at h5
        split at h5
        case isFalse => exact h5.elim
        rename_i hz
        rw [Res.bind_ok] at h5
        obtain ⟨hD5, hR5, hs5⟩ := st5.own hD4 hR4 hs4
        have ra5 : g5.Reps K acc vs := (st3.gro.trans (st4.gro.trans st5.gro)).reps ra
        have hl := ra5.length
        refine ⟨vs, hD5, by omega, ⟨g5.setH D0 (.lst (vs ++ [v])), acc ++ [dd], vs ++ [v], rfl, ok5.setH hR5 hs5, (st24.trans st5).setH hDg hD5, (gr4.trans st5.gro).setH, ?_, upd_same, hR5, hs5, ?_, by rw [List.length_append]; exact hz, h5⟩⟩
        · exact so.step ((st24.trans st5).setH hDg hD5)
        · exact (Gro.setH (Gro.refl g5)).reps (ra5.append (.one r5))
end
end Px

set_option Elab.async false
set_option linter.all false
set_option maxRecDepth 100000
set_option maxHeartbeats 1000000
/-! Px, part L2: comprehensions of two clauses. -/
namespace Px
open PySem PySem.Spec PyProof.Rows L2
structure Lc2W (K : PySem.W.Frag) (E : XK) (g0 gs g1 : Gh) (σ : L2.St) (sl : Slots) (items : List D) (f : D → List D → Sto → Res (List D)) (k : List D → Sto → Res Rv) (D0 : Addr) (Q : V → Hp → Prop) (i : Nat) (H : Hp) : Prop where
  ex : ∃ g2 acc vs, g2.H = H ∧ Gok K g2 ∧ Stp gs g2 ∧ Gro g1 g2 ∧ SlOk K g0 g2 σ sl ∧ g2.H D0 = some (.lst vs) ∧ g2.R D0 = none ∧ D0 ∉ g2.sa ∧ g2.Reps K acc vs ∧ acc.length ≤ sizeLine ∧
    Post K E (RvR K) gs ((compL f (items.drop i) acc g2.S).bind k) Q
section
variable {X : Cx} {F : Cf} {fns gls : List String} {n : Nat} {E : XK}
theorem lc2_read {own vs1 : List Nat} {tg tg1 : Tg} {it it1 : Itx} {cx cx1 elt : Ex} (hsub : ∀ k ∈ tg.slots, k ∈ own) (hsub1 : ∀ k ∈ tg1.slots, k ∈ vs1) {σ : L2.St} {H : Hp} {Q : VK} {K : PySem.W.Frag}
    (h : rdE K E (fun sl S => (evI F it sl S).bind fun items S1 =>
      (compL (fun x acc S => match bindT tg x (wipeS (hideS sl) own) with
        | none => .stuck
        | some sl2 => (evE F cx sl2 S).truth.bind fun k S2 => if k then (evI F it1 sl2 S2).bind fun items1 S3 =>
            compL (fun x acc S => match bindT tg1 x (wipeS sl2 vs1) with
              | none => .stuck
              | some sl3 => (evE F cx1 sl3 S).truth.bind fun k S2 => if k then (evE F elt sl3 S2).data.bind fun d S3 => addL acc d S3 else .ok acc S2) items1 acc S3
          else .ok acc S2) items [] S1).bind fun ds S2 => .ok (.fresh (.lst ds)) S2) σ H Q) :
    tLc2 (rdI K E (evI F it)) (rdG K tg) (rdT K E fun sl S => (evE F cx sl S).truth) (rdI K E (evI F it1)) (rdG K tg1) (rdT K E fun sl S => (evE F cx1 sl S).truth) (rdE K E (evE F elt)) own vs1 σ H Q := by
  obtain ⟨g0, g, sl, e, ok, so, h⟩ := h
  subst e
  refine ⟨g0, g, sl, rfl, ok, so, Post.bind h fun g1 items J ok1 st1 it1' h1 => ?_⟩
  intro D0 hD
  generalize hf : (fun (x : D) (acc : List D) (S : Sto) => match bindT tg x (wipeS (hideS sl) own) with
        | none => (Res.stuck : Res (List D))
        | some sl2 => (evE F cx sl2 S).truth.bind fun k S2 => if k then (evI F it1 sl2 S2).bind fun items1 S3 =>
            compL (fun x acc S => match bindT tg1 x (wipeS sl2 vs1) with
              | none => .stuck
              | some sl3 => (evE F cx1 sl3 S).truth.bind fun k S2 => if k then (evE F elt sl3 S2).data.bind fun d S3 => addL acc d S3 else .ok acc S2) items1 acc S3
          else .ok acc S2) = f at h1
  have hDg : g.H D0 = none := st1.dom D0 hD
  refine ⟨fun i m H => m = items.length - i ∧ i ≤ items.length ∧ LcW K E g0 g g1 σ sl items f D0 Q i H, ⟨items.length, by simp, Nat.zero_le _, ⟨?_⟩⟩, ?_⟩
  · obtain ⟨k, st⟩ := ok1.new hD (.lst [])
    exact ⟨g1.new D0 (.lst []), [], [], rfl, k, st1.trans st, st.gro, so.step (st1.trans st), upd_same, ok1.Rnone hD, ok1.saTr hD, .nil, Nat.zero_le _, h1⟩
  rintro i m H ⟨rfl, hi, ⟨g2, acc, vs, rfl, ok2, st2, gr2, so2, hD2, hR2, hs2, ra, za, h2⟩⟩
  obtain ⟨go, stp⟩ := it1' g2 gr2 ok2 i
  cases ei : items[i]? with
  | none =>
    refine .inl ⟨stp ei, ?_⟩
    have e2 : items.drop i = [] := by rw [List.drop_eq_nil_iff]; exact List.getElem?_eq_none_iff.mp ei
    rw [e2] at h2
    exact h2 g2 (.ref D0) rfl ok2 st2 ⟨D0, _, rfl, hD2, ⟨za, vs, rfl, ra⟩, hR2, hs2, hDg⟩
  | some d =>
    obtain ⟨g_go, yl⟩ := go d ei
    have hlt : i < items.length := (List.getElem?_eq_some_iff.mp ei).1
    have e2 : items.drop i = d :: items.drop (i + 1) := by
      rw [List.drop_eq_getElem_cons hlt]
      congr 1
      exact (List.getElem?_eq_some_iff.mp ei).2
    rw [e2] at h2
    unfold compL at h2
    rw [Res.bind_assoc] at h2
    refine .inr ⟨g_go, fun H' => LcW K E g0 g g1 σ sl items f D0 Q (i + 1) H', fun H' w => ⟨items.length - (i + 1), by omega, rfl, hlt, w⟩, fun x H' y => ?_⟩
    obtain ⟨g3, rfl, eS, ok3, st3, r3⟩ := yl x H' y
    rw [← eS] at h2
    have fx : f d acc g3.S = match bindT tg d (wipeS (hideS sl) own) with
        | none => .stuck
        | some sl2 => (evE F cx sl2 g3.S).truth.bind fun k S2 => if k then (evI F it1 sl2 S2).bind fun items1 S3 =>
            compL (fun x acc S => match bindT tg1 x (wipeS sl2 vs1) with
              | none => .stuck
              | some sl3 => (evE F cx1 sl3 S).truth.bind fun k S2 => if k then (evE F elt sl3 S2).data.bind fun d S3 => addL acc d S3 else .ok acc S2) items1 acc S3
          else .ok acc S2 := by rw [← hf]
    rw [fx] at h2
    cases eb : bindT tg d (wipeS (hideS sl) own) with
    | none => rw [eb] at h2; exact h2.elim
    | some sl2 =>
      rw [eb] at h2
      dsimp only at h2
      rw [Res.bind_assoc] at h2
      have st23 := st2.trans st3
      obtain ⟨hD3, hR3, hs3⟩ := st3.own hD2 hR2 hs2
      have so3 := (so2.step st3)
      refine ⟨g0, g3, wipeS (hideS sl) own, d, sl2, rfl, ok3, so3.hide.wipe own, r3, eb, fun σ2 sob ofs => ⟨?_, ?_⟩⟩
      · rw [ofs own hsub]; exact wipe_idem fun _ h => h
      refine ⟨g0, g3, sl2, rfl, ok3, sob, Post.bindAt st23 h2 fun g4 k b ok4 st4 r4 h4 => ?_⟩
      subst r4
      have st24 := st23.trans st4
      obtain ⟨hD4, hR4, hs4⟩ := st4.own hD3 hR3 hs3
      have gr4 := gr2.trans (st3.gro.trans st4.gro)
      cases b with
      | false =>
        rw [if_neg Bool.false_ne_true] at h4 ⊢
        rw [Res.bind_ok] at h4
        exact ⟨g4, acc, vs, rfl, ok4, st24, gr4, so3.step st4, hD4, hR4, hs4, (st3.gro.trans st4.gro).reps ra, za, h4⟩
      | true =>
        rw [if_pos rfl] at h4 ⊢
        rw [Res.bind_assoc] at h4
        refine ⟨g0, g4, sl2, rfl, ok4, sob.step st4, Post.bindAt st24 h4 fun g5 items1 J1 ok5 st5 it5 h5 => ?_⟩
        -- the inner loop
        have st25 := st24.trans st5
        obtain ⟨hD5, hR5, hs5⟩ := st5.own hD4 hR4 hs4
        have so5 := (sob.step st4).step st5
        have no2 : NoOwn sl2 := ((hide_no sl).wipe own).bind eb
        generalize hf1 : (fun (x : D) (acc : List D) (S : Sto) => match bindT tg1 x (wipeS sl2 vs1) with
              | none => (Res.stuck : Res (List D))
              | some sl3 => (evE F cx1 sl3 S).truth.bind fun k S2 => if k then (evE F elt sl3 S2).data.bind fun d S3 => addL acc d S3 else .ok acc S2) = f1 at h5
        let k5 : List D → Sto → Res Rv := fun acc' S' => (compL f (items.drop (i + 1)) acc' S').bind fun ds S2 => .ok (.fresh (.lst ds)) S2
        refine ⟨fun j m H => m = items1.length - j ∧ j ≤ items1.length ∧ Gro g1 g5 ∧ Lc2W K E g0 g g5 σ2 sl2 items1 f1 k5 D0 Q j H ∧ True, ⟨items1.length, by simp, Nat.zero_le _, gr4.trans st5.gro, ⟨?_⟩, trivial⟩, ?_⟩
        · exact ⟨g5, acc, vs, rfl, ok5, st25, Gro.refl _, so5, hD5, hR5, hs5, (st3.gro.trans (st4.gro.trans st5.gro)).reps ra, za, h5⟩
        rintro j m H ⟨rfl, hj, gr15, ⟨g6, acc6, vs6, rfl, ok6, st6, gr6, so6, hD6, hR6, hs6, ra6, za6, h6⟩, _⟩
        obtain ⟨go6, stp6⟩ := it5 g6 gr6 ok6 j
        cases ej : items1[j]? with
        | none =>
          refine .inl ⟨stp6 ej, ?_⟩
          have e6 : items1.drop j = [] := by rw [List.drop_eq_nil_iff]; exact List.getElem?_eq_none_iff.mp ej
          rw [e6] at h6
          unfold compL at h6
          rw [Res.bind_ok] at h6
          exact ⟨g6, acc6, vs6, rfl, ok6, st6, gr15.trans gr6, so.step st6, hD6, hR6, hs6, ra6, za6, h6⟩
        | some d6 =>
          obtain ⟨g_go6, yl6⟩ := go6 d6 ej
          have hlt6 : j < items1.length := (List.getElem?_eq_some_iff.mp ej).1
          have e6 : items1.drop j = d6 :: items1.drop (j + 1) := by
            rw [List.drop_eq_getElem_cons hlt6]
            congr 1
            exact (List.getElem?_eq_some_iff.mp ej).2
          rw [e6] at h6
          unfold compL at h6
          rw [Res.bind_assoc] at h6
          refine .inr ⟨g_go6, fun H' => Lc2W K E g0 g g5 σ2 sl2 items1 f1 k5 D0 Q (j + 1) H', fun H' w => ⟨items1.length - (j + 1), by omega, rfl, hlt6, gr15, w, trivial⟩, fun x6 H6 y6 => ?_⟩
          obtain ⟨g7, rfl, eS7, ok7, st7, r7⟩ := yl6 x6 H6 y6
          rw [← eS7] at h6
          have fx6 : f1 d6 acc6 g7.S = match bindT tg1 d6 (wipeS sl2 vs1) with
              | none => .stuck
              | some sl3 => (evE F cx1 sl3 g7.S).truth.bind fun k S2 => if k then (evE F elt sl3 S2).data.bind fun d S3 => addL acc6 d S3 else .ok acc6 S2 := by rw [← hf1]
          rw [fx6] at h6
          cases eb6 : bindT tg1 d6 (wipeS sl2 vs1) with
          | none => rw [eb6] at h6; exact h6.elim
          | some sl3 =>
            rw [eb6] at h6
            dsimp only at h6
            rw [Res.bind_assoc] at h6
            have st67 := st6.trans st7
            obtain ⟨hD7, hR7, hs7⟩ := st7.own hD6 hR6 hs6
            have so7 := so6.step st7
            refine ⟨g0, g7, wipeS sl2 vs1, d6, sl3, rfl, ok7, so7.wipe vs1, r7, eb6, fun σ3 soc ofs1 => ⟨?_, ?_⟩⟩
            · rw [ofs1 vs1 hsub1]; exact wipe_idem fun _ h => h
            refine ⟨g0, g7, sl3, rfl, ok7, soc, Post.bindAt st67 h6 fun g8 k8 b8 ok8 st8 r8 h8 => ?_⟩
            subst r8
            have st68 := st67.trans st8
            obtain ⟨hD8, hR8, hs8⟩ := st8.own hD7 hR7 hs7
            have gr8 := gr6.trans (st7.gro.trans st8.gro)
            cases b8 with
            | false =>
              rw [if_neg Bool.false_ne_true] at h8 ⊢
              rw [Res.bind_ok] at h8
              exact ⟨g8, acc6, vs6, rfl, ok8, st68, gr8, so7.step st8, hD8, hR8, hs8, (st7.gro.trans st8.gro).reps ra6, za6, h8⟩
            | true =>
              rw [if_pos rfl] at h8 ⊢
              rw [Res.bind_assoc] at h8
              refine ⟨g0, g8, sl3, rfl, ok8, soc.step st8, Post.dataE st68 (soc.step st8) h8 fun g9 dd v ed ok9 st9 so9 r9 h9 => ?_⟩
              unfold addL at h9
              split at h9
              case isFalse => exact h9.elim
              rename_i hz
              rw [Res.bind_ok] at h9
              obtain ⟨hD9, hR9, hs9⟩ := st9.own hD8 hR8 hs8
              have ra9 : g9.Reps K acc6 vs6 := (st7.gro.trans (st8.gro.trans st9.gro)).reps ra6
              have hl := ra9.length
              have st69 := st68.trans st9
              refine ⟨vs6, hD9, by omega, ⟨g9.setH D0 (.lst (vs6 ++ [v])), acc6 ++ [dd], vs6 ++ [v], rfl, ok9.setH hR9 hs9, st69.setH hDg hD9, (gr8.trans st9.gro).setH, ?_, upd_same, hR9, hs9, ?_, by rw [List.length_append]; exact hz, h9⟩⟩
              · exact so6.noOwn no2 ((st7.gro.trans (st8.gro.trans st9.gro)).setH)
              · exact (Gro.setH (Gro.refl g9)).reps (ra9.append (.one r9))
end
end Px

set_option Elab.async false
set_option linter.all false
set_option maxRecDepth 100000
set_option maxHeartbeats 1000000
/-! Px, part M: every expression that the look lets by. -/
namespace Px
open PySem PySem.Spec PyProof.Rows L2
theorem chkE_star {T : Tx} {e : Ex} {x : Expr} (h : chkE T e x = true) : notStar x = true := by
  cases x <;> first | rfl | (cases e <;> exact Bool.noConfusion (show false = true from h))
theorem chkE_slice {T : Tx} {e : Ex} {l u st : Option Expr} {p : Pos} (h : chkE T e (.Slice l u st p) = true) : False := by
  cases e <;> exact Bool.noConfusion (show false = true from h)
theorem chkE_set {T : Tx} {e : Ex} {l : List Expr} {k : Nat} {p : Pos} (h : chkE T e (.Set l k p) = true) : False := by
  cases e <;> exact Bool.noConfusion (show false = true from h)
theorem chkE_marks {T : Tx} {e : Ex} {x : Expr} {op : CmpOp} (h : chkE T e x = true) : behindInMarks op x = false := by
  cases x <;> first | rfl | exact (chkE_set h).elim
theorem chkI_set {T : Tx} {tg : Expr} {it : Itx} {x : Expr} {env : Env} (h : chkI T tg it x = true) : ∀ v, foldedSetIterable x env v = pure v := by
  intro v
  cases x <;> first | rfl | skip
  cases it <;> first | exact (chkE_set (show chkE T _ (Expr.Set _ _ _) = true from h)).elim | exact Bool.noConfusion (show false = true from h)
theorem chkA_star {T : Tx} : ∀ {es : Exs} {xs : List Expr}, chkA T es xs = true → ∀ y ∈ xs, notStar y = true
  | .nil, [], _, y, hy => by cases hy
  | .cons e es, x :: xs, h, y, hy => by
    have h' : chkE T e x = true ∧ chkA T es xs = true := by simpa [chkA] using h
    rcases List.mem_cons.mp hy with rfl | hy
    · exact chkE_star h'.1
    · exact chkA_star h'.2 y hy
  | .nil, _ :: _, h, _, _ => by simp [chkA] at h
  | .cons _ _, [], h, _, _ => by simp [chkA] at h
theorem subB_of {xs ys : List Nat} (h : subB xs ys = true) : ∀ i ∈ xs, i ∈ ys := by
  unfold subB at h
  rw [List.all_eq_true] at h
  exact fun i hi => by simpa using h i hi
section
variable {X : Cx} {F : Cf} {fns gls : List String} {n : Nat} {E : XK} {a b c e : Expr} {fa fb fc : Slots → Sto → Res Rv} {pos : Pos}
theorem Ctx.blk (c : Ctx X F fns gls n) (s : Shared) (H : Hp) (scope : Scope) (cenv : Env) (fp : List Addr) : Ctx (X.blk s H scope cenv fp) F fns gls n :=
  ⟨c.calm, c.nd, c.room, c.grd, c.bl, c.fn, c.gl⟩
theorem s_cmp {op : CmpOp} {o : Cop} (hu : X.A.units + 65 < cLine) (hm : behindInMarks op b = false) (ho : o.op = op) (ha : PE X a (rdE X.K E fa)) (hb : PE X b (rdE X.K E fb)) :
    PE X (.Compare a [op] [b] pos) (rdE X.K E fun sl S => (fa sl S).bind fun x S1 => (fb sl S1).bind fun y S2 => Res.opt (semC o x y) S2) := by
  subst ho
  exact s_op2 (fun h1 h2 => pe_cmpR (op_cmpS hu o) h1 h2 hm) ha hb
theorem chain_read {o o' : Cop} {σ : L2.St} {H : Hp} {Q : VK} {K : PySem.W.Frag}
    (h : rdE K E (fun sl S => (fa sl S).bind fun x S1 => (fb sl S1).bind fun y S2 => (Res.opt (opCmp o x y) S2).bind fun k S3 =>
      if k then (fc sl S3).bind fun z S4 => Res.opt (semC o' y z) S4 else .ok (.val (.bl false)) S3) σ H Q) : tChain (rOp2 K E (semC o)) (rOp2 K E (semC o')) (rdE K E fa) (rdE K E fb) (rdE K E fc) σ H Q := by
  obtain ⟨g0, g, sl, e, ok, so, h⟩ := h
  subst e
  refine ⟨g0, g, sl, rfl, ok, so, Post.bind h fun g1 x v ok1 st1 r1 h1 => ?_⟩
  refine ⟨g0, g1, sl, rfl, ok1, so.step st1, Post.bindAt st1 h1 fun g2 y u ok2 st2 r2 h2 => ?_⟩
  obtain ⟨k, ek, h3⟩ := Post.optBind h2
  refine ⟨g, g2, x, y, rfl, ok2, r1.after st2, r2.ahead st1, ?_⟩
  unfold semC
  rw [ek]
  intro g3 v3 hS ok3 st3 r3
  have r3' : g3.Rep K (.bl k) v3 := r3
  cases r3'
  refine ⟨k, rfl, ?_⟩
  have st12 := st1.trans st2
  have st13 := st12.trans st3
  cases k with
  | false =>
    rw [if_neg Bool.false_ne_true] at h3 ⊢
    exact h3 g3 _ hS ok3 st13 (.bl _)
  | true =>
    rw [if_pos rfl] at h3 ⊢
    rw [← hS] at h3
    refine ⟨g0, g3, sl, rfl, ok3, so.step st13, Post.bindAt st13 h3 fun g4 z w ok4 st4 r4 h4 => ?_⟩
    exact ⟨g, g4, y, z, rfl, ok4, (r2.ahead st1).after (st3.trans st4), r4.ahead st13, h4.shiftE (st13.trans st4)⟩
theorem rd_boolE {f : Slots → Sto → Res Rv} {K : PySem.W.Frag} (hb : ∀ sl S r S', f sl S = .ok r S' → ∃ k, r = .val (.bl k)) {σ : L2.St} {H : Hp} {Q : Bool → Hp → Prop} (h : rdT K E (fun sl S => (f sl S).truth) σ H Q) : rdE K E f σ H (fun x H' => ∃ k, x = .bl k ∧ Q k H') := by
  obtain ⟨g0, g, sl, e, ok, so, h⟩ := h
  subst e
  refine ⟨g0, g, sl, rfl, ok, so, ?_⟩
  dsimp only at h
  cases e1 : f sl g.S with
  | stuck => rw [e1] at h; exact h.elim
  | exc x S => rw [e1] at h; exact h
  | ok r S =>
    obtain ⟨k, ek⟩ := hb _ _ _ _ e1
    subst ek
    rw [e1] at h
    intro g1 v hS ok1 st1 r1
    have r1' : g1.Rep K (.bl k) v := r1
    cases r1'
    exact ⟨k, rfl, h g1 k hS ok1 st1 rfl⟩
theorem semC_bl {o : Cop} {x y r : Rv} (h : semC o x y = some r) : ∃ k, r = .val (.bl k) := by
  unfold semC at h
  obtain ⟨k, _, e⟩ := Option.map_eq_some_iff.mp h
  exact ⟨k, e.symm⟩
theorem bind_ok {α β : Type} {r : Res α} {k : α → Sto → Res β} {b : β} {S : Sto} (h : r.bind k = .ok b S) : ∃ a S', r = .ok a S' ∧ k a S' = .ok b S := by
  cases r with
  | ok a S' => exact ⟨a, S', rfl, h⟩
  | exc _ _ => cases h
  | stuck => cases h
theorem opt_ok {α : Type} {o : Option α} {S S' : Sto} {a : α} (h : Res.opt o S = .ok a S') : o = some a ∧ S = S' := by
  cases o with
  | none => cases h
  | some b => cases h; exact ⟨rfl, rfl⟩
theorem s_cmp2 {op op' : CmpOp} {o o' : Cop} (hu : X.A.units + 65 < cLine) (hmm : behindInMarks op' c = false) (ho : o.op = op) (ho' : o'.op = op') (ha : PE X a (rdE X.K E fa)) (hb : PE X b (rdE X.K E fb)) (hc : PE X c (rdE X.K E fc)) :
    PE X (.Compare a [op, op'] [b, c] pos) (rdE X.K E fun sl S => (fa sl S).bind fun x S1 => (fb sl S1).bind fun y S2 => (Res.opt (opCmp o x y) S2).bind fun k S3 => if k then (fc sl S3).bind fun z S4 => Res.opt (semC o' y z) S4 else .ok (.val (.bl false)) S3) ∧
    PT X (.Compare a [op, op'] [b, c] pos) (rdT X.K E fun sl S => Res.truth ((fa sl S).bind fun x S1 => (fb sl S1).bind fun y S2 => (Res.opt (opCmp o x y) S2).bind fun k S3 => if k then (fc sl S3).bind fun z S4 => Res.opt (semC o' y z) S4 else .ok (.val (.bl false)) S3)) := by
  subst ho ho'
  have hm : lastMarks [o.op, o'.op] [b, c] = false := by
    show behindInMarks o'.op c = false
    exact hmm
  refine ⟨PE.imp (pe_chain (op_cmpS hu o) (op_cmpS hu o') ha hb hc hm) fun σ H Q h => chain_read h, PT.imp (pt_chain (op_cmpS hu o) (op_cmpS hu o') ha hb hc hm) fun σ H Q h => chain_read (rd_boolE (fun sl S r S' h => ?_) h)⟩
  obtain ⟨x, S1, _, h⟩ := bind_ok h
  obtain ⟨y, S2, _, h⟩ := bind_ok h
  obtain ⟨k, S3, _, h⟩ := bind_ok h
  split at h
  · obtain ⟨z, S4, _, h⟩ := bind_ok h
    exact semC_bl (opt_ok h).1
  · cases h; exact ⟨false, rfl⟩
theorem s_ifeT (hc : PT X c (rdT X.K E fun sl S => (fc sl S).truth)) (ha : PT X a (rdT X.K E fun sl S => (fa sl S).truth)) (hb : PT X b (rdT X.K E fun sl S => (fb sl S).truth)) :
    PT X (.IfExp c a b pos) (rdT X.K E fun sl S => Res.truth ((fc sl S).truth.bind fun k S1 => if k then fa sl S1 else fb sl S1)) := by
  refine ⟨fun pins s σ H Q I ⟨g0, g, sl, e, ok, so, h⟩ => ?_⟩
  subst e
  show wpAny _ X.A (do if ← isTrue c X.env (eval c X.env) then isTrue a X.env (eval a X.env) else isTrue b X.env (eval b X.env)) _ _ s
  have h' : Post X.K E (fun _ _ a (b : Bool) => b = a) g ((fc sl g.S).truth.bind fun k S1 => Res.truth (if k then fa sl S1 else fb sl S1)) Q := by
    dsimp only at h
    unfold Res.truth at h ⊢
    rw [Res.bind_assoc] at h
    exact h
  refine wpAny_bind (thn (hc.run pins s σ g.H (fun k H1 => if k = true then rdT X.K E (fun sl S => (fa sl S).truth) σ H1 Q else rdT X.K E (fun sl S => (fb sl S).truth) σ H1 Q) I ⟨g0, g, sl, rfl, ok, so, Post.bind h' fun g1 k v ok1 st1 r1 h1 => ?_⟩) fun k s1 ⟨H1, I1, q1⟩ => ?_)
  · subst r1
    cases v with
    | true => exact ⟨g0, g1, sl, rfl, ok1, so.step st1, Post.shiftT h1 st1⟩
    | false => exact ⟨g0, g1, sl, rfl, ok1, so.step st1, Post.shiftT h1 st1⟩
  · cases k with
    | true => exact ha.run pins s1 σ H1 Q I1 q1
    | false => exact hb.run pins s1 σ H1 Q I1 q1
end
end Px

set_option Elab.async false
set_option linter.all false
set_option maxRecDepth 100000
set_option maxHeartbeats 1000000
/-! Px, part M2: shared things: read, made, changed. -/
namespace Px
open PySem PySem.Spec PyProof.Rows L2
section
variable {X : Cx} {F : Cf} {fns gls : List String} {n : Nat} {E : XK} {a b c e : Expr} {fa fb fc : Slots → Sto → Res Rv} {pos : Pos}
theorem sto_get {K : PySem.W.Frag} {g : Gh} {j : Nat} {v : V} {c : Cn} (ok : Gok K g) (r : g.Rep K (.ref j) v) (h : g.S[j]? = some c) : ∃ a o, v = .ref a ∧ g.sa[j]? = some a ∧ g.H a = some o ∧ g.CRep K c o ∧ g.R a = none := by
  cases r with | ref ra =>
  obtain ⟨o, h1, h2, h3⟩ := ok.sto j _ c ra h
  exact ⟨_, o, rfl, ra, h1, h2, h3⟩
theorem Rep.lookS {K : PySem.W.Frag} {g : Gh} (ok : Gok K g) {d : D} {v : V} (h : LookR K g d v) : LookR K g (d.lookS g.S) v := by
  cases d with
  | ref i =>
    unfold D.lookS
    dsimp only
    cases e : g.S[i]? with
    | none => exact h
    | some c =>
      cases c with | lst xs =>
      obtain ⟨a, o, rfl, h1, h2, h3, h4⟩ := sto_get ok (show g.Rep K (.ref i) v from h) e
      obtain ⟨l, vs, rfl, r⟩ := h3
      exact ⟨a, vs, rfl, h2, l, r⟩
  | _ => exact h
theorem RvR.lookRS {K : PySem.W.Frag} {g g' : Gh} (ok : Gok K g') {r : Rv} {v : V} (h : RvR K g g' r v) : LookR K g' (r.lookS g'.S) v := Rep.lookS ok (h.lookR ok)
theorem s_opL {ex : Expr} {sem : D → D → Option Rv} (mk : ∀ {ta tb : TE}, PE X a ta → PE X b tb → PE X ex (tOp (rLk X.K E sem) ta tb)) (ha : PE X a (rdE X.K E fa)) (hb : PE X b (rdE X.K E fb)) :
    PE X ex (rdE X.K E fun sl S => (fa sl S).bind fun x S1 => (fb sl S1).bind fun y S2 => Res.opt (sem (x.lookS S2) (y.lookS S2)) S2) :=
  PE.imp (mk ha hb) fun σ H Q ⟨g0, g, sl, e, ok, so, h⟩ => by
    subst e
    refine ⟨g0, g, sl, rfl, ok, so, Post.bind h fun g1 x v ok1 st1 r1 h1 => ?_⟩
    refine ⟨g0, g1, sl, rfl, ok1, so.step st1, Post.bind (h1.shiftE st1) fun g2 y u ok2 st2 r2 h2 => ?_⟩
    exact ⟨g2, _, _, rfl, ok2, (r1.after st2).lookRS ok2, r2.lookRS ok2, h2.shiftE st2⟩
theorem s_ixr {x y : Ex} (hb : ∀ l u p, b ≠ .Slice l u none p) (ha : PE X a (rdE X.K E (evE F x))) (hi : PE X b (rdE X.K E (evE F y))) : PE X (.Subscript a b pos) (rdE X.K E (evE F (.ixr x y))) :=
  PE.imp (s_opL (sem := opIxD) (fun h1 h2 => pe_ix ix_L h1 h2 (plain_ix hb)) ha hi) fun σ H Q h => by
    obtain ⟨g0, g, sl, e, ok, so, h⟩ := h
    unfold evE at h
    exact ⟨g0, g, sl, e, ok, so, h⟩
theorem s_cmpr {op : CmpOp} {o : Cop} (hu : X.A.units + 65 < cLine) (hm : behindInMarks op b = false) (ho : o.op = op) (ha : PE X a (rdE X.K E fa)) (hb : PE X b (rdE X.K E fb)) :
    PE X (.Compare a [op] [b] pos) (rdE X.K E fun sl S => (fa sl S).bind fun x S1 => (fb sl S1).bind fun y S2 => Res.opt (semD o (x.lookS S2) (y.lookS S2)) S2) := by
  subst ho
  exact s_opL (fun h1 h2 => pe_cmpR (op_cmpL hu o) h1 h2 hm) ha hb
theorem s_cmprT {op : CmpOp} {o : Cop} (hu : X.A.units + 65 < cLine) (hm : behindInMarks op b = false) (ho : o.op = op) (ha : PE X a (rdE X.K E fa)) (hb : PE X b (rdE X.K E fb)) :
    PT X (.Compare a [op] [b] pos) (rdT X.K E fun sl S => Res.truth ((fa sl S).bind fun x S1 => (fb sl S1).bind fun y S2 => Res.opt (semD o (x.lookS S2) (y.lookS S2)) S2)) := by
  subst ho
  refine PT.imp (pt_cmpR (op_cmpL (E := E) hu o) ha hb hm) fun σ H Q ⟨g0, g, sl, e, ok, so, h⟩ => ?_
  subst e
  dsimp only at h
  refine ⟨g0, g, sl, rfl, ok, so, Post.bind (RS := fun _ _ a (b : Bool) => b = a) (γ := Bool) (k := fun x S1 => Res.truth ((fb sl S1).bind fun y S2 => Res.opt (semD o (x.lookS S2) (y.lookS S2)) S2)) (by
    cases e1 : fa sl g.S <;> rw [e1] at h <;> exact h) fun g1 x v ok1 st1 r1 h1 => ?_⟩
  refine ⟨g0, g1, sl, rfl, ok1, so.step st1, Post.bind (RS := fun _ _ a (b : Bool) => b = a) (γ := Bool) (k := fun y S2 => Res.truth (Res.opt (semD o (x.lookS S2) (y.lookS S2)) S2)) (by
    have h1 := Post.shiftT h1 st1
    cases e1 : fb sl g1.S <;> rw [e1] at h1 <;> exact h1) fun g2 y u ok2 st2 r2 h2 => ?_⟩
  refine ⟨g2, _, _, rfl, ok2, (r1.after st2).lookRS ok2, r2.lookRS ok2, ?_⟩
  cases e1 : semD o (x.lookS g2.S) (y.lookS g2.S) with
  | none => rw [e1] at h2; exact h2.elim
  | some r =>
    rw [e1] at h2
    unfold semD at e1
    obtain ⟨k, e2, e3⟩ := Option.map_eq_some_iff.mp e1
    subst e3
    intro g3 v3 hS ok3 st3 r3
    have r3' : g3.Rep X.K (.bl k) v3 := r3
    cases r3'
    exact ⟨k, rfl, (Post.shiftT h2 st2) g3 k hS ok3 st3 rfl⟩
/-- a new thing becomes a shared one -/
theorem RvR.share {K : PySem.W.Frag} {g g' : Gh} {c : Cn} {v : V} (ok : Gok K g') (st : Stp g g') (h : RvR K g g' (.fresh c) v) :
    ∃ g1 : Gh, g1.H = g'.H ∧ g1.S = g'.S ++ [c] ∧ Gok K g1 ∧ Stp g g1 ∧ g1.Rep K (.ref g'.S.length) v := by
  obtain ⟨a, o, rfl, h1, h2, h3, h4, h5⟩ := h
  have gr : Gro g' ⟨g'.H, g'.R, g'.sa ++ [a], g'.S ++ [c]⟩ := ⟨fun _ _ q => q, ⟨[a], rfl⟩⟩
  refine ⟨⟨g'.H, g'.R, g'.sa ++ [a], g'.S ++ [c]⟩, rfl, rfl, ⟨ok.sub, ?_, ?_, fun j b c' q1 q2 => ?_⟩, ⟨st.hp, st.dom, st.rr, st.rn, ?_, fun b m n => ?_⟩, .ref ?_⟩
  · show (g'.sa ++ [a]).length = (g'.S ++ [c]).length
    rw [List.length_append, List.length_append, ok.len]; rfl
  · show (g'.sa ++ [a]).Nodup
    rw [List.nodup_append]
    exact ⟨ok.nd, by simp, fun b hb d hd => by simp at hd; subst hd; exact fun z => h4 (z ▸ hb)⟩
  · have q1' : (g'.sa ++ [a])[j]? = some b := q1
    have q2' : (g'.S ++ [c])[j]? = some c' := q2
    by_cases hj : j < g'.sa.length
    · rw [List.getElem?_append_left hj] at q1'
      rw [List.getElem?_append_left (by rw [← ok.len]; exact hj)] at q2'
      obtain ⟨u, f1, f2, f3⟩ := ok.sto j b c' q1' q2'
      exact ⟨u, f1, gr.crep f2, f3⟩
    · have hjl : j < (g'.sa ++ [a]).length := (List.getElem?_eq_some_iff.mp q1').1
      have ej : j = g'.sa.length := by rw [List.length_append] at hjl; simp at hjl; omega
      subst ej
      rw [List.getElem?_append_right (Nat.le_refl _)] at q1'
      rw [List.getElem?_append_right (by rw [ok.len]; exact Nat.le_refl _)] at q2'
      rw [ok.len] at q2'
      simp at q1' q2'
      subst q1' q2'
      exact ⟨o, h1, gr.crep h2, h3⟩
  · obtain ⟨t, q⟩ := st.sp
    exact ⟨t ++ [a], by show g'.sa ++ [a] = _; rw [q, List.append_assoc]⟩
  · have m' : b ∈ g'.sa ++ [a] := m
    rcases List.mem_append.mp m' with m' | m'
    · exact st.sn b m' n
    · have : b = a := by simpa using m'
      rw [this]; exact h5
  · show (g'.sa ++ [a])[g'.S.length]? = some a
    rw [← ok.len, List.getElem?_append_right (Nat.le_refl _)]
    simp
theorem s_shr {x : Ex} (ha : PE X a (rdE X.K E (evE F x))) : PE X a (rdE X.K E (evE F (.shr x))) :=
  PE.imp ha fun σ H Q ⟨g0, g, sl, e, ok, so, h⟩ => by
    subst e
    unfold evE at h
    refine ⟨g0, g, sl, rfl, ok, so, Post.bind h fun g1 r v ok1 st1 r1 h1 => ?_⟩
    split at h1
    · obtain ⟨g2, e1, e2, ok2, st2, r2⟩ := r1.share ok1 st1
      rw [← e1]
      exact h1 g2 v e2 ok2 st2 r2
    · exact h1.elim
/-- a shared list gets another content -/
theorem sto_set {K : PySem.W.Frag} {g : Gh} {j : Nat} {a : Addr} {xs ys : List D} {vs us : List V} (ok : Gok K g) (ra : g.sa[j]? = some a) (e' : g.S[j]? = some (.lst xs)) (h1 : g.H a = some (.lst vs)) (h3 : g.R a = none) (ru : g.Reps K ys us) (lu : ys.length ≤ sizeLine) :
    ∃ g1 : Gh, g1.H = upd g.H a (.lst us) ∧ g1.S = g.S.set j (.lst ys) ∧ Gok K g1 ∧ Stp g g1 ∧ g1.R = g.R ∧ g1.sa = g.sa := by
  have gr : Gro g ⟨upd g.H a (.lst us), g.R, g.sa, g.S.set j (.lst ys)⟩ := ⟨fun _ _ q => q, ⟨[], by simp⟩⟩
  have ha : a ∈ g.sa := List.mem_of_getElem? ra
  refine ⟨⟨upd g.H a (.lst us), g.R, g.sa, g.S.set j (.lst ys)⟩, rfl, rfl, ⟨fun b u q => ?_, ?_, ok.nd, fun k b c' p1 p2 => ?_⟩, ⟨fun b u q n => ?_, fun b q => ?_, fun _ _ q => q, fun _ q _ => q, ⟨[], by simp⟩, fun b m n => absurd m n⟩, rfl, rfl⟩
  · show upd g.H a (.lst us) b = some u
    rw [upd_ne (fun z : b = a => by rw [z] at q; exact absurd (h3.symm.trans q) (by simp))]
    exact ok.sub b u q
  · show g.sa.length = (g.S.set j (.lst ys)).length
    rw [List.length_set]; exact ok.len
  · have p2' : (g.S.set j (.lst ys))[k]? = some c' := p2
    have p1' : g.sa[k]? = some b := p1
    by_cases hk : j = k
    · subst hk
      rw [ra] at p1'
      cases p1'
      rw [List.getElem?_set_self (List.getElem?_eq_some_iff.mp e').1] at p2'
      cases p2'
      exact ⟨.lst us, upd_same, ⟨lu, us, rfl, gr.reps ru⟩, h3⟩
    · rw [List.getElem?_set_ne hk] at p2'
      obtain ⟨u, f1, f2, f3⟩ := ok.sto k b c' p1' p2'
      have hb : b ≠ a := fun z => by
        subst z
        obtain ⟨l1, m1⟩ := List.getElem?_eq_some_iff.mp ra
        obtain ⟨l2, m2⟩ := List.getElem?_eq_some_iff.mp p1'
        exact hk ((List.getElem_inj ok.nd).mp (m1.trans m2.symm))
      refine ⟨u, ?_, gr.crep f2, f3⟩
      show upd g.H a (.lst us) b = some u
      rw [upd_ne hb]; exact f1
  · show upd g.H a (.lst us) b = some u
    rw [upd_ne (fun z : b = a => n (z ▸ ha))]; exact q
  · have q' : upd g.H a (.lst us) b = none := q
    by_cases hb : b = a
    · subst hb; rw [upd_same] at q'; cases q'
    · rw [upd_ne hb] at q'; exact q'
/-- the shared list of a value -/
theorem refAt_ok {K : PySem.W.Frag} {g0 g : Gh} {r : Rv} {v : V} {j : Nat} {xs : List D} (ok : Gok K g) (h : RvR K g0 g r v) (e : refAt r g.S = some (j, xs)) :
    ∃ a vs, v = .ref a ∧ g.sa[j]? = some a ∧ g.S[j]? = some (.lst xs) ∧ g.H a = some (.lst vs) ∧ g.R a = none ∧ xs.length ≤ sizeLine ∧ g.Reps K xs vs := by
  unfold refAt at e
  split at e
  · split at e
    · rename_i k ys e1
      cases e
      obtain ⟨a, o, rfl, h1, h2, h3, h4⟩ := sto_get ok (show g.Rep K (.ref _) v from h) e1
      obtain ⟨l, vs, rfl, q⟩ := h3
      exact ⟨a, vs, rfl, h1, e1, h2, h4, l, q⟩
    · cases e
  · cases e
theorem reps_erase {K : PySem.W.Frag} {g : Gh} : ∀ {xs : List D} {vs : List V} (n : Nat), g.Reps K xs vs → g.Reps K (xs.eraseIdx n) (vs.eraseIdx n)
  | [], _, n, h => by cases h; exact .nil
  | d :: ds, _, 0, h => by cases h with | cons r t => exact t
  | d :: ds, _, n + 1, h => by cases h with | cons r t => exact .cons r (reps_erase n t)
theorem reps_dropLast {K : PySem.W.Frag} {g : Gh} {xs : List D} {vs : List V} (h : g.Reps K xs vs) : g.Reps K xs.dropLast vs.dropLast := by
  rw [List.dropLast_eq_take, List.dropLast_eq_take, ← h.length]
  exact h.take _
theorem isRef_of {r : Rv} (h : r.isRef = true) : ∃ j, r = .val (.ref j) := by
  cases r with
  | val d => cases d <;> first | exact ⟨_, rfl⟩ | cases h
  | _ => cases h
/-- a shared thing is a list now -/
theorem ref_list {K : PySem.W.Frag} {g0 g : Gh} {r : Rv} {v : V} (ok : Gok K g) (h : RvR K g0 g r v) (e : r.isRef = true) : ∃ a vs, v = .ref a ∧ g.H a = some (.lst vs) := by
  obtain ⟨j, rfl⟩ := isRef_of e
  have h' : g.Rep K (.ref j) v := h
  cases h' with | ref ra =>
  have hj : j < g.S.length := by
    rw [← ok.len]
    exact (List.getElem?_eq_some_iff.mp ra).1
  obtain ⟨o, h1, h2, _⟩ := ok.sto j _ _ ra (List.getElem?_eq_getElem hj)
  generalize g.S[j] = c at h2
  cases c with | lst xs =>
  obtain ⟨_, vs, rfl, _⟩ := h2
  exact ⟨_, vs, rfl, h1⟩
theorem base_of {o : Expr} {m : Str} {env : Env} {w : Sem Value} (h : notCall o = true) : attributeBase o m env w = w := by
  cases o <;> first | rfl | exact Bool.noConfusion (show false = true from h)
theorem s_pop0 {m : Str} {ap cp : Pos} {x : Ex} (hm : m = sO "pop") (hl : (ap.endLine == cp.line) = true) (hc : notCall a = true) (ha : PE X a (rdE X.K E (evE F x))) : PE X (.Call (.Attribute a m ap) [] [] cp) (rdE X.K E (evE F (.popr x .no))) := by
  subst hm
  refine PE.imp (pe_bm0 PySem.F.plainAttrs_list PySem.F.slot_list_pop PySem.F.type_list_pop mt_pop ha (base_of hc) hl) fun σ H Q ⟨g0, g, sl, e, ok, so, h⟩ => ?_
  subst e
  unfold evE at h
  refine ⟨g0, g, sl, rfl, ok, so, Post.bind h fun g1 r v ok1 st1 r1 h1 => ?_⟩
  split at h1
  case isFalse => exact h1.elim
  rename_i hr
  obtain ⟨a0, vs0, ev, hv⟩ := ref_list ok1 r1 hr
  refine ⟨by rw [ev]; exact .inl ⟨rfl, vs0, SqL.of hv⟩, ?_⟩
  unfold evP at h1
  rw [Res.bind_ok] at h1
  split at h1
  case h_2 => exact h1.elim
  rename_i j xs er
  obtain ⟨a1, vs, e2, q1, q2, q3, q4, q5, q6⟩ := refAt_ok ok1 r1 er
  cases hp : popD xs none with
  | none => rw [hp] at h1; exact h1.elim
  | some p =>
    obtain ⟨d, ys⟩ := p
    rw [hp] at h1
    obtain ⟨d', hd, he⟩ := Option.map_eq_some_iff.mp (show xs.getLast?.map (fun x => (x, xs.dropLast)) = some (d, ys) from hp)
    cases he
    rw [List.getLast?_eq_getElem?] at hd
    obtain ⟨y, hy, ry⟩ := q6.get hd
    rw [q6.length] at hy
    obtain ⟨g2, p1, p2, p3, p4, p5, p6⟩ := sto_set ok1 q1 q2 q3 q4 (reps_dropLast q6) (by rw [List.length_dropLast]; omega)
    refine ⟨a1, vs, y, e2, rfl, q3, hy, ?_⟩
    rw [← p1]
    refine h1 g2 y p2 p3 (st1.trans p4) ?_
    exact p4.gro.rep ry
theorem s_pop1 {m : Str} {ap cp : Pos} {x y : Ex} (hm : m = sO "pop") (hl : (ap.endLine == cp.line) = true) (hc : notCall a = true) (hst : notStar b = true) (ha : PE X a (rdE X.K E (evE F x))) (hb : PE X b (rdE X.K E (evE F y))) :
    PE X (.Call (.Attribute a m ap) [b] [] cp) (rdE X.K E (evE F (.popr x (.yes y)))) := by
  subst hm
  have hs := star_cons (env := X.env) (es := []) hst
  refine PE.imp (pe_bm PySem.F.plainAttrs_list PySem.F.slot_list_pop PySem.F.type_list_pop mt_popAt ha (pa_cons hb pa_nil hs) (base_of hc) (by rw [hs]; rfl) hl hs (by rfl)) fun σ H Q ⟨g0, g, sl, e, ok, so, h⟩ => ?_
  subst e
  unfold evE at h
  refine ⟨g0, g, sl, rfl, ok, so, Post.bind h fun g1 r v ok1 st1 r1 h1 => ?_⟩
  split at h1
  case isFalse => exact h1.elim
  rename_i hr
  obtain ⟨a0, vs0, ev, hv⟩ := ref_list ok1 r1 hr
  refine ⟨by rw [ev]; exact .inl ⟨rfl, vs0, SqL.of hv⟩, g0, g1, sl, rfl, ok1, so.step st1, ?_⟩
  unfold evP at h1
  rw [Res.bind_assoc] at h1
  refine Post.int st1 h1 fun g2 k ok2 st2 h2 => ?_
  rw [Res.bind_ok] at h2
  have r2 := r1.after st2
  split at h2
  case h_2 => exact h2.elim
  rename_i j xs er
  obtain ⟨a1, vs, e2, q1, q2, q3, q4, q5, q6⟩ := refAt_ok ok2 r2 er
  cases hp : popD xs (some k) with
  | none => rw [hp] at h2; exact h2.elim
  | some p =>
    obtain ⟨d, ys⟩ := p
    rw [hp] at h2
    unfold popD at hp
    dsimp only at hp
    split at hp
    case isFalse => cases hp
    rename_i hk
    cases hi : ixN xs.length k with
    | none => rw [hi] at hp; cases hp
    | some i =>
      rw [hi] at hp
      obtain ⟨d', hd, he⟩ := Option.map_eq_some_iff.mp (show xs[i]?.map (fun x => (x, xs.eraseIdx i)) = some (d, ys) from hp)
      cases he
      obtain ⟨z, hz, rz⟩ := q6.get hd
      obtain ⟨g3, p1, p2, p3, p4, p5, p6⟩ := sto_set ok2 q1 q2 q3 q4 (reps_erase i q6) (by have := List.length_eraseIdx_le xs i; omega)
      refine ⟨a1, vs, k, i, z, e2, rfl, q3, hk.1, hk.2, by rw [← q6.length]; exact (ixN_seq hi).1, hz, ?_⟩
      rw [← p1]
      exact h2 g3 z p2 p3 ((st1.trans st2).trans p4) (p4.gro.rep rz)
theorem s_appr {m : Str} {ap cp : Pos} {x y : Ex} (hm : m = sO "append") (hl : (ap.endLine == cp.line) = true) (hc : notCall a = true) (hst : notStar b = true) (ha : PE X a (rdE X.K E (evE F x))) (hb : PE X b (rdE X.K E (evE F y))) :
    PE X (.Call (.Attribute a m ap) [b] [] cp) (rdE X.K E (evE F (.appr x y))) := by
  subst hm
  have hs := star_cons (env := X.env) (es := []) hst
  refine PE.imp (pe_bm PySem.F.plainAttrs_list PySem.F.slot_list_append PySem.F.type_list_append mt_append ha (pa_cons hb pa_nil hs) (base_of hc) (by rw [hs]; rfl) hl hs (by rfl)) fun σ H Q ⟨g0, g, sl, e, ok, so, h⟩ => ?_
  subst e
  unfold evE at h
  refine ⟨g0, g, sl, rfl, ok, so, Post.bind h fun g1 r v ok1 st1 r1 h1 => ?_⟩
  split at h1
  case isFalse => exact h1.elim
  rename_i hr
  obtain ⟨a0, vs0, ev, hv⟩ := ref_list ok1 r1 hr
  refine ⟨by rw [ev]; exact .inl ⟨rfl, vs0, SqL.of hv⟩, g0, g1, sl, rfl, ok1, so.step st1, ?_⟩
  refine Post.dataE st1 (so.step st1) h1 fun g2 d u ed ok2 st2 so2 r2 h2 => ?_
  have r1 := r1.after st2
  split at h2
  case h_2 => exact h2.elim
  rename_i j xs er
  obtain ⟨a1, vs, e2, q1, q2, q3, q4, q5, q6⟩ := refAt_ok ok2 r1 er
  split at h2
  case isFalse => exact h2.elim
  rename_i hz
  obtain ⟨g3, p1, p2, p3, p4, p5, p6⟩ := sto_set ok2 q1 q2 q3 q4 (q6.append (.one r2)) (by rw [List.length_append]; exact hz)
  refine ⟨a1, vs, u, e2, rfl, q3, by rw [← q6.length]; exact hz, ?_⟩
  rw [← p1]
  exact h2 g3 .non p2 p3 ((st1.trans st2).trans p4) .non
end
end Px

set_option Elab.async false
set_option linter.all false
set_option maxRecDepth 100000
set_option maxHeartbeats 1000000
/-! Px, part N: every expression that the look lets by. -/
namespace Px
open PySem PySem.Spec PyProof.Rows L2
theorem nc {P : Prop} (h : false = true) : P := Bool.noConfusion h
def isBoolE : Expr → Bool
  | .BoolOp _ _ _ => true
  | _ => false
structure SE (X : Cx) (F : Cf) (E : XK) (e : Ex) (x : Expr) : Prop where
  pe : PE X x (rdE X.K E (evE F e))
  pt : PT X x (rdT X.K E fun sl S => (evE F e sl S).truth)
  pw : isBoolE x = true → PW X x (rdT X.K E fun sl S => (evE F e sl S).truth)
theorem SE.plain {X : Cx} {F : Cf} {E : XK} {e : Ex} {x : Expr} (h : PE X x (rdE X.K E (evE F e))) (ht : ∀ whole, isTrue x X.env whole = (do let v ← whole; standAt x.pos; holding [v] (truthy v))) (hb : isBoolE x = false) : SE X F E e x :=
  ⟨h, s_truth h ht, fun q => by rw [hb] at q; cases q⟩
section
variable {F : Cf} {fns gls : List String} {n : Nat} {E : XK}
theorem ifs_of {X : Cx} {T : Tx} {cx : Ex} {ifs : List Expr} (h : chkIf (chkE T cx) (chkN cx) ifs = true) (hx : ∀ x, chkE T cx x = true → PT X x (rdT X.K E fun sl S => (evE F cx sl S).truth)) : PTs X ifs (rdT X.K E fun sl S => (evE F cx sl S).truth) := by
  cases ifs with
  | nil =>
    cases cx <;> first | exact nc h | skip
    exact s_notest
  | cons x r =>
    cases r with
    | nil => exact pts_one (hx x h)
    | cons _ _ => exact nc h
mutual
theorem sE : ∀ (e : Ex) {X : Cx} (c : Ctx X F fns gls n) (x : Expr), chkE (tx X fns gls) e x = true → SE X F E e x
  | .var i, X, c, x, h => by
    cases x <;> first | exact nc h | skip
    rename_i x p
    have h' : ((atB X.N i x && visB X.env.scope x) && !dbgB x) = true := h
    rw [Bool.and_eq_true, Bool.and_eq_true] at h'
    obtain ⟨d1, d2, d3⟩ := dbg_of h'.2
    exact .plain (s_var (at_of h'.1.1) (vis_of h'.1.2) d1 d2) (fun _ => rfl) rfl
  | .int z, X, c, x, h => by
    cases x <;> first | exact nc h | skip
    rename_i k m p
    cases k <;> first | exact nc h | skip
    have h' : z = _ := of_decide_eq_true h
    subst h'
    exact .plain (s_const pe_int (fun _ _ => .int _) fun _ _ => by simp [evE]) (fun _ => rfl) rfl
  | .bl z, X, c, x, h => by
    cases x <;> first | exact nc h | skip
    rename_i k m p
    cases k <;> first | exact nc h | skip
    rename_i b
    have h' : (z == b) = true := h
    obtain rfl : z = b := by simpa using h'
    exact .plain (s_const pe_bl (fun _ _ => .bl _) fun _ _ => by simp [evE]) (fun _ => rfl) rfl
  | .non, X, c, x, h => by
    cases x <;> first | exact nc h | skip
    rename_i k m p
    cases k <;> first | exact nc h | skip
    exact .plain (s_const pe_non (fun _ _ => .non) fun _ _ => by simp [evE]) (fun _ => rfl) rfl
  | .str z, X, c, x, h => by
    cases x <;> first | exact nc h | skip
    rename_i k m p
    cases k <;> first | exact nc h | skip
    rename_i b
    have h' : b = sO z := of_decide_eq_true h
    subst h'
    exact .plain (s_const pe_str (fun _ _ => .str _) fun _ _ => by simp [evE]) (fun _ => rfl) rfl
  | .glob g, X, c, x, h => by
    cases x <;> first | exact nc h | skip
    rename_i x p
    have h' : ((gBlt (tx X fns gls) x g && gls.contains g) && !dbgB x) = true := h
    rw [Bool.and_eq_true, Bool.and_eq_true] at h'
    obtain ⟨d1, d2, d3⟩ := dbg_of h'.2
    obtain ⟨e1, e2⟩ := gBlt_of h'.1.1
    subst e1
    obtain ⟨u, v, hm, rv, hr⟩ := c.gl g (by simpa using h'.1.2)
    refine .plain (PE.imp (pe_glob (v := v) e2 hm rv d1) fun σ H Q ⟨g0, g1, sl, e, ok, so, hq⟩ => ?_) (fun _ => rfl) rfl
    subst e
    unfold evE at hq
    cases eg : F.glob g with
    | none => rw [eg] at hq; exact hq.elim
    | some d => rw [eg] at hq; exact hq g1 v rfl ok (Stp.refl g1) (hr d eg _ _)
  | .nop, X, c, x, h => by cases x <;> exact nc h
  | .bin o a b, X, c, x, h => by
    cases x <;> first | exact nc h | skip
    rename_i l op r p
    have h' : ((decide (o.op = op) && chkE (tx X fns gls) a l) && chkE (tx X fns gls) b r) = true := h
    rw [Bool.and_eq_true, Bool.and_eq_true] at h'
    have e1 := of_decide_eq_true h'.1.1
    subst e1
    refine .plain (PE.imp (s_op2 (sem := opBin o) (fun h1 h2 => pe_op (op_binS o) h1 h2) (sE a c l h'.1.2).pe (sE b c r h'.2).pe) fun σ H Q q => ?_) (fun _ => rfl) rfl
    obtain ⟨g0, g1, sl, e, ok, so, hq⟩ := q
    unfold evE at hq
    exact ⟨g0, g1, sl, e, ok, so, hq⟩
  | .cmp o a b, X, c, x, h => by
    cases x <;> first | exact nc h | skip
    rename_i l ops cs p
    cases ops with
    | nil => exact nc h
    | cons op ops =>
      cases ops with
      | cons _ _ => exact nc h
      | nil =>
        cases cs with
        | nil => exact nc h
        | cons r cs =>
          cases cs with
          | cons _ _ => exact nc h
          | nil =>
            have h' : ((decide (o.op = op) && chkE (tx X fns gls) a l) && chkE (tx X fns gls) b r) = true := h
            rw [Bool.and_eq_true, Bool.and_eq_true] at h'
            have e1 := of_decide_eq_true h'.1.1
            have hu : X.A.units + 65 < cLine := by have := c.un; omega
            have ef : evE F (.cmp o a b) = fun sl S => (evE F a sl S).bind fun x S1 => (evE F b sl S1).bind fun y S2 => Res.opt (semC o x y) S2 := by funext sl S; rw [evE]; rfl
            refine ⟨by rw [ef]; exact s_cmp hu (chkE_marks h'.2) e1 (sE a c l h'.1.2).pe (sE b c r h'.2).pe, ?_, fun q => by cases q⟩
            have := s_cmpT (pos := p) hu (chkE_marks h'.2) e1 (sE a c l h'.1.2).pe (sE b c r h'.2).pe (E := E)
            rw [ef]
            exact this
  | .cmp2 o o' a b d, X, c, x, h => by
    cases x <;> first | exact nc h | skip
    rename_i l ops cs p
    cases ops with
    | nil => exact nc h
    | cons op ops =>
      cases ops with
      | nil => exact nc h
      | cons op' ops =>
        cases ops with
        | cons _ _ => exact nc h
        | nil =>
          cases cs with
          | nil => exact nc h
          | cons m cs =>
            cases cs with
            | nil => exact nc h
            | cons r cs =>
              cases cs with
              | cons _ _ => exact nc h
              | nil =>
                have h' : ((((decide (o.op = op) && decide (o'.op = op')) && chkE (tx X fns gls) a l) && chkE (tx X fns gls) b m) && chkE (tx X fns gls) d r) = true := h
                rw [Bool.and_eq_true, Bool.and_eq_true, Bool.and_eq_true, Bool.and_eq_true] at h'
                have e1 := of_decide_eq_true h'.1.1.1.1
                have e2 := of_decide_eq_true h'.1.1.1.2
                have hu : X.A.units + 65 < cLine := by have := c.un; omega
                have ef : evE F (.cmp2 o o' a b d) = fun sl S => (evE F a sl S).bind fun x S1 => (evE F b sl S1).bind fun y S2 => (Res.opt (opCmp o x y) S2).bind fun k S3 => if k then (evE F d sl S3).bind fun z S4 => Res.opt (semC o' y z) S4 else .ok (.val (.bl false)) S3 := by funext sl S; rw [evE]; rfl
                have := s_cmp2 (pos := p) hu (chkE_marks h'.2) e1 e2 (sE a c l h'.1.1.2).pe (sE b c m h'.1.2).pe (sE d c r h'.2).pe (E := E)
                exact ⟨by rw [ef]; exact this.1, by rw [ef]; exact this.2, fun q => by cases q⟩
  | .and a b, X, c, x, h => by
    cases x <;> first | exact nc h | skip
    rename_i op vs p
    cases op <;> first | exact nc h | skip
    have ef : evE F (.and a b) = fun sl S => (evE F a sl S).bind fun x S1 => (Res.opt x.look.truth S1).bind fun k S2 => if k then evE F b sl S2 else .ok x S2 := by funext sl S; rw [evE]
    cases vs with
    | nil => exact nc h
    | cons v vs =>
      cases vs with
      | nil => exact nc h
      | cons w vs =>
        have key : chkE (tx X fns gls) a v = true ∧ PE X (.BoolOp .And (w :: vs) p) (rdE X.K E (evE F b)) ∧ PW X (.BoolOp .And (w :: vs) p) (rdT X.K E fun sl S => (evE F b sl S).truth) := by
          cases vs with
          | nil =>
            have h' : (chkE (tx X fns gls) a v && chkE (tx X fns gls) b w) = true := h
            rw [Bool.and_eq_true] at h'
            have s := sE b c w h'.2
            exact ⟨h'.1, pe_one s.pe, pw_and1 s.pt⟩
          | cons u r =>
            have h' : (chkE (tx X fns gls) a v && chkE (tx X fns gls) b (.BoolOp .And (w :: u :: r) p)) = true := h
            rw [Bool.and_eq_true] at h'
            have s := sE b c _ h'.2
            exact ⟨h'.1, s.pe, s.pw rfl⟩
        have sa := sE a c v key.1
        have w1 : PW X (.BoolOp .And (v :: w :: vs) p) (rdT X.K E fun sl S => (evE F (.and a b) sl S).truth) := by rw [ef]; exact s_andT (pos := p) sa.pt key.2.2
        exact ⟨by rw [ef]; exact s_and sa.pe key.2.1, w1.pt, fun _ => w1⟩
  | .or a b, X, c, x, h => by
    cases x <;> first | exact nc h | skip
    rename_i op vs p
    cases op <;> first | exact nc h | skip
    have ef : evE F (.or a b) = fun sl S => (evE F a sl S).bind fun x S1 => (Res.opt x.look.truth S1).bind fun k S2 => if k then .ok x S2 else evE F b sl S2 := by funext sl S; rw [evE]
    cases vs with
    | nil => exact nc h
    | cons v vs =>
      cases vs with
      | nil => exact nc h
      | cons w vs =>
        have key : chkE (tx X fns gls) a v = true ∧ PE X (.BoolOp .Or (w :: vs) p) (rdE X.K E (evE F b)) ∧ PW X (.BoolOp .Or (w :: vs) p) (rdT X.K E fun sl S => (evE F b sl S).truth) := by
          cases vs with
          | nil =>
            have h' : (chkE (tx X fns gls) a v && chkE (tx X fns gls) b w) = true := h
            rw [Bool.and_eq_true] at h'
            have s := sE b c w h'.2
            exact ⟨h'.1, pe_one s.pe, pw_or1 s.pt⟩
          | cons u r =>
            have h' : (chkE (tx X fns gls) a v && chkE (tx X fns gls) b (.BoolOp .Or (w :: u :: r) p)) = true := h
            rw [Bool.and_eq_true] at h'
            have s := sE b c _ h'.2
            exact ⟨h'.1, s.pe, s.pw rfl⟩
        have sa := sE a c v key.1
        have w1 : PW X (.BoolOp .Or (v :: w :: vs) p) (rdT X.K E fun sl S => (evE F (.or a b) sl S).truth) := by rw [ef]; exact s_orT (pos := p) sa.pt key.2.2
        exact ⟨by rw [ef]; exact s_or sa.pe key.2.1, w1.pt, fun _ => w1⟩
  | .not a, X, c, x, h => by
    cases x <;> first | exact nc h | skip
    rename_i op y p
    cases op <;> first | exact nc h | skip
    have s := sE a c y h
    have ef : evE F (.not a) = fun sl S => (evE F a sl S).bind fun x S1 => (Res.opt x.look.truth S1).bind fun k S2 => .ok (.val (.bl (!k))) S2 := by funext sl S; rw [evE]
    have w1 : PT X (.UnaryOp .Not y p) (rdT X.K E fun sl S => (evE F (.not a) sl S).truth) := by rw [ef]; exact s_notT (pos := p) s.pt
    exact ⟨by rw [ef]; exact s_not s.pe, w1, fun q => by cases q⟩
  | .neg a, X, c, x, h => by
    cases x <;> first | exact nc h | skip
    rename_i op y p
    cases op <;> first | exact nc h | skip
    have s := sE a c y h
    have ef : evE F (.neg a) = fun sl S => (evE F a sl S).bind fun x S1 => Res.opt (semNeg x) S1 := by
      funext sl S
      rw [evE]
      congr 1
      funext x S1
      unfold semNeg
      cases x.look <;> rfl
    exact .plain (by rw [ef]; exact s_un (fun h1 => pe_un un_negS h1) s.pe) (fun _ => rfl) rfl
  | .ife d a b, X, c, x, h => by
    cases x <;> first | exact nc h | skip
    rename_i t y z p
    have h' : ((chkE (tx X fns gls) d t && chkE (tx X fns gls) a y) && chkE (tx X fns gls) b z) = true := h
    rw [Bool.and_eq_true, Bool.and_eq_true] at h'
    have s1 := sE d c t h'.1.1
    have s2 := sE a c y h'.1.2
    have s3 := sE b c z h'.2
    have ef : evE F (.ife d a b) = fun sl S => (evE F d sl S).truth.bind fun k S1 => if k then evE F a sl S1 else evE F b sl S1 := by funext sl S; rw [evE]
    have w1 : PT X (.IfExp t y z p) (rdT X.K E fun sl S => (evE F (.ife d a b) sl S).truth) := by rw [ef]; exact s_ifeT (pos := p) s1.pt s2.pt s3.pt
    exact ⟨by rw [ef]; exact s_ife s1.pt s2.pe s3.pe, w1, fun q => by cases q⟩
  | .tup es, X, c, x, h => by
    cases x <;> first | exact nc h | skip
    rename_i xs k p
    exact .plain (s_tup (sA es c xs h).1) (fun _ => rfl) rfl
  | .list es, X, c, x, h => by
    cases x <;> first | exact nc h | skip
    rename_i xs p
    exact .plain (s_list (sA es c xs h).1) (fun _ => rfl) rfl
  | .call f es, X, c, x, h => by
    cases x <;> first | exact nc h | skip
    rename_i fx xs ks p
    cases fx <;> first | exact nc h | skip
    rename_i m q
    cases ks <;> first | exact nc h | skip
    have h' : (((gBlt (tx X fns gls) m f && fns.contains f) && !dbgB m) && chkA (tx X fns gls) es xs) = true := h
    rw [Bool.and_eq_true, Bool.and_eq_true, Bool.and_eq_true] at h'
    obtain ⟨e1, e2⟩ := gBlt_of h'.1.1.1
    refine .plain (s_call c e1 e2 (by simpa using h'.1.1.2) (dbg_of h'.1.2).1 (chkA_star h'.2) (fun z => ?_) (sA es c xs h'.2).1) (fun _ => rfl) rfl
    subst z
    cases es with
    | nil => rfl
    | cons _ _ => exact nc h'.2
  | .bi bb es, X, c, x, h => by
    cases x <;> first | exact nc h | skip
    rename_i fx xs ks p
    cases fx <;> first | exact nc h | skip
    rename_i m q
    cases xs with
    | nil => exact nc h
    | cons y xs =>
    cases ks <;> first | exact nc h | skip
    have h' : (gBlt (tx X fns gls) m bb.nm && chkA (tx X fns gls) es (y :: xs)) = true := h
    rw [Bool.and_eq_true] at h'
    obtain ⟨e1, e2⟩ := gBlt_of h'.1
    exact .plain (s_bi c e1 e2 (chkA_star h'.2) (sA es c _ h'.2).2) (fun _ => rfl) rfl
  | .isin a one ts, X, c, x, h => by
    cases x <;> first | exact nc h | skip
    rename_i fx xs ks p
    cases fx <;> first | exact nc h | skip
    rename_i m q
    cases xs with
    | nil => exact nc h
    | cons y xs =>
    cases xs with
    | nil => exact nc h
    | cons t xs =>
    cases xs with
    | cons _ _ => exact nc h
    | nil =>
    cases ks <;> first | exact nc h | skip
    have ef : evE F (.isin a one ts) = fun sl S => (evE F a sl S).bind fun x S1 => .ok (.val (.bl (isIn x.look ts))) S1 := by funext sl S; rw [evE]
    cases one with
    | true =>
      cases ts with
      | nil =>
        have h' : ((gBlt (tx X fns gls) m "isinstance" && chkE (tx X fns gls) a y) && false) = true := h
        simp at h'
      | cons u us =>
        cases us with
        | cons _ _ =>
          have h' : ((gBlt (tx X fns gls) m "isinstance" && chkE (tx X fns gls) a y) && false) = true := h
          simp at h'
        | nil =>
          have h' : ((gBlt (tx X fns gls) m "isinstance" && chkE (tx X fns gls) a y) && chkTy (tx X fns gls) u t) = true := h
          rw [Bool.and_eq_true, Bool.and_eq_true] at h'
          obtain ⟨e1, e2⟩ := gBlt_of h'.1.1
          exact .plain (by rw [ef]; exact s_isin1 c e1 e2 (chkE_star h'.1.2) (sE a c y h'.1.2).pe h'.2) (fun _ => rfl) rfl
    | false =>
      have h0 : ((gBlt (tx X fns gls) m "isinstance" && chkE (tx X fns gls) a y) && (match t with | .Tuple us _ _ => chkTys (tx X fns gls) ts us && decide (ts.length < 20) | _ => false)) = true := by
        cases t <;> exact h
      rw [Bool.and_eq_true, Bool.and_eq_true] at h0
      obtain ⟨e1, e2⟩ := gBlt_of h0.1.1
      have h2 := h0.2
      cases t <;> first | exact nc h2 | skip
      rw [Bool.and_eq_true] at h2
      exact .plain (by rw [ef]; exact s_isinT c e1 e2 (chkE_star h0.1.2) (sE a c y h0.1.2).pe h2.1 (of_decide_eq_true h2.2)) (fun _ => rfl) rfl
  | .sset a, X, c, x, h => by
    cases x <;> first | exact nc h | skip
    rename_i f ys ks p
    cases f <;> first | exact nc h | skip
    rename_i m q
    cases ys with
    | nil => exact nc h
    | cons y ys =>
    cases y <;> first | exact nc h | (cases ys <;> exact nc h) | skip
    rename_i f2 ys2 ks2 p2
    cases f2 <;> first | exact nc h | (cases ys <;> exact nc h) | skip
    rename_i m2 q2
    cases ys2 with
    | nil => first | exact nc h | (cases ys <;> exact nc h)
    | cons z zs =>
    cases zs with
    | cons _ _ => first | exact nc h | (cases ys <;> exact nc h)
    | nil =>
    cases ks2 with
    | cons _ _ => first | exact nc h | (cases ys <;> exact nc h)
    | nil =>
    cases ys with
    | cons _ _ => exact nc h
    | nil =>
    cases ks with
    | cons _ _ => exact nc h
    | nil =>
    have h' : ((gBlt (tx X fns gls) m "sorted" && gBlt (tx X fns gls) m2 "set") && chkE (tx X fns gls) a z) = true := h
    rw [Bool.and_eq_true, Bool.and_eq_true] at h'
    obtain ⟨e1, e2⟩ := gBlt_of h'.1.1
    obtain ⟨e3, e4⟩ := gBlt_of h'.1.2
    exact .plain (s_sset c e1 e3 e2 e4 (chkE_star h'.2) (sE a c z h'.2).pe) (fun _ => rfl) rfl
  | .lrng a, X, c, x, h => by
    cases x <;> first | exact nc h | skip
    rename_i f ys ks p
    cases f <;> first | exact nc h | skip
    rename_i m q
    cases ys with
    | nil => exact nc h
    | cons y ys =>
    cases y <;> first | exact nc h | (cases ys <;> exact nc h) | skip
    rename_i f2 ys2 ks2 p2
    cases f2 <;> first | exact nc h | (cases ys <;> exact nc h) | skip
    rename_i m2 q2
    cases ys2 with
    | nil => first | exact nc h | (cases ys <;> exact nc h)
    | cons z zs =>
    cases zs with
    | cons _ _ => first | exact nc h | (cases ys <;> exact nc h)
    | nil =>
    cases ks2 with
    | cons _ _ => first | exact nc h | (cases ys <;> exact nc h)
    | nil =>
    cases ys with
    | cons _ _ => exact nc h
    | nil =>
    cases ks with
    | cons _ _ => exact nc h
    | nil =>
    have h' : ((gBlt (tx X fns gls) m "list" && gBlt (tx X fns gls) m2 "range") && chkE (tx X fns gls) a z) = true := h
    rw [Bool.and_eq_true, Bool.and_eq_true] at h'
    obtain ⟨e1, e2⟩ := gBlt_of h'.1.1
    obtain ⟨e3, e4⟩ := gBlt_of h'.1.2
    exact .plain (s_lrng c e1 e3 e2 e4 (chkE_star h'.2) (sE a c z h'.2).pe) (fun _ => rfl) rfl
  | .ix a i, X, c, x, h => by
    cases x <;> first | exact nc h | skip
    rename_i y z p
    have h' : (chkE (tx X fns gls) a y && chkE (tx X fns gls) i z) = true := h
    rw [Bool.and_eq_true] at h'
    exact .plain (s_ix (fun l u q e => by subst e; exact (chkE_slice h'.2).elim) (sE a c y h'.1).pe (sE i c z h'.2).pe) (fun _ => rfl) rfl
  | .ixr a i, X, c, x, h => by
    cases x <;> first | exact nc h | skip
    rename_i y z p
    have h' : (chkE (tx X fns gls) a y && chkE (tx X fns gls) i z) = true := h
    rw [Bool.and_eq_true] at h'
    exact .plain (s_ixr (fun l u q e => by subst e; exact (chkE_slice h'.2).elim) (sE a c y h'.1).pe (sE i c z h'.2).pe) (fun _ => rfl) rfl
  | .cmpr o a b, X, c, x, h => by
    cases x <;> first | exact nc h | skip
    rename_i l ops cs p
    cases ops with
    | nil => exact nc h
    | cons op ops =>
      cases ops with
      | cons _ _ => exact nc h
      | nil =>
        cases cs with
        | nil => exact nc h
        | cons r cs =>
          cases cs with
          | cons _ _ => exact nc h
          | nil =>
            have h' : ((decide (o.op = op) && chkE (tx X fns gls) a l) && chkE (tx X fns gls) b r) = true := h
            rw [Bool.and_eq_true, Bool.and_eq_true] at h'
            have e1 := of_decide_eq_true h'.1.1
            have hu : X.A.units + 65 < cLine := by have := c.un; omega
            have ef : evE F (.cmpr o a b) = fun sl S => (evE F a sl S).bind fun x S1 => (evE F b sl S1).bind fun y S2 => Res.opt (semD o (x.lookS S2) (y.lookS S2)) S2 := by funext sl S; rw [evE]; rfl
            refine ⟨by rw [ef]; exact s_cmpr hu (chkE_marks h'.2) e1 (sE a c l h'.1.2).pe (sE b c r h'.2).pe, ?_, fun q => by cases q⟩
            rw [ef]
            exact s_cmprT (pos := p) hu (chkE_marks h'.2) e1 (sE a c l h'.1.2).pe (sE b c r h'.2).pe (E := E)
  | .shr e, X, c, x, h => by
    have h' : (isMk x && chkE (tx X fns gls) e x) = true := h
    rw [Bool.and_eq_true] at h'
    have q := s_shr (sE e c x h'.2).pe
    have hm := h'.1
    cases x <;> first | exact nc hm | exact .plain q (fun _ => rfl) rfl
  | .popr a k, X, c, x, h => by
    cases x <;> first | exact nc h | skip
    rename_i fx ys ks cp
    cases fx <;> first | exact nc h | skip
    rename_i o m ap
    cases ks <;> first | exact nc h | skip
    have h' : ((((decide (m = sO "pop") && (ap.endLine == cp.line)) && notCall o) && chkE (tx X fns gls) a o) && (decide (ys.length ≤ 1) && chkO (tx X fns gls) k ys.head?)) = true := h
    rw [Bool.and_eq_true, Bool.and_eq_true, Bool.and_eq_true, Bool.and_eq_true, Bool.and_eq_true] at h'
    obtain ⟨⟨⟨⟨k1, k2⟩, k0⟩, k3⟩, k4, k5⟩ := h'
    have k1 := of_decide_eq_true k1
    have k4 := of_decide_eq_true k4
    have sa := (sE a c o k3).pe
    have so := sO' k c ys.head? k5
    cases ys with
    | nil =>
      cases k with
      | no => exact .plain (s_pop0 k1 k2 k0 sa) (fun _ => rfl) rfl
      | yes e => exact nc k5
    | cons y ys =>
      cases ys with
      | cons _ _ => simp at k4
      | nil =>
        cases k with
        | no => exact nc k5
        | yes e => exact .plain (s_pop1 k1 k2 k0 (chkE_star (show chkE (tx X fns gls) e y = true from k5)) sa (sE e c y k5).pe) (fun _ => rfl) rfl
  | .appr a e, X, c, x, h => by
    cases x <;> first | exact nc h | skip
    rename_i fx ys ks cp
    cases fx <;> first | exact nc h | skip
    rename_i o m ap
    cases ys with
    | nil => exact nc h
    | cons y ys =>
    cases ys with
    | cons _ _ => exact nc h
    | nil =>
    cases ks <;> first | exact nc h | skip
    have h' : ((((decide (m = sO "append") && (ap.endLine == cp.line)) && notCall o) && chkE (tx X fns gls) a o) && chkE (tx X fns gls) e y) = true := h
    rw [Bool.and_eq_true, Bool.and_eq_true, Bool.and_eq_true, Bool.and_eq_true] at h'
    obtain ⟨⟨⟨⟨k1, k2⟩, k0⟩, k3⟩, k4⟩ := h'
    exact .plain (s_appr (of_decide_eq_true k1) k2 k0 (chkE_star k4) (sE a c o k3).pe (sE e c y k4).pe) (fun _ => rfl) rfl
  | .sl a lo hi, X, c, x, h => by
    cases x <;> first | exact nc h | skip
    rename_i y z p
    cases z <;> first | exact nc h | skip
    rename_i l u st q
    cases st <;> first | exact nc h | skip
    have h' : ((chkE (tx X fns gls) a y && chkO (tx X fns gls) lo l) && chkO (tx X fns gls) hi u) = true := h
    rw [Bool.and_eq_true, Bool.and_eq_true] at h'
    exact .plain (s_sl (sE a c y h'.1.1).pe (sO' lo c l h'.1.2) (sO' hi c u h'.2)) (fun _ => rfl) rfl
  | .rev a, X, c, x, h => by
    cases x <;> first | exact nc h | skip
    rename_i y z p
    cases z <;> first | exact nc h | skip
    rename_i l u st q
    cases l <;> first | (cases u <;> cases st <;> exact nc h) | skip
    cases u <;> first | (cases st <;> exact nc h) | skip
    cases st <;> first | exact nc h | skip
    rename_i o
    cases o <;> first | exact nc h | skip
    rename_i uo w wp
    cases uo <;> first | exact nc h | skip
    cases w <;> first | exact nc h | skip
    rename_i cst ck cp
    cases cst <;> first | exact nc h | skip
    rename_i kk
    have h' : (chkE (tx X fns gls) a y && decide (kk = 1)) = true := h
    rw [Bool.and_eq_true] at h'
    obtain rfl := of_decide_eq_true h'.2
    exact .plain (s_rev (sE a c y h'.1).pe) (fun _ => rfl) rfl
  | .comp own tg it cx elt, X, c, x, h => by
    cases x <;> first | exact nc h | skip
    rename_i e gs scope p
    cases gs with
    | nil => exact nc h
    | cons g gs =>
    obtain ⟨t, i, ifs, as⟩ := g
    cases gs with
    | cons _ _ => exact nc h
    | nil =>
    have h' : ((((((decide (as = 0) && blkC X.N X.env.scope scope (ownS own)) && chkI (tx X fns gls) t it i) && chkG ((tx X fns gls).blk scope) tg t) && subB tg.slots (own.map (·.2))) && chkE ((tx X fns gls).blk scope) elt e) && chkIf (chkE ((tx X fns gls).blk scope) cx) (chkN cx) ifs) = true := h
    rw [Bool.and_eq_true, Bool.and_eq_true, Bool.and_eq_true, Bool.and_eq_true, Bool.and_eq_true, Bool.and_eq_true] at h'
    obtain ⟨⟨⟨⟨⟨⟨k0, k1⟩, k2⟩, k3⟩, k4⟩, k5⟩, k6⟩ := h'
    obtain rfl : as = 0 := of_decide_eq_true k0
    refine .plain (PE.imp (s_comp (E := E) c.calm c.nd (sI it c t i k2) (blkOk_by k1) (fun s H C cl fp => sG (X := X.blk s H scope (compEnvC scope cl C X.env) fp) (fns := fns) (gls := gls) c.calm c.nd tg t k3)
      (fun s H C cl fp => ifs_of k6 fun x hx => (sE cx (X := X.blk s H scope (compEnvC scope cl C X.env) fp) (c.blk s H scope _ fp) x hx).pt)
      (fun s H C cl fp => (sE elt (X := X.blk s H scope (compEnvC scope cl C X.env) fp) (c.blk s H scope _ fp) e k5).pe) (chkI_set k2) (subB_of k4)) fun σ H Q q => lc_read (subB_of k4) ?_) (fun _ => rfl) rfl
    obtain ⟨g0, g1, sl, e, ok, so, hq⟩ := q
    unfold evE at hq
    exact ⟨g0, g1, sl, e, ok, so, hq⟩
  | .comp2 own tg it cx vs1 tg1 it1 cx1 elt, X, c, x, h => by
    cases x <;> first | exact nc h | skip
    rename_i e gs scope p
    cases gs with
    | nil => exact nc h
    | cons g gs =>
    obtain ⟨t, i, ifs, as⟩ := g
    cases gs with
    | nil => exact nc h
    | cons g1 gs =>
    obtain ⟨t1, i1, ifs1, as1⟩ := g1
    cases gs with
    | cons _ _ => exact nc h
    | nil =>
    have h' : ((((((((((((decide (as = 0) && decide (as1 = 0)) && blkC X.N X.env.scope scope (ownS own)) && chkI (tx X fns gls) t it i) && chkG ((tx X fns gls).blk scope) tg t) && subB tg.slots (own.map (·.2))) && chkIf (chkE ((tx X fns gls).blk scope) cx) (chkN cx) ifs) &&
      subB vs1 (own.map (·.2))) && chkI ((tx X fns gls).blk scope) t1 it1 i1) && chkG ((tx X fns gls).blk scope) tg1 t1) && subB tg1.slots vs1) && chkIf (chkE ((tx X fns gls).blk scope) cx1) (chkN cx1) ifs1) && chkE ((tx X fns gls).blk scope) elt e) = true := h
    rw [Bool.and_eq_true, Bool.and_eq_true, Bool.and_eq_true, Bool.and_eq_true, Bool.and_eq_true, Bool.and_eq_true, Bool.and_eq_true, Bool.and_eq_true, Bool.and_eq_true, Bool.and_eq_true, Bool.and_eq_true, Bool.and_eq_true] at h'
    obtain ⟨⟨⟨⟨⟨⟨⟨⟨⟨⟨⟨⟨k0, k01⟩, k1⟩, k2⟩, k3⟩, k4⟩, k6⟩, j1⟩, j2⟩, j3⟩, j4⟩, j5⟩, k5⟩ := h'
    obtain rfl : as = 0 := of_decide_eq_true k0
    obtain rfl : as1 = 0 := of_decide_eq_true k01
    have eo : (ownS own).map (·.2) = own.map (·.2) := by simp [ownS]
    have key : PE X (.ListComp e [⟨t, i, ifs, 0⟩, ⟨t1, i1, ifs1, 0⟩] scope p) (tLc2 (rdI X.K E (evI F it)) (rdG X.K tg) (rdT X.K E fun sl S => (evE F cx sl S).truth) (rdI X.K E (evI F it1)) (rdG X.K tg1) (rdT X.K E fun sl S => (evE F cx1 sl S).truth) (rdE X.K E (evE F elt)) ((ownS own).map (·.2)) vs1) := pe_lc2 c.calm c.nd (sI it c t i k2) (blkOk_by k1) (by rw [eo]; exact subB_of j1) (fun s H C cl fp => sG (X := X.blk s H scope (compEnvC scope cl C X.env) fp) (fns := fns) (gls := gls) c.calm c.nd tg t k3)
      (fun s H C cl fp => ifs_of k6 fun x hx => (sE cx (X := X.blk s H scope (compEnvC scope cl C X.env) fp) (c.blk s H scope _ fp) x hx).pt)
      (fun s H C cl fp => sI it1 (X := X.blk s H scope (compEnvC scope cl C X.env) fp) (c.blk s H scope _ fp) t1 i1 j2)
      (fun s H C cl fp => sG (X := X.blk s H scope (compEnvC scope cl C X.env) fp) (fns := fns) (gls := gls) c.calm c.nd tg1 t1 j3)
      (fun s H C cl fp => ifs_of j5 fun x hx => (sE cx1 (X := X.blk s H scope (compEnvC scope cl C X.env) fp) (c.blk s H scope _ fp) x hx).pt)
      (fun s H C cl fp => (sE elt (X := X.blk s H scope (compEnvC scope cl C X.env) fp) (c.blk s H scope _ fp) e k5).pe) (chkI_set k2) (fun env x => chkI_set (env := env) j2 x)
    rw [eo] at key
    refine .plain (PE.imp key fun σ H Q q => lc2_read (subB_of k4) (subB_of j4) ?_) (fun _ => rfl) rfl
    obtain ⟨g0, g1, sl, e, ok, so, hq⟩ := q
    unfold evE at hq
    exact ⟨g0, g1, sl, e, ok, so, hq⟩
theorem sA : ∀ (es : Exs) {X : Cx} (c : Ctx X F fns gls n) (xs : List Expr), chkA (tx X fns gls) es xs = true → PA X xs (rdA X.K E (evA F es)) ∧ PA X xs (rdR X.K E (evR F es))
  | .nil, X, c, [], _ => ⟨s_nil rfl, s_nilR rfl⟩
  | .cons e es, X, c, x :: xs, h => by
    have h' : (chkE (tx X fns gls) e x && chkA (tx X fns gls) es xs) = true := h
    rw [Bool.and_eq_true] at h'
    have s := sE e c x h'.1
    have r := sA es c xs h'.2
    exact ⟨s_cons (chkE_star h'.1) s.pe r.1, s_consR (chkE_star h'.1) s.pe r.2⟩
  | .nil, _, _, _ :: _, h => nc h
  | .cons _ _, _, _, [], h => nc h
theorem sO' : ∀ (o : Exo) {X : Cx} (c : Ctx X F fns gls n) (l : Option Expr), chkO (tx X fns gls) o l = true → (o = .no ∧ l = none) ∨ ∃ y e, o = .yes y ∧ l = some e ∧ PE X e (rdE X.K E (evE F y))
  | .no, X, c, none, _ => .inl ⟨rfl, rfl⟩
  | .yes e, X, c, some x, h => .inr ⟨e, x, rfl, rfl, (sE e c x h).pe⟩
  | .no, _, _, some _, h => nc h
  | .yes _, _, _, none, h => nc h
theorem sI : ∀ (it : Itx) {X : Cx} (c : Ctx X F fns gls n) (tg x : Expr), chkI (tx X fns gls) tg it x = true → PI X tg x (rdI X.K E (evI F it))
  | .val e, X, c, tg, x, h => i_val (sE e c x h).pe
  | .rng1 a, X, c, tg, x, h => by
    cases x <;> first | exact nc h | skip
    rename_i fx xs ks p
    cases fx <;> first | exact nc h | skip
    rename_i m q
    cases xs with
    | nil => exact nc h
    | cons y xs =>
    cases xs with
    | cons _ _ => exact nc h
    | nil =>
    cases ks <;> first | exact nc h | skip
    have h' : (gBlt (tx X fns gls) m "range" && chkE (tx X fns gls) a y) = true := h
    rw [Bool.and_eq_true] at h'
    obtain ⟨e1, e2⟩ := gBlt_of h'.1
    exact i_rng1 c e1 e2 (chkE_star h'.2) (sE a c y h'.2).pe
  | .rng2 a b, X, c, tg, x, h => by
    cases x <;> first | exact nc h | skip
    rename_i fx xs ks p
    cases fx <;> first | exact nc h | skip
    rename_i m q
    cases xs with
    | nil => exact nc h
    | cons y xs =>
    cases xs with
    | nil => exact nc h
    | cons z xs =>
    cases xs with
    | cons _ _ => exact nc h
    | nil =>
    cases ks <;> first | exact nc h | skip
    have h' : ((gBlt (tx X fns gls) m "range" && chkE (tx X fns gls) a y) && chkE (tx X fns gls) b z) = true := h
    rw [Bool.and_eq_true, Bool.and_eq_true] at h'
    obtain ⟨e1, e2⟩ := gBlt_of h'.1.1
    exact i_rng2 c e1 e2 (chkE_star h'.1.2) (chkE_star h'.2) (sE a c y h'.1.2).pe (sE b c z h'.2).pe
  | .enum a, X, c, tg, x, h => by
    cases x <;> first | exact nc h | skip
    rename_i fx xs ks p
    cases fx <;> first | exact nc h | skip
    rename_i m q
    cases xs with
    | nil => exact nc h
    | cons y xs =>
    cases xs with
    | cons _ _ => exact nc h
    | nil =>
    cases ks <;> first | exact nc h | skip
    have h' : ((gBlt (tx X fns gls) m "enumerate" && chkE (tx X fns gls) a y) && isTupE tg) = true := h
    rw [Bool.and_eq_true, Bool.and_eq_true] at h'
    obtain ⟨e1, e2⟩ := gBlt_of h'.1.1
    exact i_enum c e1 e2 (chkE_star h'.1.2) (sE a c y h'.1.2).pe h'.2
  | .zip a b, X, c, tg, x, h => by
    cases x <;> first | exact nc h | skip
    rename_i fx xs ks p
    cases fx <;> first | exact nc h | skip
    rename_i m q
    cases xs with
    | nil => exact nc h
    | cons y xs =>
    cases xs with
    | nil => exact nc h
    | cons z xs =>
    cases xs with
    | cons _ _ => exact nc h
    | nil =>
    cases ks <;> first | exact nc h | skip
    have h' : (((gBlt (tx X fns gls) m "zip" && chkE (tx X fns gls) a y) && chkE (tx X fns gls) b z) && isTupE tg) = true := h
    rw [Bool.and_eq_true, Bool.and_eq_true, Bool.and_eq_true] at h'
    obtain ⟨e1, e2⟩ := gBlt_of h'.1.1.1
    exact i_zip c e1 e2 (chkE_star h'.1.1.2) (chkE_star h'.1.2) (sE a c y h'.1.1.2).pe (sE b c z h'.1.2).pe h'.2
end
end
end Px

set_option Elab.async false
set_option linter.all false
set_option maxRecDepth 100000
set_option maxHeartbeats 1000000
/-! Px, part O: statements: what changes. -/
namespace Px
open PySem PySem.Spec PyProof.Rows L2
def RtR (K : PySem.W.Frag) (g0 g' : Gh) (fl : Fl) (D : Ends) (σ' : L2.St) : Prop :=
  match fl with
  | .nx => D.nx σ' g'.H
  | .bk => D.bk σ' g'.H
  | .ct => D.ct σ' g'.H
  | .rt r => ∀ v, RvR K g0 g' r v → D.rt v g'.H
/-- from g, the def entered at g0 -/
def PostS (K : PySem.W.Frag) (E : XK) (g0 g : Gh) (r : Res (Fl × Slots)) (D : Ends) : Prop :=
  match r with
  | .ok p S => ∀ g' σ', g'.S = S → Gok K g' → Stp g0 g' → Gro g g' → SlOk K g0 g' σ' p.2 → RtR K g0 g' p.1 D σ'
  | .exc x S => ∀ g' C od, g'.S = S → Gok K g' → Stp g0 g' → XR K g' x C od → E C od g'.H
  | .stuck => False
def rdS (K : PySem.W.Frag) (E : XK) (f : Slots → Sto → Res (Fl × Slots)) : TS := fun D σ H => ∃ g0 g sl, g.H = H ∧ Gok K g ∧ SlOk K g0 g σ sl ∧ Stp g0 g ∧ PostS K E g0 g (f sl g.S) D
section
variable {K : PySem.W.Frag} {E : XK} {g0 g g' : Gh} {σ : L2.St} {sl : Slots}
theorem PostS.shift {D : Ends} {r : Res (Fl × Slots)} (h : PostS K E g0 g r D) (gr : Gro g g') : PostS K E g0 g' r D := by
  cases r with
  | ok p S => intro g1 σ1 e ok st gr1 so; exact h g1 σ1 e ok st (gr.trans gr1) so
  | exc x S => exact h
  | stuck => exact h
/-- an expression, then more -/
theorem PostS.bind {D : Ends} {α β : Type} {RR : Gh → Gh → α → β → Prop} {f : Res α} {k : α → Sto → Res (Fl × Slots)} {Q1 : β → Hp → Prop} (st : Stp g0 g) (h : PostS K E g0 g (f.bind k) D)
    (hk : ∀ g1 a v, Gok K g1 → Stp g g1 → RR g g1 a v → PostS K E g0 g1 (k a g1.S) D → Q1 v g1.H) : Post K E RR g f Q1 := by
  cases f with
  | ok a S => intro g' v e ok s r; subst e; exact hk g' a v ok s r (PostS.shift h s.gro)
  | exc x S => intro g' C od e ok s q; exact h g' C od e ok (st.trans s) q
  | stuck => exact h
theorem PostS.data {r : Res Rv} {k : D → Sto → Res (Fl × Slots)} {De : Ends} {Q1 : V → Hp → Prop} (st : Stp g0 g) (so : SlOk K g0 g σ sl) (h : PostS K E g0 g (r.data.bind k) De)
    (hk : ∀ g1 d v, Gok K g1 → Stp g g1 → SlOk K g0 g1 σ sl → g1.Rep K d v → PostS K E g0 g1 (k d g1.S) De → Q1 v g1.H) : Post K E (RvR K) g r Q1 := by
  unfold Res.data at h
  rw [Res.bind_assoc] at h
  refine PostS.bind st h fun g1 x v ok1 st1 r1 h1 => ?_
  cases e1 : x.toD with
  | none => rw [e1] at h1; exact h1.elim
  | some d =>
    rw [e1] at h1
    obtain ⟨g2, q1, q2, q3, q4, q5, q6⟩ := r1.esc ok1 st1 e1
    rw [← q1]
    rw [Res.opt_some, Res.bind_ok, ← q2] at h1
    exact hk g2 d v q3 q4 (so.step q4) q6 (h1.shift q5)
theorem PostS.int {r : Res Rv} {k : Int → Sto → Res (Fl × Slots)} {De : Ends} {Q1 : V → Hp → Prop} (st : Stp g0 g) (h : PostS K E g0 g (r.int?.bind k) De)
    (hk : ∀ g1 i, Gok K g1 → Stp g g1 → PostS K E g0 g1 (k i g1.S) De → Q1 (.int i) g1.H) : Post K E (RvR K) g r Q1 := by
  unfold Res.int? at h
  rw [Res.bind_assoc] at h
  refine PostS.bind st h fun g1 x v ok1 st1 r1 h1 => ?_
  have l1 := r1.lookR ok1
  generalize x.look = d at h1 l1
  split at h1
  · cases l1.int
    exact hk g1 _ ok1 st1 h1
  · exact h1.elim

/-- a new thing in a name -/
theorem SlOk.setOwn (h : SlOk K g0 g σ sl) (i : Nat) {a : Addr} {c : Cn} {o : HO} (h1 : g.H a = some o) (h2 : g.CRep K c o) (h3 : g.R a = none) (h4 : a ∉ g.sa) (h5 : g0.H a = none) (hn : ∀ (j : Nat) c, sl[j]? = some (.own c) → σ[j]? ≠ some (some (.ref a))) :
    SlOk K g0 g (σ.set i (some (.ref a))) (sl.set i (.own c)) := by
  refine ⟨by rw [List.length_set, List.length_set]; exact h.len, fun j s e => ?_, fun j k c1 c2 b e1 e2 hne e3 e4 => ?_⟩
  · by_cases hj : i = j
    · subst hj
      by_cases hl : i < sl.length
      · rw [List.getElem?_set_self hl] at e
        cases e
        exact ⟨_, List.getElem?_set_self (by rw [h.len]; exact hl), a, o, rfl, h1, h2, h3, h4, h5⟩
      · rw [List.getElem?_eq_none (by rw [List.length_set]; omega)] at e; cases e
    · rw [List.getElem?_set_ne hj] at e
      obtain ⟨x, e1, r1⟩ := h.at_ j s e
      exact ⟨x, by rw [List.getElem?_set_ne hj]; exact e1, r1⟩
  · by_cases hj : i = j
    · subst hj
      have hk : i ≠ k := hne
      rw [List.getElem?_set_ne hk] at e2 e4
      by_cases hl : i < σ.length
      · rw [List.getElem?_set_self hl] at e3
        cases e3
        exact hn k c2 e2 e4
      · rw [List.getElem?_eq_none (by rw [List.length_set]; omega)] at e3; cases e3
    · rw [List.getElem?_set_ne hj] at e1 e3
      by_cases hk : i = k
      · subst hk
        by_cases hl : i < σ.length
        · rw [List.getElem?_set_self hl] at e4
          cases e4
          exact hn j c1 e1 e3
        · rw [List.getElem?_eq_none (by rw [List.length_set]; omega)] at e4; cases e4
      · rw [List.getElem?_set_ne hk] at e2 e4
        exact h.sep j k c1 c2 b e1 e2 hne e3 e4
theorem SlOk.ownAt (h : SlOk K g0 g σ sl) {j : Nat} {c : Cn} {a : Addr} (e : sl[j]? = some (.own c)) (e' : σ[j]? = some (some (.ref a))) : ∃ o, g.H a = some o ∧ g.CRep K c o ∧ g.R a = none ∧ a ∉ g.sa ∧ g0.H a = none := by
  obtain ⟨v, e1, b, o, e2, h1, h2, h3, h4, h5⟩ := h.at_ j _ e
  rw [e1, e2] at e'
  cases e'
  exact ⟨o, h1, h2, h3, h4, h5⟩
theorem asg_ok {i : Nat} {r : Rv} {v : V} {sl' : Slots} {g1 : Gh} (so : SlOk K g0 g σ sl) (s0 : Stp g0 g) (st : Stp g g1) (rr : RvR K g g1 r v) (h : asgV i r sl = some sl') : SlOk K g0 g1 (σ.set i (some v)) sl' := by
  cases r with
  | val d => cases h; exact (so.step st).setVal i rr
  | fresh c =>
    cases h
    obtain ⟨a, o, rfl, h1, h2, h3, h4, h5⟩ := rr
    refine (so.step st).setOwn i h1 h2 h3 h4 (s0.dom a h5) fun j c' e e' => ?_
    obtain ⟨o', q, _⟩ := so.ownAt e e'
    rw [h5] at q; cases q
  | own c => cases h
/-- a name's list becomes one that never changes -/
theorem frz_ok {i : Nat} {c : Cn} (ok : Gok K g) (so : SlOk K g0 g σ sl) (s0 : Stp g0 g) (e : sl[i]? = some (.own c)) :
    ∃ g1 : Gh, g1.H = g.H ∧ g1.S = g.S ∧ Gok K g1 ∧ Stp g0 g1 ∧ Gro g g1 ∧ SlOk K g0 g1 σ (sl.set i (.val c.frz)) := by
  obtain ⟨v, e1, a, o, e2, h1, h2, h3, h4, h5⟩ := so.at_ i _ e
  obtain ⟨k1, k2, k3⟩ := Gh.freeze ok h1 h3 h4 h5 s0
  refine ⟨g.wR (upd g.R a o), rfl, rfl, k1, k3, k2, ?_⟩
  have hil : i < sl.length := (List.getElem?_eq_some_iff.mp e).1
  refine ⟨by rw [List.length_set]; exact so.len, fun j s ej => ?_, fun j k c1 c2 b e1' e2' hne e3 e4 => ?_⟩
  · by_cases hj : i = j
    · subst hj
      rw [List.getElem?_set_self hil] at ej
      cases ej
      refine ⟨v, e1, .ref a, e2, ?_⟩
      cases c with
      | lst xs =>
        obtain ⟨l, vs, rfl, q⟩ := h2
        exact .lst (show upd g.R a (.lst vs) a = some _ from upd_same) l (k2.reps q)
    · rw [List.getElem?_set_ne hj] at ej
      obtain ⟨w, f1, f2⟩ := so.at_ j s ej
      refine ⟨w, f1, ?_⟩
      cases s with
      | emp => trivial
      | val d => obtain ⟨x, q1, q2⟩ := f2; exact ⟨x, q1, k2.rep q2⟩
      | own c' =>
        obtain ⟨b, o', q1, q2, q3, q4, q5, q6⟩ := f2
        refine ⟨b, o', q1, q2, k2.crep q3, ?_, q5, q6⟩
        have hb : b ≠ a := fun z => by
          subst z
          exact so.sep i j c c' b e ej hj (by rw [e1, e2]) (by rw [f1, q1])
        show upd g.R a o b = none
        rw [upd_ne hb]; exact q4
  · have nn : ∀ {m : Nat} {c' : Cn}, (sl.set i (.val c.frz))[m]? = some (.own c') → i ≠ m ∧ sl[m]? = some (.own c') := fun {m c'} q => by
      by_cases hm : i = m
      · subst hm; rw [List.getElem?_set_self hil] at q; cases q
      · rw [List.getElem?_set_ne hm] at q; exact ⟨hm, q⟩
    exact so.sep j k c1 c2 b (nn e1').2 (nn e2').2 hne e3 e4
/-- a name's list becomes a shared one -/
theorem shr_ok {i : Nat} {c : Cn} (ok : Gok K g) (so : SlOk K g0 g σ sl) (s0 : Stp g0 g) (e : sl[i]? = some (.own c)) :
    ∃ g1 : Gh, g1.H = g.H ∧ g1.S = g.S ++ [c] ∧ Gok K g1 ∧ Stp g0 g1 ∧ Gro g g1 ∧ SlOk K g0 g1 σ (sl.set i (.val (.ref g.S.length))) := by
  obtain ⟨v, e1, a, o, e2, h1, h2, h3, h4, h5⟩ := so.at_ i _ e
  have gr : Gro g ⟨g.H, g.R, g.sa ++ [a], g.S ++ [c]⟩ := ⟨fun _ _ q => q, ⟨[a], rfl⟩⟩
  refine ⟨⟨g.H, g.R, g.sa ++ [a], g.S ++ [c]⟩, rfl, rfl, ⟨ok.sub, ?_, ?_, fun j b c' q1 q2 => ?_⟩, ⟨s0.hp, s0.dom, s0.rr, s0.rn, ?_, fun b m n => ?_⟩, gr, ?_⟩
  · show (g.sa ++ [a]).length = (g.S ++ [c]).length
    rw [List.length_append, List.length_append, ok.len]; rfl
  · show (g.sa ++ [a]).Nodup
    rw [List.nodup_append]
    exact ⟨ok.nd, by simp, fun b hb d hd => by simp at hd; subst hd; exact fun z => h4 (z ▸ hb)⟩
  · have q1' : (g.sa ++ [a])[j]? = some b := q1
    have q2' : (g.S ++ [c])[j]? = some c' := q2
    by_cases hj : j < g.sa.length
    · rw [List.getElem?_append_left hj] at q1'
      rw [List.getElem?_append_left (by rw [← ok.len]; exact hj)] at q2'
      obtain ⟨u, f1, f2, f3⟩ := ok.sto j b c' q1' q2'
      exact ⟨u, f1, gr.crep f2, f3⟩
    · have hjl : j < (g.sa ++ [a]).length := (List.getElem?_eq_some_iff.mp q1').1
      have ej : j = g.sa.length := by rw [List.length_append] at hjl; simp at hjl; omega
      subst ej
      rw [List.getElem?_append_right (Nat.le_refl _)] at q1'
      rw [List.getElem?_append_right (by rw [ok.len]; exact Nat.le_refl _)] at q2'
      rw [ok.len] at q2'
      simp at q1' q2'
      subst q1' q2'
      exact ⟨o, h1, gr.crep h2, h3⟩
  · obtain ⟨t, q⟩ := s0.sp
    exact ⟨t ++ [a], by show g.sa ++ [a] = _; rw [q, List.append_assoc]⟩
  · have m' : b ∈ g.sa ++ [a] := m
    rcases List.mem_append.mp m' with m' | m'
    · exact s0.sn b m' n
    · have : b = a := by simpa using m'
      rw [this]; exact h5
  · have hil : i < sl.length := (List.getElem?_eq_some_iff.mp e).1
    refine ⟨by rw [List.length_set]; exact so.len, fun j s ej => ?_, fun j k c1 c2 b e1' e2' hne e3 e4 => ?_⟩
    · by_cases hj : i = j
      · subst hj
        rw [List.getElem?_set_self hil] at ej
        cases ej
        refine ⟨v, e1, .ref a, e2, .ref ?_⟩
        show (g.sa ++ [a])[g.S.length]? = some a
        rw [← ok.len, List.getElem?_append_right (Nat.le_refl _)]
        simp
      · rw [List.getElem?_set_ne hj] at ej
        obtain ⟨w, f1, f2⟩ := so.at_ j s ej
        refine ⟨w, f1, ?_⟩
        cases s with
        | emp => trivial
        | val d => obtain ⟨x, q1, q2⟩ := f2; exact ⟨x, q1, gr.rep q2⟩
        | own c' =>
          obtain ⟨b, o', q1, q2, q3, q4, q5, q6⟩ := f2
          refine ⟨b, o', q1, q2, gr.crep q3, q4, ?_, q6⟩
          have hb : b ≠ a := fun z => by
            subst z
            exact so.sep i j c c' b e ej hj (by rw [e1, e2]) (by rw [f1, q1])
          intro m
          have m' : b ∈ g.sa ++ [a] := m
          rcases List.mem_append.mp m' with m' | m'
          · exact q5 m'
          · exact hb (by simpa using m')
    · have nn : ∀ {m : Nat} {c' : Cn}, (sl.set i (.val (.ref g.S.length)))[m]? = some (.own c') → i ≠ m ∧ sl[m]? = some (.own c') := fun {m c'} q => by
        by_cases hm : i = m
        · subst hm; rw [List.getElem?_set_self hil] at q; cases q
        · rw [List.getElem?_set_ne hm] at q; exact ⟨hm, q⟩
      exact so.sep j k c1 c2 b (nn e1').2 (nn e2').2 hne e3 e4
theorem lstAt_ok {i : Nat} (ok : Gok K g) (so : SlOk K g0 g σ sl) (h : lstAt i sl g.S = true) : ∃ a vs, σ[i]? = some (some (.ref a)) ∧ g.H a = some (.lst vs) := by
  unfold lstAt at h
  split at h
  · rename_i xs e
    obtain ⟨v, q1, a, o, q2, h1, h2, _⟩ := so.at_ i _ e
    obtain ⟨_, vs, rfl, _⟩ := h2
    exact ⟨a, vs, by rw [q1, q2], h1⟩
  · rename_i j e
    obtain ⟨v, q1, x, q2, rj⟩ := so.at_ i _ e
    cases rj with | ref ra =>
    rename_i a
    have hj : j < g.S.length := of_decide_eq_true h
    obtain ⟨cc, ec⟩ : ∃ cc, g.S[j]? = some cc := ⟨_, List.getElem?_eq_getElem hj⟩
    obtain ⟨o, h1, h2, _⟩ := ok.sto j a cc ra ec
    cases cc with | lst ys =>
    obtain ⟨_, vs, rfl, _⟩ := h2
    exact ⟨a, vs, by rw [q1, q2], h1⟩
  · cases h
/-- a name's list is changed -/
theorem chg_ok {i : Nat} {f : List D → Option (List D)} {sl' : Slots} {S' : Sto} (ok : Gok K g) (so : SlOk K g0 g σ sl) (s0 : Stp g0 g) (h : chg i f sl g.S = some (sl', S')) :
    ∃ a xs ys vs, σ[i]? = some (some (.ref a)) ∧ g.H a = some (.lst vs) ∧ g.Reps K xs vs ∧ xs.length ≤ sizeLine ∧ f xs = some ys ∧ ∀ us, g.Reps K ys us → ys.length ≤ sizeLine →
      ∃ g1 : Gh, g1.H = upd g.H a (.lst us) ∧ g1.S = S' ∧ Gok K g1 ∧ Stp g0 g1 ∧ Gro g g1 ∧ SlOk K g0 g1 σ sl' := by
  unfold chg at h
  split at h
  · rename_i xs e
    obtain ⟨ys, e1, e2⟩ := Option.map_eq_some_iff.mp h
    cases e2
    obtain ⟨v, q1, a, o, q2, h1, h2, h3, h4, h5⟩ := so.at_ i _ e
    obtain ⟨l, vs, rfl, r⟩ := h2
    subst q2
    refine ⟨a, xs, ys, vs, q1, h1, r, l, e1, fun us ru lu => ⟨g.setH a (.lst us), rfl, rfl, ok.setH h3 h4, s0.setH h5 h1, Gro.setH (Gro.refl g), ?_⟩⟩
    have hil : i < sl.length := (List.getElem?_eq_some_iff.mp e).1
    refine ⟨by rw [List.length_set]; exact so.len, fun j s ej => ?_, fun j k c1 c2 b e1' e2' hne e3 e4 => ?_⟩
    · by_cases hj : i = j
      · subst hj
        rw [List.getElem?_set_self hil] at ej
        cases ej
        exact ⟨_, q1, a, .lst us, rfl, upd_same, ⟨lu, us, rfl, (Gro.setH (Gro.refl g)).reps ru⟩, h3, h4, h5⟩
      · rw [List.getElem?_set_ne hj] at ej
        obtain ⟨w, f1, f2⟩ := so.at_ j s ej
        refine ⟨w, f1, ?_⟩
        cases s with
        | emp => trivial
        | val d => obtain ⟨x, p1, p2⟩ := f2; exact ⟨x, p1, (Gro.setH (Gro.refl g)).rep p2⟩
        | own c' =>
          obtain ⟨b, o', p1, p2, p3, p4, p5, p6⟩ := f2
          have hb : b ≠ a := fun z => by
            subst z
            exact so.sep i j _ c' b e ej hj q1 (by rw [f1, p1])
          refine ⟨b, o', p1, ?_, (Gro.setH (Gro.refl g)).crep p3, p4, p5, p6⟩
          show upd g.H a (.lst us) b = _
          rw [upd_ne hb]; exact p2
    · have nn : ∀ {m : Nat} {c' : Cn}, (sl.set i (.own (.lst ys)))[m]? = some (.own c') → ∃ c'', sl[m]? = some (.own c'') := fun {m c'} q => by
        by_cases hm : i = m
        · subst hm; exact ⟨_, e⟩
        · rw [List.getElem?_set_ne hm] at q; exact ⟨_, q⟩
      obtain ⟨d1, z1⟩ := nn e1'
      obtain ⟨d2, z2⟩ := nn e2'
      exact so.sep j k d1 d2 b z1 z2 hne e3 e4
  · rename_i j e
    split at h
    · rename_i xs e'
      obtain ⟨ys, e1, e2⟩ := Option.map_eq_some_iff.mp h
      cases e2
      obtain ⟨v, q1, x, q2, rj⟩ := so.at_ i _ e
      cases rj with | ref ra =>
      rename_i a
      subst q2
      obtain ⟨o, h1, h2, h3⟩ := ok.sto j a _ ra e'
      obtain ⟨l, vs, rfl, r⟩ := h2
      have gr : ∀ us, Gro g ⟨upd g.H a (.lst us), g.R, g.sa, g.S.set j (.lst ys)⟩ := fun us => ⟨fun _ _ q => q, ⟨[], by simp⟩⟩
      have ha : a ∈ g.sa := List.mem_of_getElem? ra
      refine ⟨a, xs, ys, vs, q1, h1, r, l, e1, fun us ru lu => ⟨⟨upd g.H a (.lst us), g.R, g.sa, g.S.set j (.lst ys)⟩, rfl, rfl, ⟨fun b u q => ?_, ?_, ok.nd, fun k b c' p1 p2 => ?_⟩, ⟨fun b u q n => ?_, fun b q => ?_, s0.rr, s0.rn, s0.sp, s0.sn⟩, gr us, ?_⟩⟩
      · show upd g.H a (.lst us) b = some u
        rw [upd_ne (fun z : b = a => by rw [z] at q; exact absurd (h3.symm.trans q) (by simp))]
        exact ok.sub b u q
      · show g.sa.length = (g.S.set j (.lst ys)).length
        rw [List.length_set]; exact ok.len
      · have p2' : (g.S.set j (.lst ys))[k]? = some c' := p2
        have p1' : g.sa[k]? = some b := p1
        by_cases hk : j = k
        · subst hk
          rw [ra] at p1'
          cases p1'
          rw [List.getElem?_set_self (List.getElem?_eq_some_iff.mp e').1] at p2'
          cases p2'
          exact ⟨.lst us, upd_same, ⟨lu, us, rfl, (gr us).reps ru⟩, h3⟩
        · rw [List.getElem?_set_ne hk] at p2'
          obtain ⟨u, f1, f2, f3⟩ := ok.sto k b c' p1' p2'
          have hb : b ≠ a := fun z => by
            subst z
            obtain ⟨l1, m1⟩ := List.getElem?_eq_some_iff.mp ra
            obtain ⟨l2, m2⟩ := List.getElem?_eq_some_iff.mp p1'
            exact hk ((List.getElem_inj ok.nd).mp (m1.trans m2.symm))
          refine ⟨u, ?_, (gr us).crep f2, f3⟩
          show upd g.H a (.lst us) b = some u
          rw [upd_ne hb]; exact f1
      · show upd g.H a (.lst us) b = some u
        by_cases hb : b = a
        · subst hb
          have := s0.sn b ha n
          rw [q] at this; cases this
        · rw [upd_ne hb]; exact s0.hp b u q n
      · have q' : upd g.H a (.lst us) b = none := q
        by_cases hb : b = a
        · subst hb; rw [upd_same] at q'; cases q'
        · rw [upd_ne hb] at q'; exact s0.dom b q'
      · refine ⟨so.len, fun k s ek => ?_, so.sep⟩
        obtain ⟨w, f1, f2⟩ := so.at_ k s ek
        refine ⟨w, f1, ?_⟩
        cases s with
        | emp => trivial
        | val d => obtain ⟨x, p1, p2⟩ := f2; exact ⟨x, p1, (gr us).rep p2⟩
        | own c' =>
          obtain ⟨b, o', p1, p2, p3, p4, p5, p6⟩ := f2
          refine ⟨b, o', p1, ?_, (gr us).crep p3, p4, p5, p6⟩
          show upd g.H a (.lst us) b = _
          rw [upd_ne (fun z : b = a => p5 (z ▸ ha))]; exact p2
    · cases h
  · cases h
end
end Px

set_option Elab.async false
set_option linter.all false
set_option maxRecDepth 100000
set_option maxHeartbeats 1000000
/-! Px, part P: the small statements. -/
namespace Px
open PySem PySem.Spec PyProof.Rows L2
section
variable {X : Cx} {F : Cf} {fns gls : List String} {n : Nat} {E : XK} {e v : Expr} {pos : Pos}
abbrev rS (X : Cx) (E : XK) (F : Cf) (s : Sx) : TS := rdS X.K E (exS F s)
abbrev rB (X : Cx) (E : XK) (F : Cf) (s : Sxs) : TS := rdS X.K E (exB F s)
/-- the end of a statement that goes on -/
theorem PostS.next {K : PySem.W.Frag} {g0 g : Gh} {σ : L2.St} {sl : Slots} {S : Sto} {D : Ends} (h : PostS K E g0 g (.ok (.nx, sl) S) D) (e : g.S = S) (ok : Gok K g) (st : Stp g0 g) (so : SlOk K g0 g σ sl) : D.nx σ g.H :=
  h g σ e ok st (Gro.refl g) so
theorem asg_read {i : Nat} {x : Ex} {D : Ends} {σ : L2.St} {H : Hp} {K : PySem.W.Frag} (h : rdS K E (exS F (.asg (.nm i) x)) D σ H) : tAsg (rdE K E (evE F x)) (gName i) D σ H := by
  obtain ⟨g0, g, sl, eH, ok, so, st, h⟩ := h
  subst eH
  unfold exS at h
  refine ⟨g0, g, sl, rfl, ok, so, PostS.bind st h fun g1 r v ok1 st1 r1 h1 => ?_⟩
  cases e1 : asgV i r sl with
  | none => rw [e1] at h1; exact h1.elim
  | some sl' =>
    rw [e1] at h1
    exact PostS.next h1 rfl ok1 (st.trans st1) (asg_ok so st st1 r1 e1)
theorem st_asg {i : Nat} {x : Str} {px : Pos} {y : Ex} (hN : X.N.Nodup) (hi : X.N[i]? = some x) (hx : Loc X.env.scope x) (hf : X.fn x = true ∨ X.env.scope.names.lookup x = some .local) (he : PE X v (rdE X.K E (evE F y))) (hs : swapsWith v (some (.Name x px)) pos.line X.env = pure false) :
    PS X (.Assign [.Name x px] v pos) (rS X E F (.asg (.nm i) y)) := PS.imp (ps_set hN hi hx he hs hf) fun D σ H h => asg_read h
/-- a, b = e, where e is no pair that is swapped -/
theorem st_tup {ts : Tgs} {es : List Expr} {k : Nat} {q : Pos} {y : Ex} (hc : X.calm = true) (hN : X.N.Nodup) (hg : chkG (tx X fns gls) (.tup ts) (.Tuple es k q) = true) (he : PE X v (rdE X.K E (evE F y)))
    (hs : swapsWithSole [.Tuple es k q] v pos.line X.env = pure false) (hw : swappedStores [.Tuple es k q] v X.env = pure none) : PS X (.Assign [.Tuple es k q] v pos) (rS X E F (.asg (.tup ts) y)) :=
  PS.imp (ps_asg he (sG hc hN _ _ hg) hs hw (by rfl)) fun D σ H ⟨g0, g, sl, eH, ok, so, st, h⟩ => by
    subst eH
    unfold exS at h
    refine ⟨g0, g, sl, rfl, ok, so, PostS.data st so h fun g1 d v ok1 st1 so1 r1 h1 => ?_⟩
    cases e1 : bindT (.tup ts) d sl with
    | none => rw [e1] at h1; exact h1.elim
    | some sl' =>
      rw [e1] at h1
      exact ⟨g0, g1, sl, d, sl', rfl, ok1, so1, r1, e1, fun σ' so' _ => PostS.next h1 rfl ok1 (st.trans st1) so'⟩
theorem st_unl {ts : Tgs} {es : List Expr} {k : Nat} {q : Pos} {y : Ex} (hc : X.calm = true) (hN : X.N.Nodup) (hg : chkGs (tx X fns gls) ts es = true) (he : PE X v (rdE X.K E (evE F y)))
    (hs : swapsWithSole [.Tuple es k q] v pos.line X.env = pure false) (hw : swappedStores [.Tuple es k q] v X.env = pure none) : PS X (.Assign [.Tuple es k q] v pos) (rS X E F (.asgL ts y)) := by
  obtain ⟨c1, c2⟩ := chkGs_each (env := X.env) hg
  refine PS.imp (ps_asg he (pg_unl hc (sGs hc hN ts es hg) c1 c2) hs hw (by rfl)) fun D σ H ⟨g0, g, sl, eH, ok, so, st, h⟩ => ?_
  subst eH
  unfold exS at h
  refine ⟨g0, g, sl, rfl, ok, so, PostS.bind st h fun g1 r v ok1 st1 r1 h1 => ?_⟩
  have key : ∀ xs, listOf r g1.S = some xs → ∃ a vs, v = .ref a ∧ SqL X.K g1.H a vs ∧ g1.Reps X.K xs vs := fun xs hx => by
    cases r with
    | val d =>
      cases d with
      | ref j =>
        have r1' : g1.Rep X.K (.ref j) v := r1
        cases r1' with | ref ra =>
        rename_i a
        have hx' : (match g1.S[j]? with | some (.lst xs) => some xs | none => none) = some xs := hx
        cases ej : g1.S[j]? with
        | none => rw [ej] at hx'; cases hx'
        | some c =>
          rw [ej] at hx'
          cases c with | lst ys =>
          cases hx'
          obtain ⟨o, h1, h2, _⟩ := ok1.sto j a _ ra ej
          obtain ⟨l, vs, rfl, q⟩ := h2
          exact ⟨a, vs, rfl, SqL.of h1, q⟩
      | lst ys =>
        obtain rfl : ys = xs := Option.some.inj hx
        have r1' : g1.Rep X.K (.lst ys) v := r1
        cases r1' with | lst a l q => exact ⟨_, _, rfl, SqL.of (ok1.sub _ _ a), q⟩
      | _ => cases hx
    | fresh c =>
      cases c with | lst ys =>
      cases hx
      obtain ⟨a, o, rfl, h1, h2, _⟩ := r1
      obtain ⟨l, vs, rfl, q⟩ := h2
      exact ⟨a, vs, rfl, SqL.of h1, q⟩
    | own c =>
      cases c with | lst ys =>
      cases hx
      obtain ⟨a, o, rfl, h1, h2, _⟩ := r1
      obtain ⟨l, vs, rfl, q⟩ := h2
      exact ⟨a, vs, rfl, SqL.of h1, q⟩
  cases e0 : listOf r g1.S with
  | none => rw [e0] at h1; exact h1.elim
  | some xs =>
    rw [e0] at h1
    dsimp only at h1
    obtain ⟨a, vs, rfl, hq, q⟩ := key xs e0
    cases e1 : bindTs ts xs sl with
    | none => rw [e1] at h1; exact h1.elim
    | some sl' =>
      rw [e1] at h1
      refine ⟨a, vs, rfl, hq, by rw [← q.length]; exact bindTs_len e1, g0, g1, sl, xs, sl', rfl, ok1, so.step st1, q, e1, fun σ' so' _ => PostS.next h1 rfl ok1 (st.trans st1) so'⟩
def ipS (f : Int → Int → Int) : TIp := ipI f
theorem st_aug {i : Nat} {x : Str} {px : Pos} {y : Ex} {o : Bop} {f : Int → Int → Int} (hN : X.N.Nodup) (hi : X.N[i]? = some x) (hx : Loc X.env.scope x) (hf : X.fn x = true ∨ X.env.scope.names.lookup x = some .local) (he : PE X v (rdE X.K E (evE F y)))
    (ho : PIp X o.op (ipI f)) (hfo : ∀ a b, opBin o (.val (.int a)) (.val (.int b)) = some (.val (.int (f a b)))) : PS X (.AugAssign (.Name x px) o.op v pos) (rS X E F (.aug i o y)) :=
  PS.imp (ps_aug hN hi hx he ho hf) fun D σ H ⟨g0, g, sl, eH, ok, so, st, h⟩ => by
    subst eH
    unfold exS at h
    split at h
    · rename_i a e1
      obtain ⟨w, e2, z, e3, rz⟩ := so.at_ i _ e1
      cases rz
      refine ⟨.int a, by rw [e2, e3], g0, g, sl, rfl, ok, so, PostS.bind st h fun g1 r v ok1 st1 r1 h1 => ?_⟩
      have l1 := r1.lookR ok1
      generalize r.look = d at h1 l1
      split at h1
      · cases l1.int
        rename_i b
        rw [hfo] at h1
        exact ⟨a, b, rfl, rfl, PostS.next h1 rfl ok1 (st.trans st1) ((so.step st1).setVal i (.int _))⟩
      · exact h1.elim
    · exact h.elim
theorem st_setix {i : Nat} {x : Str} {px q : Pos} {z : Expr} {k y : Ex} (hz : ∀ l u s p, z ≠ .Slice l u s p) (hi : X.N[i]? = some x) (hx : Vis X.env.scope x) (hd : (x == ("__debug__" : Str)) = false) (hcd : (x == ("__classdict__" : Str)) = false) (hk : PE X z (rdE X.K E (evE F k))) (he : PE X v (rdE X.K E (evE F y)))
    (hs : swapsWithSole [.Subscript (.Name x px) z q] v pos.line X.env = pure false) (hw : swappedStores [.Subscript (.Name x px) z q] v X.env = pure none) :
    PS X (.Assign [.Subscript (.Name x px) z q] v pos) (rS X E F (.setix i k y)) :=
  PS.imp (ps_asg he (pg_sub (pe_var hi hx hd hcd) hk set_list (by intro _; cases z <;> first | rfl | exact absurd rfl (hz _ _ _ _))) hs hw (by rfl)) fun D σ H ⟨g0, g, sl, eH, ok, so, st, h⟩ => by
    subst eH
    unfold exS at h
    refine ⟨g0, g, sl, rfl, ok, so, PostS.data st so h fun g1 d v ok1 st1 so1 r1 h1 => ?_⟩
    split at h1
    case isFalse => exact h1.elim
    rename_i hla
    obtain ⟨a, vs0, ea, _⟩ := lstAt_ok ok1 so1 hla
    refine ⟨.ref a, ea, g0, g1, sl, rfl, ok1, so1, PostS.int (st.trans st1) h1 fun g2 j ok2 st2 h2 => ?_⟩
    have so2 := so1.step st2
    have r2 := st2.gro.rep r1
    cases e1 : chg i (setD · j d) sl g2.S with
    | none => rw [e1] at h2; exact h2.elim
    | some p =>
      obtain ⟨sl', S'⟩ := p
      rw [e1] at h2
      obtain ⟨a', xs, ys, vs, q1, q2, q3, q4, q5, q6⟩ := chg_ok ok2 so2 (st.trans (st1.trans st2)) e1
      rw [ea] at q1
      cases q1
      obtain ⟨m, em, rfl⟩ := Option.map_eq_some_iff.mp q5
      obtain ⟨g3, p1, p2, p3, p4, p5, p6⟩ := q6 (vs.set m v) (q3.set m r2) (by rw [List.length_set]; exact q4)
      refine ⟨a, vs, j, m, rfl, rfl, q2, by rw [← q3.length]; exact em, ?_⟩
      rw [← p1]
      exact h2 g3 σ p2 p3 p4 p5 p6
theorem st_app {i : Nat} {x m : Str} {px ap cp : Pos} {y : Expr} {z : Ex} (hm : m = sO "append") (hi : X.N[i]? = some x) (hx : Vis X.env.scope x) (hd : (x == ("__debug__" : Str)) = false) (hcd : (x == ("__classdict__" : Str)) = false) (hst : notStar y = true) (hl : (ap.endLine == cp.line) = true) (he : PE X y (rdE X.K E (evE F z))) :
    PS X (.Expr (.Call (.Attribute (.Name x px) m ap) [y] [] cp) pos) (rS X E F (.app i z)) := by
  subst hm
  have hs := star_cons (env := X.env) (es := []) hst
  refine PS.imp (ps_expr (pe_bm PySem.F.plainAttrs_list PySem.F.slot_list_append PySem.F.type_list_append mt_append (pe_var hi hx hd hcd) (pa_cons he pa_nil hs) (by rfl) (by rw [hs]; rfl) hl hs (by rfl)) (by rfl)) fun D σ H ⟨g0, g, sl, eH, ok, so, st, h⟩ => ?_
  subst eH
  unfold exS at h
  split at h
  case isFalse => exact h.elim
  rename_i hla
  obtain ⟨a, vs0, ea, ha0⟩ := lstAt_ok ok so hla
  refine ⟨.ref a, ea, .inl ⟨rfl, vs0, SqL.of ha0⟩, g0, g, sl, rfl, ok, so, PostS.data st so h fun g1 d v ok1 st1 so1 r1 h1 => ?_⟩
  cases e1 : chg i (appD · d) sl g1.S with
  | none => rw [e1] at h1; exact h1.elim
  | some p =>
    obtain ⟨sl', S'⟩ := p
    rw [e1] at h1
    obtain ⟨a', xs, ys, vs, q1, q2, q3, q4, q5, q6⟩ := chg_ok ok1 so1 (st.trans st1) e1
    rw [ea] at q1
    cases q1
    unfold appD at q5
    split at q5
    case isFalse => cases q5
    rename_i hz
    cases q5
    obtain ⟨g3, p1, p2, p3, p4, p5, p6⟩ := q6 (vs ++ [v]) (q3.append (.one r1)) (by rw [List.length_append]; exact hz)
    refine ⟨a, vs, v, rfl, rfl, q2, by rw [← q3.length]; exact hz, ?_⟩
    rw [← p1]
    exact h1 g3 σ p2 p3 p4 p5 p6
theorem st_ins {i : Nat} {x m : Str} {px ap cp : Pos} {y : Expr} {z : Ex} (hm : m = sO "insert") {kc : Nat} {pc : Pos} (hi : X.N[i]? = some x) (hx : Vis X.env.scope x) (hd : (x == ("__debug__" : Str)) = false) (hcd : (x == ("__classdict__" : Str)) = false) (hst : notStar y = true) (hl : (ap.endLine == cp.line) = true) (he : PE X y (rdE X.K E (evE F z))) :
    PS X (.Expr (.Call (.Attribute (.Name x px) m ap) [.Constant (.int 0) kc pc, y] [] cp) pos) (rS X E F (.ins0 i z)) := by
  subst hm
  have hs := star_cons (env := X.env) (es := []) hst
  have hs2 : starEach [.Constant (.int 0) kc pc, y] X.env = (false, eval (.Constant (.int 0) kc pc) X.env) :: starEach [y] X.env := rfl
  refine PS.imp (ps_expr (pe_bm PySem.F.plainAttrs_list PySem.F.slot_list_insert PySem.F.type_list_insert mt_insert (pe_var hi hx hd hcd) (pa_cons pe_int (pa_cons he pa_nil hs)) (by rfl) (by rw [hs2, hs]; rfl) hl hs2 (by rw [hs]; rfl)) (by rfl)) fun D σ H ⟨g0, g, sl, eH, ok, so, st, h⟩ => ?_
  subst eH
  unfold exS at h
  split at h
  case isFalse => exact h.elim
  rename_i hla
  obtain ⟨a, vs0, ea, ha0⟩ := lstAt_ok ok so hla
  refine ⟨.ref a, ea, .inl ⟨rfl, vs0, SqL.of ha0⟩, g0, g, sl, rfl, ok, so, PostS.data st so h fun g1 d v ok1 st1 so1 r1 h1 => ?_⟩
  cases e1 : chg i (insD · d) sl g1.S with
  | none => rw [e1] at h1; exact h1.elim
  | some p =>
    obtain ⟨sl', S'⟩ := p
    rw [e1] at h1
    obtain ⟨a', xs, ys, vs, q1, q2, q3, q4, q5, q6⟩ := chg_ok ok1 so1 (st.trans st1) e1
    rw [ea] at q1
    cases q1
    unfold insD at q5
    split at q5
    case isFalse => cases q5
    rename_i hz
    cases q5
    obtain ⟨g3, p1, p2, p3, p4, p5, p6⟩ := q6 (v :: vs) (.cons r1 q3) (by rw [List.length_cons]; exact hz)
    refine ⟨a, vs, 0, v, rfl, rfl, q2, by rw [← q3.length]; exact hz, by decide, by decide, ?_⟩
    show D.nx σ (upd g1.H a (.lst ([] ++ [v] ++ vs)))
    rw [List.nil_append, List.singleton_append, ← p1]
    exact h1 g3 σ p2 p3 p4 p5 p6
theorem st_ext {i : Nat} {x m : Str} {px ap cp : Pos} {y : Expr} {z : Ex} (hm : m = sO "extend") (hi : X.N[i]? = some x) (hx : Vis X.env.scope x) (hd : (x == ("__debug__" : Str)) = false) (hcd : (x == ("__classdict__" : Str)) = false) (hst : notStar y = true) (hl : (ap.endLine == cp.line) = true) (he : PE X y (rdE X.K E (evE F z))) :
    PS X (.Expr (.Call (.Attribute (.Name x px) m ap) [y] [] cp) pos) (rS X E F (.ext i z)) := by
  subst hm
  have hs := star_cons (env := X.env) (es := []) hst
  have core : ∀ {r : V → List V → Hp → VK → Prop}, MtM X "list.extend" r → PS X (.Expr (.Call (.Attribute (.Name x px) (sO "extend") ap) [y] [] cp) pos) _ := fun {r} hr =>
    ps_expr (pe_bm PySem.F.plainAttrs_list PySem.F.slot_list_extend PySem.F.type_list_extend hr (pe_var hi hx hd hcd) (pa_cons he pa_nil hs) (by rfl) (by rw [hs]; rfl) hl hs (by rfl)) (by rfl)
  have both : MtM X "list.extend" (fun x vs H Q => rExtend x vs H Q ∨ rExtT X.K x vs H Q) := fun pins s σ H x vs v us Q I rx rv h =>
    h.elim (mt_extend pins s σ H x vs v us Q I rx rv) (mt_extT pins s σ H x vs v us Q I rx rv)
  refine PS.imp (core both) fun D σ H ⟨g0, g, sl, eH, ok, so, st, h⟩ => ?_
  subst eH
  unfold exS at h
  split at h
  case isFalse => exact h.elim
  rename_i hla
  obtain ⟨a, vs0, ea, ha0⟩ := lstAt_ok ok so hla
  refine ⟨.ref a, ea, .inl ⟨rfl, vs0, SqL.of ha0⟩, g0, g, sl, rfl, ok, so, PostS.bind st h fun g1 r v ok1 st1 r1 h1 => ?_⟩
  have l1 := r1.lookR ok1
  generalize r.look = d at h1 l1
  have so1 := so.step st1
  cases hseq : d.seq with
  | none => rw [hseq] at h1; exact h1.elim
  | some ds =>
    rw [hseq] at h1
    dsimp only at h1
    cases e1 : chg i (extD · ds) sl g1.S with
    | none => rw [e1] at h1; exact h1.elim
    | some p =>
      obtain ⟨sl', S'⟩ := p
      rw [e1] at h1
      obtain ⟨a', xs, ys, vs, q1, q2, q3, q4, q5, q6⟩ := chg_ok ok1 so1 (st.trans st1) e1
      rw [ea] at q1
      cases q1
      unfold extD at q5
      split at q5
      case isFalse => cases q5
      rename_i hz
      cases q5
      cases d <;> first | cases hseq | skip
      · obtain ⟨b, us, rfl, s1, t1, z1, k1⟩ := l1.tup ok1
        obtain ⟨g3, p1, p2, p3, p4, p5, p6⟩ := q6 (vs ++ us) (q3.append k1) (by rw [List.length_append]; exact hz)
        refine .inr ⟨a, b, vs, us, rfl, rfl, q2, t1, by rw [← q3.length, ← k1.length]; exact hz, ?_⟩
        rw [← p1]
        exact h1 g3 σ p2 p3 p4 p5 p6
      · obtain ⟨b, us, rfl, hb, z1, k1⟩ := l1.lst
        obtain ⟨g3, p1, p2, p3, p4, p5, p6⟩ := q6 (vs ++ us) (q3.append k1) (by rw [List.length_append]; exact hz)
        refine .inl ⟨a, b, vs, us, rfl, rfl, q2, hb, by rw [← q3.length, ← k1.length]; exact hz, ?_⟩
        rw [← p1]
        exact h1 g3 σ p2 p3 p4 p5 p6
/-- a shared thing's slots stay -/
theorem SlOk.stoStep {K : PySem.W.Frag} {g0 g g' : Gh} {σ : L2.St} {sl : Slots} (h : SlOk K g0 g σ sl) (st : Stp g g') : SlOk K g0 g' σ sl := h.step st
theorem st_setixr {b z v : Expr} {q : Pos} {x k y : Ex} (hz : ∀ l u s p, z ≠ .Slice l u s p) (hb : PE X b (rdE X.K E (evE F x))) (hk : PE X z (rdE X.K E (evE F k))) (he : PE X v (rdE X.K E (evE F y)))
    (hs : swapsWithSole [.Subscript b z q] v pos.line X.env = pure false) (hw : swappedStores [.Subscript b z q] v X.env = pure none) :
    PS X (.Assign [.Subscript b z q] v pos) (rS X E F (.setixr x k y)) :=
  PS.imp (ps_asg he (pg_sub hb hk set_list (by intro _; cases z <;> first | rfl | exact absurd rfl (hz _ _ _ _))) hs hw (by rfl)) fun D σ H ⟨g0, g, sl, eH, ok, so, st, h⟩ => by
    subst eH
    unfold exS at h
    refine ⟨g0, g, sl, rfl, ok, so, PostS.data st so h fun g1 d v ok1 st1 so1 r1 h1 => ?_⟩
    refine ⟨g0, g1, sl, rfl, ok1, so1, PostS.bind (st.trans st1) h1 fun g2 r w ok2 st2 r2 h2 => ?_⟩
    refine ⟨g0, g2, sl, rfl, ok2, so1.step st2, PostS.int (st.trans (st1.trans st2)) h2 fun g3 j ok3 st3 h3 => ?_⟩
    have r1 := st3.gro.rep (st2.gro.rep r1)
    have r2 := r2.after st3
    have so3 := (so1.step st2).step st3
    split at h3
    case h_2 => exact h3.elim
    rename_i m xs er
    obtain ⟨a1, vs, e2, q1, q2, q3, q4, q5, q6⟩ := refAt_ok ok3 r2 er
    split at h3
    case h_2 => exact h3.elim
    rename_i ys ey
    obtain ⟨i, ei, rfl⟩ := Option.map_eq_some_iff.mp ey
    obtain ⟨g4, p1, p2, p3, p4, p5, p6⟩ := sto_set ok3 q1 q2 q3 q4 (q6.set i r1) (by rw [List.length_set]; exact q5)
    refine ⟨a1, vs, j, i, e2, rfl, q3, by rw [← q6.length]; exact ei, ?_⟩
    rw [← p1]
    exact h3 g4 σ p2 p3 (st.trans (st1.trans (st2.trans (st3.trans p4)))) p4.gro (so3.step p4)
end
end Px

set_option Elab.async false
set_option linter.all false
set_option maxRecDepth 100000
set_option maxHeartbeats 1000000
/-! Px, part Q: blocks, loops. -/
namespace Px
open PySem PySem.Spec PyProof.Rows L2
section
variable {X : Cx} {F : Cf} {fns gls : List String} {n : Nat} {E : XK} {e v : Expr} {pos : Pos}
theorem b_nil : PSs X [] (rB X E F .nil) := PSs.imp pss_nil fun D σ H ⟨g0, g, sl, eH, ok, so, st, h⟩ => by
  subst eH
  unfold exB at h
  exact PostS.next h rfl ok st so
theorem b_cons {s : Stmt} {ss : List Stmt} {y : Sx} {ys : Sxs} (h1 : PS X s (rS X E F y)) (h2 : PSs X ss (rB X E F ys)) : PSs X (s :: ss) (rB X E F (.cons y ys)) :=
  PSs.imp (pss_cons h1 h2) fun D σ H ⟨g0, g, sl, eH, ok, so, st, h⟩ => by
    subst eH
    unfold exB at h
    refine ⟨g0, g, sl, rfl, ok, so, st, ?_⟩
    cases e1 : exS F y sl g.S with
    | stuck => rw [e1] at h; exact h
    | exc x S => rw [e1] at h; exact h
    | ok p S =>
      rw [e1, Res.bind_ok] at h
      obtain ⟨f, sl1⟩ := p
      intro g' σ' eS ok' st' gr' so'
      subst eS
      cases f with
      | nx => exact ⟨g0, g', sl1, rfl, ok', so', st', h.shift gr'⟩
      | bk => exact h g' σ' rfl ok' st' gr' so'
      | ct => exact h g' σ' rfl ok' st' gr' so'
      | rt r => exact h g' σ' rfl ok' st' gr' so'
theorem exS_frz {i : Nat} {sl : Slots} {S : Sto} : exS F (.frz i) sl S = match sl[i]? with
    | some (.own c) => .ok (.nx, sl.set i (.val c.frz)) S
    | some (.val _) => .ok (.nx, sl) S
    | _ => .stuck := by (first | rfl | (simp only [exS]; rfl))
theorem exS_shr {i : Nat} {sl : Slots} {S : Sto} : exS F (.shr i) sl S = match sl[i]? with
    | some (.own c) => .ok (.nx, sl.set i (.val (.ref S.length))) (S ++ [c])
    | _ => .stuck := by (first | rfl | (simp only [exS]; rfl))
theorem b_frz {i : Nat} {ss : List Stmt} {ys : Sxs} (h : PSs X ss (rB X E F ys)) : PSs X ss (rB X E F (.cons (.frz i) ys)) :=
  PSs.imp h fun D σ H ⟨g0, g, sl, eH, ok, so, st, h⟩ => by
    subst eH
    unfold exB at h
    rw [exS_frz] at h
    split at h
    · rename_i c e1
      rw [Res.bind_ok] at h
      obtain ⟨g1, q1, q2, q3, q4, q5, q6⟩ := frz_ok ok so st e1
      refine ⟨g0, g1, _, q1, q3, q6, q4, ?_⟩
      rw [q2]
      exact h.shift q5
    · rw [Res.bind_ok] at h
      exact ⟨g0, g, sl, rfl, ok, so, st, h⟩
    · exact h.elim
theorem b_shr {i : Nat} {ss : List Stmt} {ys : Sxs} (h : PSs X ss (rB X E F ys)) : PSs X ss (rB X E F (.cons (.shr i) ys)) :=
  PSs.imp h fun D σ H ⟨g0, g, sl, eH, ok, so, st, h⟩ => by
    subst eH
    unfold exB at h
    rw [exS_shr] at h
    split at h
    · rename_i c e1
      rw [Res.bind_ok] at h
      obtain ⟨g1, q1, q2, q3, q4, q5, q6⟩ := shr_ok ok so st e1
      refine ⟨g0, g1, _, q1, q3, q6, q4, ?_⟩
      rw [q2]
      exact h.shift q5
    · exact h.elim
theorem st_expr {y : Ex} (he : PE X v (rdE X.K E (evE F y))) (hs : swapsWith v none pos.line X.env = pure false) : PS X (.Expr v pos) (rS X E F (.expr y)) :=
  PS.imp (ps_expr he hs) fun D σ H ⟨g0, g, sl, eH, ok, so, st, h⟩ => by
    subst eH
    unfold exS at h
    exact ⟨g0, g, sl, rfl, ok, so, PostS.bind st h fun g1 r v ok1 st1 r1 h1 => PostS.next h1 rfl ok1 (st.trans st1) (so.step st1)⟩
theorem st_ret {y : Ex} (he : PE X v (rdE X.K E (evE F y))) : PS X (.Return (some v) pos) (rS X E F (.ret y)) :=
  PS.imp (ps_ret he) fun D σ H ⟨g0, g, sl, eH, ok, so, st, h⟩ => by
    subst eH
    unfold exS at h
    refine ⟨g0, g, sl, rfl, ok, so, PostS.bind st h fun g1 r v ok1 st1 r1 h1 => ?_⟩
    cases r with
    | own c => exact h1.elim
    | val d => exact h1 g1 σ rfl ok1 (st.trans st1) (Gro.refl _) (so.step st1) v r1
    | fresh c => exact h1 g1 σ rfl ok1 (st.trans st1) (Gro.refl _) (so.step st1) v (r1.ahead st)
theorem st_retv {i : Nat} {x : Str} {px : Pos} (hi : X.N[i]? = some x) (hx : Vis X.env.scope x) (hd : (x == ("__debug__" : Str)) = false) (hcd : (x == ("__classdict__" : Str)) = false) : PS X (.Return (some (.Name x px)) pos) (rS X E F (.retv i)) :=
  PS.imp (ps_ret (pe_var hi hx hd hcd)) fun D σ H ⟨g0, g, sl, eH, ok, so, st, h⟩ => by
    subst eH
    unfold exS at h
    split at h
    · rename_i d e1
      obtain ⟨w, e2, x, e3, r⟩ := so.at_ i _ e1
      exact ⟨x, by rw [e2, e3], h g σ rfl ok st (Gro.refl _) so x r⟩
    · rename_i c e1
      obtain ⟨w, e2, a, o, e3, h1, h2, h3, h4, h5⟩ := so.at_ i _ e1
      exact ⟨.ref a, by rw [e2, e3], h g σ rfl ok st (Gro.refl _) so (.ref a) ⟨a, o, rfl, h1, h2, h3, h4, h5⟩⟩
    · exact h.elim
theorem st_retN : PS X (.Return none pos) (rS X E F .retN) :=
  PS.imp ps_retN fun D σ H ⟨g0, g, sl, eH, ok, so, st, h⟩ => by
    subst eH
    unfold exS at h
    exact h g σ rfl ok st (Gro.refl _) so .non .non
theorem st_brk : PS X (.Break pos) (rS X E F .brk) := PS.imp ps_break fun D σ H ⟨g0, g, sl, eH, ok, so, st, h⟩ => by
  subst eH; unfold exS at h; exact h g σ rfl ok st (Gro.refl _) so
theorem st_cont : PS X (.Continue pos) (rS X E F .cont) := PS.imp ps_continue fun D σ H ⟨g0, g, sl, eH, ok, so, st, h⟩ => by
  subst eH; unfold exS at h; exact h g σ rfl ok st (Gro.refl _) so
theorem st_pass : PS X (.Pass pos) (rS X E F .pass) := PS.imp ps_pass fun D σ H ⟨g0, g, sl, eH, ok, so, st, h⟩ => by
  subst eH; unfold exS at h; exact h g σ rfl ok st (Gro.refl _) so
theorem st_ife {t : Expr} {a b : List Stmt} {c : Ex} {x y : Sxs} (hc : PT X t (rdT X.K E fun sl S => (evE F c sl S).truth)) (ha : PSs X a (rB X E F x)) (hb : PSs X b (rB X E F y)) : PS X (.If t a b pos) (rS X E F (.ife c x y)) :=
  PS.imp (ps_if hc ha hb) fun D σ H ⟨g0, g, sl, eH, ok, so, st, h⟩ => by
    subst eH
    unfold exS at h
    refine ⟨g0, g, sl, rfl, ok, so, PostS.bind st h fun g1 k v ok1 st1 r1 h1 => ?_⟩
    subst r1
    cases v with
    | true => exact ⟨g0, g1, sl, rfl, ok1, so.step st1, st.trans st1, h1⟩
    | false => exact ⟨g0, g1, sl, rfl, ok1, so.step st1, st.trans st1, h1⟩
theorem whl_read {c : Slots → Sto → Res Bool} {b : Slots → Sto → Res (Fl × Slots)} {K : PySem.W.Frag} {D : Ends} {σ : L2.St} {H : Hp} {m : Nat} (h : rdS K E (whlN c b m) D σ H) : tWhile (rdT K E c) (rdS K E b) D σ H := by
  refine ⟨fun m σ H => rdS K E (whlN c b m) D σ H, ⟨m, h⟩, ?_⟩
  rintro m σ H ⟨g0, g, sl, eH, ok, so, st, h⟩
  subst eH
  cases m with
  | zero => exact h.elim
  | succ m =>
    unfold whlN at h
    refine ⟨g0, g, sl, rfl, ok, so, PostS.bind st h fun g1 k v ok1 st1 r1 h1 => ?_⟩
    subst r1
    have so1 := so.step st1
    have st01 := st.trans st1
    cases v with
    | false => exact PostS.next h1 rfl ok1 st01 so1
    | true =>
      rw [if_pos rfl] at h1 ⊢
      refine ⟨fun σ' H' => rdS K E (whlN c b m) D σ' H', fun σ' H' q => ⟨m, Nat.lt_succ_self m, q⟩, g0, g1, sl, rfl, ok1, so1, st01, ?_⟩
      cases e1 : b sl g1.S with
      | stuck => rw [e1] at h1; exact h1
      | exc x S => rw [e1] at h1; exact h1
      | ok p S =>
        rw [e1, Res.bind_ok] at h1
        obtain ⟨f, sl1⟩ := p
        intro g' σ' eS ok' st' gr' so'
        subst eS
        cases f with
        | nx => exact ⟨g0, g', sl1, rfl, ok', so', st', h1.shift gr'⟩
        | ct => exact ⟨g0, g', sl1, rfl, ok', so', st', h1.shift gr'⟩
        | bk => exact h1 g' σ' rfl ok' st' gr' so'
        | rt r => exact h1 g' σ' rfl ok' st' gr' so'
theorem st_whl {t : Expr} {b : List Stmt} {c : Ex} {y : Sxs} (hp : PassesOwn (model X.prog X.w) X.A X.env X.xe) (hc : PT X t (rdT X.K E fun sl S => (evE F c sl S).truth)) (hb : PSs X b (rB X E F y)) : PS X (.While t b [] pos) (rS X E F (.whl c y)) :=
  PS.imp (ps_while hp hc hb) fun D σ H ⟨g0, g, sl, eH, ok, so, st, h⟩ => by
    unfold exS at h
    exact whl_read (m := F.wf) ⟨g0, g, sl, eH, ok, so, st, h⟩
/-- a for's turns, from some place on -/
structure LoW (K : PySem.W.Frag) (E : XK) (g1 : Gh) (t : Tg) (items : List D) (b : Slots → Sto → Res (Fl × Slots)) (De : Ends) (i : Nat) (σ : L2.St) (H : Hp) : Prop where
  ex : ∃ g0 g2 sl, g2.H = H ∧ Gok K g2 ∧ SlOk K g0 g2 σ sl ∧ Stp g0 g2 ∧ Gro g1 g2 ∧ PostS K E g0 g2 (loopL t b (items.drop i) sl g2.S) De
theorem loop_read {it : Itx} {t : Tg} {b : Sxs} {K : PySem.W.Frag} {De : Ends} {σ : L2.St} {H : Hp} (h : rdS K E (exS F (.loop t it b)) De σ H) : tFor (rdI K E (evI F it)) (rdG K t) (rdS K E (exB F b)) De σ H := by
  obtain ⟨g0, g, sl, eH, ok, so, st, h⟩ := h
  subst eH
  unfold exS at h
  refine ⟨g0, g, sl, rfl, ok, so, PostS.bind st h fun g1 items J ok1 st1 it1 h1 => ?_⟩
  refine ⟨fun i m σ H => m = items.length - i ∧ i ≤ items.length ∧ LoW K E g1 t items (exB F b) De i σ H, ⟨items.length, by simp, Nat.zero_le _, ⟨g0, g1, sl, rfl, ok1, so.step st1, st.trans st1, Gro.refl _, h1⟩⟩, ?_⟩
  rintro i m σ H ⟨rfl, hi, ⟨g0, g2, sl, rfl, ok2, so2, st2, gr2, h2⟩⟩
  obtain ⟨go, stp⟩ := it1 g2 gr2 ok2 i
  cases ei : items[i]? with
  | none =>
    refine .inl ⟨stp ei, ?_⟩
    have e2 : items.drop i = [] := by rw [List.drop_eq_nil_iff]; exact List.getElem?_eq_none_iff.mp ei
    rw [e2] at h2
    exact PostS.next h2 rfl ok2 st2 so2
  | some d =>
    obtain ⟨g_go, yl⟩ := go d ei
    have hlt : i < items.length := (List.getElem?_eq_some_iff.mp ei).1
    have e2 : items.drop i = d :: items.drop (i + 1) := by
      rw [List.drop_eq_getElem_cons hlt]
      congr 1
      exact (List.getElem?_eq_some_iff.mp ei).2
    rw [e2] at h2
    unfold loopL at h2
    refine .inr ⟨g_go, fun σ' H' => LoW K E g1 t items (exB F b) De (i + 1) σ' H', fun σ' H' w => ⟨items.length - (i + 1), by omega, rfl, hlt, w⟩, fun x H' y => ?_⟩
    obtain ⟨g3, rfl, eS, ok3, st3, r3⟩ := yl x H' y
    rw [← eS] at h2
    cases eb : bindT t d sl with
    | none => rw [eb] at h2; exact h2.elim
    | some sl1 =>
      rw [eb] at h2
      dsimp only at h2
      have st23 := st2.trans st3
      refine ⟨g0, g3, sl, d, sl1, rfl, ok3, so2.step st3, r3, eb, fun σ1 so1' _ => ⟨g0, g3, sl1, rfl, ok3, so1', st23, ?_⟩⟩
      have h3 := h2.shift st3.gro
      have gr3 := gr2.trans st3.gro
      cases e1 : exB F b sl1 g3.S with
      | stuck => rw [e1] at h3; exact h3
      | exc x S => rw [e1] at h3; exact h3
      | ok p S =>
        rw [e1, Res.bind_ok] at h3
        obtain ⟨f, sl2⟩ := p
        intro g' σ' eS' ok' st' gr' so'
        subst eS'
        cases f with
        | nx => exact ⟨g0, g', sl2, rfl, ok', so', st', gr3.trans gr', h3.shift gr'⟩
        | ct => exact ⟨g0, g', sl2, rfl, ok', so', st', gr3.trans gr', h3.shift gr'⟩
        | bk => exact h3 g' σ' rfl ok' st' gr' so'
        | rt r => exact h3 g' σ' rfl ok' st' gr' so'
theorem st_loop {tg i : Expr} {b : List Stmt} {t : Tg} {it : Itx} {y : Sxs} (hp : PassesOwn (model X.prog X.w) X.A X.env X.xe) (hc : X.calm = true) (hi : PI X tg i (rdI X.K E (evI F it))) (hg : PG X tg (rdG X.K t)) (hb : PSs X b (rB X E F y)) (hs : ∀ x, foldedSetIterable i X.env x = pure x) :
    PS X (.For tg i b [] pos) (rS X E F (.loop t it y)) := PS.imp (ps_for hp hc hi hg hb hs) fun D σ H h => loop_read h
end

/-! ### the look at statements -/
def notLc : Expr → Bool
  | .ListComp _ _ _ _ => false
  | .SetComp _ _ _ _ => false
  | .DictComp _ _ _ _ _ => false
  | _ => true
def notTup : Expr → Bool
  | .Tuple _ _ _ => false
  | _ => true
/-- the right side of a tuple's target: the pair is made, or the stores are swapped -/
def tupC (es : List Expr) : Expr → Bool
  | .Tuple vs _ _ => !(es.length == 2 || es.length == 3) || vs.all (foldedForSure 8)
  | _ => true
def starB : Expr → Bool
  | .Starred .. => true
  | _ => false
/-- a, b = x, y (or three) of plain local names in one row: the stores are swapped, no tuple is tracked -/
def parC (sc : Scope) (es : List Expr) (v : Expr) : Bool :=
  match es, v with
  | [.Name x px, .Name y py], .Tuple [a, b] _ _ => lclB sc x && lclB sc y && (py.line == px.line) && decide (x ≠ y) && !(starB a || starB b) && !([a, b].all (foldedForSure 8)) && !([a, b].all (constantsAlone 8))
  | [.Name x px, .Name y py, .Name z pz], .Tuple [a, b, c] _ _ => lclB sc x && lclB sc y && lclB sc z && (py.line == px.line) && (pz.line == px.line) && decide (x ≠ y) && decide (x ≠ z) && decide (y ≠ z) && !(starB a || starB b || starB c) &&
      !([a, b, c].all (foldedForSure 8)) && !([a, b, c].all (constantsAlone 8))
  | _, _ => false
def cellB (sc : Scope) (x : Str) : Bool := match sc.names.lookup x with
  | some .cell => true
  | _ => false
def asgC (sc : Scope) (x : Str) (px : Pos) : Expr → Bool
  | .ListComp e gs scope q => cellB sc x || lclB sc x && (px.line == q.line) && !(scope.names.any fun (n, k) => n == x && (k == .local || k == .cell))
  | v => notLc v
def notShr : Ex → Bool
  | .shr _ => false
  | _ => true
mutual
def chkS (T : Tx) : Sx → Stmt → Bool
  | .asg (.nm i) e, .Assign [.Name x px] v _ => atB T.N i x && locB T.sc x && (T.fn x || lclB T.sc x) && chkE T e v && asgC T.sc x px v && (notLc v || notShr e)
  | .asg (.tup ts) e, .Assign [.Tuple es k q] v _ => chkG T (.tup ts) (.Tuple es k q) && chkE T e v && (tupC es v || parC T.sc es v)
  | .asgL ts e, .Assign [.Tuple es _ _] v _ => chkGs T ts es && chkE T e v && notTup v
  | .aug i o e, .AugAssign (.Name x _) op v _ => atB T.N i x && locB T.sc x && (T.fn x || lclB T.sc x) && chkE T e v && decide (o.op = op) && (o == .add || o == .sub)
  | .setix i k e, .Assign [.Subscript (.Name x _) z _] v _ => atB T.N i x && visB T.sc x && !dbgB x && chkE T k z && chkE T e v
  | .app i e, .Expr (.Call (.Attribute (.Name x _) m ap) [y] [] cp) _ => decide (m = sO "append") && atB T.N i x && visB T.sc x && !dbgB x && (ap.endLine == cp.line) && chkE T e y
  | .ins0 i e, .Expr (.Call (.Attribute (.Name x _) m ap) [.Constant (.int k) _ _, y] [] cp) _ => decide (m = sO "insert") && decide (k = 0) && atB T.N i x && visB T.sc x && !dbgB x && (ap.endLine == cp.line) && chkE T e y
  | .ext i e, .Expr (.Call (.Attribute (.Name x _) m ap) [y] [] cp) _ => decide (m = sO "extend") && atB T.N i x && visB T.sc x && !dbgB x && (ap.endLine == cp.line) && chkE T e y
  | .setixr a k e, .Assign [.Subscript b z _] v _ => chkE T a b && chkE T k z && chkE T e v
  | .expr e, .Expr v _ => chkE T e v && notLc v
  | .ret e, .Return (some v) _ => chkE T e v
  | .retv i, .Return (some (.Name x _)) _ => atB T.N i x && visB T.sc x && !dbgB x
  | .retN, .Return none _ => true
  | .ife c a b, .If t x y _ => chkE T c t && chkB T a x && chkB T b y
  | .whl c b, .While t x [] _ => chkE T c t && chkB T b x
  | .loop t it b, .For tg i x [] _ => chkG T t tg && chkI T tg it i && chkB T b x
  | .brk, .Break _ => true
  | .cont, .Continue _ => true
  | .pass, .Pass _ => true
  | _, _ => false
def chkB (T : Tx) : Sxs → List Stmt → Bool
  | .cons (.frz _) ss, sts => chkB T ss sts
  | .cons (.shr _) ss, sts => chkB T ss sts
  | .nil, [] => true
  | .cons s ss, st :: sts => chkS T s st && chkB T ss sts
  | _, _ => false
end
end Px

set_option Elab.async false
set_option linter.all false
set_option maxRecDepth 100000
set_option maxHeartbeats 1000000
/-! Px, part R: every body that the look lets by; defs. -/
namespace Px
open PySem PySem.Spec PyProof.Rows L2
theorem swaps_plain {v : Expr} {t : Option Expr} {l : Nat} {env : Env} (h : notLc v = true) : swapsWith v t l env = pure false := by
  cases v <;> first | rfl | exact nc h
theorem sw_cell {elt : Expr} {gs : List Comprehension} {scope : Scope} {pos py : Pos} {y : Str} {l : Nat} {env : Env} (h : cellB env.scope y = true) : swapsWith (.ListComp elt gs scope pos) (some (.Name y py)) l env = pure false := by
  have ky : env.kindOf y = some .cell := by
    unfold cellB at h
    split at h
    · rename_i e
      exact e
    · cases h
  unfold swapsWith
  simp only [ky]
  have : ((some NameKind.cell : Option NameKind) == some .local) = false := rfl
  simp only [this, Bool.and_false, Bool.false_and]
theorem sole_plain {v t : Expr} {l : Nat} {env : Env} (h : notLc v = true) : swapsWithSole [t] v l env = pure false := swaps_plain h
theorem sole_tup {v : Expr} {es : List Expr} {k : Nat} {q : Pos} {l : Nat} {env : Env} : swapsWithSole [.Tuple es k q] v l env = pure false := by
  cases v <;> rfl
theorem sole_sub {v o i : Expr} {q : Pos} {l : Nat} {env : Env} : swapsWithSole [.Subscript o i q] v l env = pure false := by
  cases v <;> rfl
theorem stores_sub {v o i : Expr} {q : Pos} {env : Env} : swappedStores [.Subscript o i q] v env = pure none := by
  cases v <;> rfl
theorem stores_plain {v : Expr} {es : List Expr} {k : Nat} {q : Pos} {env : Env} (h : notTup v = true) : swappedStores [.Tuple es k q] v env = pure none := by
  cases v <;> first | rfl | exact nc h
theorem stores_tup {es vs : List Expr} {k k2 : Nat} {q q2 : Pos} {env : Env} (h : tupC es (.Tuple vs k2 q2) = true) : swappedStores [.Tuple es k q] (.Tuple vs k2 q2) env = pure none := by
  unfold tupC at h
  rw [Bool.or_eq_true] at h
  unfold swappedStores
  dsimp only
  rcases h with h | h
  · rw [if_pos (by rw [h]; rfl)]
  · by_cases c1 : (!(es.length == 2 || es.length == 3) || vs.length != es.length || env.blockKind != .function) = true
    · rw [if_pos c1]
    · rw [if_neg c1]
      split
      · rfl
      · split
        · rfl
        · (first | rfl | rw [if_pos h])
theorem tup_stores {es : List Expr} {v : Expr} {k : Nat} {q : Pos} {env : Env} (h : tupC es v = true) : swappedStores [.Tuple es k q] v env = pure none := by
  by_cases c : notTup v = true
  · exact stores_plain c
  · cases v <;> first | exact absurd rfl c | exact stores_tup h
theorem par_stores2 {x y : Str} {px py pt pt2 : Pos} {kt k2 : Nat} {a b : Expr} {env : Env} (hk : env.scope.kind = .function) (hx : env.scope.names.lookup x = some .local) (hy : env.scope.names.lookup y = some .local) (hl : (py.line == px.line) = true) (hn : x ≠ y)
    (hs : (starB a || starB b) = false) (h1 : [a, b].all (foldedForSure 8) = false) (h2 : [a, b].all (constantsAlone 8) = false) :
    swappedStores [.Tuple [.Name x px, .Name y py] kt pt] (.Tuple [a, b] k2 pt2) env = pure (some [x, y]) := by
  have hb : env.blockKind = .function := by unfold Env.blockKind; rw [hk]; rfl
  have kx : env.kindOf x = some .local := hx
  have ky : env.kindOf y = some .local := hy
  have hs' : ([a, b].any fun | .Starred .. => true | _ => false) = false := by
    have : ([a, b].any starB) = false := by simpa using hs
    exact this
  have hlx : (px.line == px.line) = true := by simp
  have hq : (([x, y] : List Str).eraseDups.length != ([x, y] : List Str).length) = false := by
    have : (y == x) = false := by simpa using fun z => hn z.symm
    simp [List.eraseDups_cons, this]
  have hline : py.line = px.line := by simpa using hl
  unfold swappedStores
  dsimp only
  rw [hb]
  rw [if_neg (by simp)]
  rw [if_neg (fun z => by
    have z' : ([a, b].any starB) = true := z
    simp at z'
    simp at hs
    rcases z' with z' | z'
    · rw [hs.1] at z'; cases z'
    · rw [hs.2] at z'; cases z')]
  have nyx : ¬ y = x := fun z => hn z.symm
  have h1' := h1
  have h2' := h2
  rw [← Bool.not_eq_true] at h1' h2'
  simp only [List.filterMap_cons, kx, ky, hline, List.head?_cons, Option.map_some, Option.getD_some, Expr.pos, beq_self_eq_true, Bool.and_self, if_true, List.filterMap_nil, hq]
  rw [if_neg (by simp), if_neg h1', if_neg h2']
theorem par_stores3 {x y z : Str} {px py pz pt pt2 : Pos} {kt k2 : Nat} {a b c : Expr} {env : Env} (hk : env.scope.kind = .function) (hx : env.scope.names.lookup x = some .local) (hy : env.scope.names.lookup y = some .local) (hz : env.scope.names.lookup z = some .local)
    (hl : (py.line == px.line) = true) (hl3 : (pz.line == px.line) = true) (hn : x ≠ y) (hn2 : x ≠ z) (hn3 : y ≠ z)
    (hs : (starB a || starB b || starB c) = false) (h1 : [a, b, c].all (foldedForSure 8) = false) (h2 : [a, b, c].all (constantsAlone 8) = false) :
    swappedStores [.Tuple [.Name x px, .Name y py, .Name z pz] kt pt] (.Tuple [a, b, c] k2 pt2) env = pure (some [x, y, z]) := by
  have hb : env.blockKind = .function := by unfold Env.blockKind; rw [hk]; rfl
  have kx : env.kindOf x = some .local := hx
  have ky : env.kindOf y = some .local := hy
  have kz : env.kindOf z = some .local := hz
  have hq : (([x, y, z] : List Str).eraseDups.length != ([x, y, z] : List Str).length) = false := by
    have e1 : (y == x) = false := by simpa using fun w => hn w.symm
    have e2 : (z == x) = false := by simpa using fun w => hn2 w.symm
    have e3 : (z == y) = false := by simpa using fun w => hn3 w.symm
    simp [List.eraseDups_cons, e1, e2, e3]
  have hline : py.line = px.line := by simpa using hl
  have hline3 : pz.line = px.line := by simpa using hl3
  unfold swappedStores
  dsimp only
  rw [hb]
  rw [if_neg (by simp)]
  rw [if_neg (fun w => by
    have z' : ([a, b, c].any starB) = true := w
    simp at z'
    simp at hs
    rcases z' with z' | z' | z'
    · rw [hs.1.1] at z'; cases z'
    · rw [hs.1.2] at z'; cases z'
    · rw [hs.2] at z'; cases z')]
  have h1' := h1
  have h2' := h2
  rw [← Bool.not_eq_true] at h1' h2'
  simp only [List.filterMap_cons, kx, ky, kz, hline, hline3, List.head?_cons, Option.map_some, Option.getD_some, Expr.pos, beq_self_eq_true, Bool.and_self, if_true, List.filterMap_nil, hq]
  rw [if_neg (by simp), if_neg h1', if_neg h2']
section
variable {F : Cf} {fns gls : List String} {n : Nat} {E : XK}
/-- what a swapped store reads -/
theorem par_read {X : Cx} {ts : Tgs} {es : Exs} {D : Ends} {σ : L2.St} {H : Hp} {Q1 : List V → Hp → Prop} (h : rS X E F (.asg (.tup ts) (.tup es)) D σ H)
    (hk : ∀ g0 g1 sl ds vs sl', Gok X.K g1 → Stp g0 g1 → SlOk X.K g0 g1 σ sl → g1.Reps X.K ds vs → bindTs ts ds sl = some sl' → PostS X.K E g0 g1 (.ok (.nx, sl') g1.S) D → Q1 vs g1.H) : rdA X.K E (evA F es) σ H Q1 := by
  obtain ⟨g0, g, sl, eH, ok, so, st, h⟩ := h
  subst eH
  have e : exS F (.asg (.tup ts) (.tup es)) sl g.S = (evA F es sl g.S).bind fun ds S1 => ((if ds.length ≤ sizeLine then (.ok (.val (.tup ds)) S1 : Res Rv) else .stuck).data).bind fun d S1 => Res.opt ((bindT (.tup ts) d sl).map fun s => (.nx, s)) S1 := by
    show ((evA F es sl g.S).bind _).data.bind _ = _
    unfold Res.data
    rw [Res.bind_assoc, Res.bind_assoc]
    congr 1
    funext ds S1
    rw [Res.bind_assoc]
  rw [e] at h
  refine ⟨g0, g, sl, rfl, ok, so, PostS.bind st h fun g1 ds vs ok1 st1 r1 h1 => ?_⟩
  split at h1
  · have h2 : PostS X.K E g0 g1 (Res.opt ((bindTs ts ds sl).map fun s => (.nx, s)) g1.S) D := h1
    cases e1 : bindTs ts ds sl with
    | none => rw [e1] at h2; exact h2.elim
    | some sl' =>
      rw [e1] at h2
      exact hk g0 g1 sl ds vs sl' ok1 (st.trans st1) (so.step st1) r1 e1 h2
  · exact h1.elim
theorem ne_at {N : List Str} {i j : Nat} {x y : Str} (hi : N[i]? = some x) (hj : N[j]? = some y) (h : x ≠ y) : i ≠ j := fun z => by
  subst z
  rw [hi] at hj
  exact h (Option.some.inj hj)
theorem st_par {X : Cx} (c : Ctx X F fns gls n) (hk : X.env.scope.kind = .function) {ts : Tgs} {es : List Expr} {v : Expr} {k : Nat} {q pos : Pos} {e : Ex} (hg : chkG (tx X fns gls) (.tup ts) (.Tuple es k q) = true) (hv : chkE (tx X fns gls) e v = true)
    (hp : parC X.env.scope es v = true) : PS X (.Assign [.Tuple es k q] v pos) (rS X E F (.asg (.tup ts) e)) := by
  unfold parC at hp
  split at hp
  · rename_i x px y py a b k2 q2
    simp only [Bool.and_eq_true, Bool.not_eq_true', decide_eq_true_eq] at hp
    obtain ⟨⟨⟨⟨⟨⟨h1, h2⟩, h3⟩, h4⟩, h5⟩, h6⟩, h7⟩ := hp
    cases e <;> first | exact nc hv | skip
    rename_i es'
    have ha := (sA (E := E) es' c [a, b] hv).1
    cases ts with
    | nil => exact nc hg
    | cons t1 ts =>
    cases ts with
    | nil => cases t1 <;> simp [chkG, chkGs] at hg
    | cons t2 ts =>
    cases ts with
    | cons _ _ => cases t1 <;> cases t2 <;> simp [chkG, chkGs] at hg
    | nil =>
    cases t1 with
    | tup _ => simp [chkG, chkGs] at hg
    | nm i =>
    cases t2 with
    | tup _ => simp [chkG, chkGs] at hg
    | nm j =>
    simp only [chkG, chkGs, Bool.and_eq_true] at hg
    have hi := at_of hg.1.1.1
    have hj := at_of hg.2.1.1.1
    refine PS.imp (ps_par c.calm c.nd hi hj (ne_at hi hj h4) (lcl_of h1) (lcl_of h2) ha (par_stores2 hk (lcl_of h1) (lcl_of h2) h3 h4 h5 h6 h7) sole_tup) fun D σ H h => ?_
    refine par_read h fun g0 g1 sl ds vs sl' ok1 st1 so r1 hb h2 => ?_
    cases r1 with
    | nil => cases hb
    | cons r t =>
    cases t with
    | nil => cases hb
    | cons r' t =>
    cases t with
    | cons _ _ => cases hb
    | nil =>
    cases hb
    exact ⟨_, _, rfl, PostS.next h2 rfl ok1 st1 ((so.setVal i r).setVal j r')⟩
  · rename_i x px y py z pz a b d k2 q2
    simp only [Bool.and_eq_true, Bool.not_eq_true', decide_eq_true_eq] at hp
    obtain ⟨⟨⟨⟨⟨⟨⟨⟨⟨⟨h1, h2⟩, h2'⟩, h3⟩, h3'⟩, h4⟩, h4'⟩, h4''⟩, h5⟩, h6⟩, h7⟩ := hp
    cases e <;> first | exact nc hv | skip
    rename_i es'
    have ha := (sA (E := E) es' c [a, b, d] hv).1
    cases ts with
    | nil => exact nc hg
    | cons t1 ts =>
    cases ts with
    | nil => cases t1 <;> simp [chkG, chkGs] at hg
    | cons t2 ts =>
    cases ts with
    | nil => cases t1 <;> cases t2 <;> simp [chkG, chkGs] at hg
    | cons t3 ts =>
    cases ts with
    | cons _ _ => cases t1 <;> cases t2 <;> cases t3 <;> simp [chkG, chkGs] at hg
    | nil =>
    cases t1 with
    | tup _ => simp [chkG, chkGs] at hg
    | nm i =>
    cases t2 with
    | tup _ => simp [chkG, chkGs] at hg
    | nm j =>
    cases t3 with
    | tup _ => simp [chkG, chkGs] at hg
    | nm l =>
    simp only [chkG, chkGs, Bool.and_eq_true] at hg
    have hi := at_of hg.1.1.1
    have hj := at_of hg.2.1.1.1
    have hl := at_of hg.2.2.1.1.1
    refine PS.imp (ps_par3 c.calm c.nd hi hj hl (ne_at hi hj h4) (ne_at hi hl h4') (ne_at hj hl h4'') (lcl_of h1) (lcl_of h2) (lcl_of h2') ha (par_stores3 hk (lcl_of h1) (lcl_of h2) (lcl_of h2') h3 h3' h4 h4' h4'' h5 h6 h7) sole_tup) fun D σ H h => ?_
    refine par_read h fun g0 g1 sl ds vs sl' ok1 st1 so r1 hb h2 => ?_
    cases r1 with
    | nil => cases hb
    | cons r t =>
    cases t with
    | nil => cases hb
    | cons r' t =>
    cases t with
    | nil => cases hb
    | cons r'' t =>
    cases t with
    | cons _ _ => cases hb
    | nil =>
    cases hb
    exact ⟨_, _, _, rfl, PostS.next h2 rfl ok1 st1 (((so.setVal i r).setVal j r').setVal l r'')⟩
  · cases hp
end
section
variable {F : Cf} {fns gls : List String} {n : Nat} {E : XK}
theorem st_asgC {X : Cx} (c : Ctx X F fns gls n) (hk : X.env.scope.kind = .function) {i : Nat} {x : Str} {px pos : Pos} {v : Expr} {y : Ex} (hi : X.N[i]? = some x) (hx : Loc X.env.scope x) (hf : X.fn x = true ∨ X.env.scope.names.lookup x = some .local)
    (hv : chkE (tx X fns gls) y v = true) (hs : asgC X.env.scope x px v = true) (hns : (notLc v || notShr y) = true) : PS X (.Assign [.Name x px] v pos) (rS X E F (.asg (.nm i) y)) := by
  by_cases hl : notLc v = true
  · exact st_asg c.nd hi hx hf (sE y c v hv).pe (swaps_plain hl)
  · have hns : notShr y = true := by
      rw [Bool.or_eq_true] at hns
      exact hns.resolve_left hl
    cases v <;> first | exact absurd rfl hl | (cases y <;> first | exact nc hns | exact nc hv) | skip
    rename_i e gs scope q
    unfold asgC at hs
    rw [Bool.or_eq_true] at hs
    rcases hs with hs | hs
    · exact st_asg c.nd hi hx hf (sE y c _ hv).pe (sw_cell hs)
    rw [Bool.and_eq_true, Bool.and_eq_true] at hs
    have hy := lcl_of hs.1.1
    have hsw : ∀ (elt : Expr) (gs : List Comprehension), swapsWith (.ListComp elt gs scope q) (some (.Name x px)) pos.line X.env = pure true := fun elt gs => sw_true hk hy hs.1.2 (by simpa using hs.2)
    cases y <;> first | exact nc hns | exact nc hv | clear hns
    · rename_i own tg it cx elt
      cases gs with
      | nil => exact nc hv
      | cons g gs =>
      obtain ⟨t, it', ifs, as⟩ := g
      cases gs with
      | cons _ _ => exact nc hv
      | nil =>
      have h' : ((((((decide (as = 0) && blkC X.N X.env.scope scope (ownS own)) && chkI (tx X fns gls) t it it') && chkG ((tx X fns gls).blk scope) tg t) && subB tg.slots (own.map (·.2))) && chkE ((tx X fns gls).blk scope) elt e) && chkIf (chkE ((tx X fns gls).blk scope) cx) (chkN cx) ifs) = true := hv
      rw [Bool.and_eq_true, Bool.and_eq_true, Bool.and_eq_true, Bool.and_eq_true, Bool.and_eq_true, Bool.and_eq_true] at h'
      obtain ⟨⟨⟨⟨⟨⟨k0, k1⟩, k2⟩, k3⟩, k4⟩, k5⟩, k6⟩ := h'
      obtain rfl : as = 0 := of_decide_eq_true k0
      have eo : (ownS own).map (·.2) = own.map (·.2) := by simp [ownS]
      have key : PS X (.Assign [.Name x px] (.ListComp e [⟨t, it', ifs, 0⟩] scope q) pos) (tAsg (tLc (rdI X.K E (evI F it)) (rdG X.K tg) (rdT X.K E fun sl S => (evE F cx sl S).truth) (rdE X.K E (evE F elt)) ((ownS own).map (·.2))) (gName i)) :=
        ps_setLc c.calm c.nd hi hy (hsw _ _) (sI it c t it' k2) (blkOk_by k1) (fun s H C cl fp => sG (X := X.blk s H scope (compEnvC scope cl C X.env) fp) (fns := fns) (gls := gls) c.calm c.nd tg t k3)
          (fun s H C cl fp => ifs_of k6 fun x hx => (sE cx (X := X.blk s H scope (compEnvC scope cl C X.env) fp) (c.blk s H scope _ fp) x hx).pt)
          (fun s H C cl fp => (sE elt (X := X.blk s H scope (compEnvC scope cl C X.env) fp) (c.blk s H scope _ fp) e k5).pe) (chkI_set k2)
      rw [eo] at key
      refine PS.imp key fun D σ H h => ?_
      refine lc_read (subB_of k4) ?_
      have h1 := asg_read h
      obtain ⟨g0, g1, sl, e1, ok, so, hq⟩ := h1
      unfold evE at hq
      exact ⟨g0, g1, sl, e1, ok, so, hq⟩
    · rename_i own tg it cx vs1 tg1 it1 cx1 elt
      cases gs with
      | nil => exact nc hv
      | cons g gs =>
      obtain ⟨t, it', ifs, as⟩ := g
      cases gs with
      | nil => exact nc hv
      | cons g1 gs =>
      obtain ⟨t1, i1, ifs1, as1⟩ := g1
      cases gs with
      | cons _ _ => exact nc hv
      | nil =>
      have h' : ((((((((((((decide (as = 0) && decide (as1 = 0)) && blkC X.N X.env.scope scope (ownS own)) && chkI (tx X fns gls) t it it') && chkG ((tx X fns gls).blk scope) tg t) && subB tg.slots (own.map (·.2))) && chkIf (chkE ((tx X fns gls).blk scope) cx) (chkN cx) ifs) &&
        subB vs1 (own.map (·.2))) && chkI ((tx X fns gls).blk scope) t1 it1 i1) && chkG ((tx X fns gls).blk scope) tg1 t1) && subB tg1.slots vs1) && chkIf (chkE ((tx X fns gls).blk scope) cx1) (chkN cx1) ifs1) && chkE ((tx X fns gls).blk scope) elt e) = true := hv
      rw [Bool.and_eq_true, Bool.and_eq_true, Bool.and_eq_true, Bool.and_eq_true, Bool.and_eq_true, Bool.and_eq_true, Bool.and_eq_true, Bool.and_eq_true, Bool.and_eq_true, Bool.and_eq_true, Bool.and_eq_true, Bool.and_eq_true] at h'
      obtain ⟨⟨⟨⟨⟨⟨⟨⟨⟨⟨⟨⟨k0, k01⟩, k1⟩, k2⟩, k3⟩, k4⟩, k6⟩, j1⟩, j2⟩, j3⟩, j4⟩, j5⟩, k5⟩ := h'
      obtain rfl : as = 0 := of_decide_eq_true k0
      obtain rfl : as1 = 0 := of_decide_eq_true k01
      have eo : (ownS own).map (·.2) = own.map (·.2) := by simp [ownS]
      have key : PS X (.Assign [.Name x px] (.ListComp e [⟨t, it', ifs, 0⟩, ⟨t1, i1, ifs1, 0⟩] scope q) pos) (tAsg (tLc2 (rdI X.K E (evI F it)) (rdG X.K tg) (rdT X.K E fun sl S => (evE F cx sl S).truth) (rdI X.K E (evI F it1)) (rdG X.K tg1) (rdT X.K E fun sl S => (evE F cx1 sl S).truth) (rdE X.K E (evE F elt)) ((ownS own).map (·.2)) vs1) (gName i)) :=
        ps_setLc2 c.calm c.nd hi hy (hsw _ _) (sI it c t it' k2) (blkOk_by k1) (by rw [eo]; exact subB_of j1) (fun s H C cl fp => sG (X := X.blk s H scope (compEnvC scope cl C X.env) fp) (fns := fns) (gls := gls) c.calm c.nd tg t k3)
          (fun s H C cl fp => ifs_of k6 fun x hx => (sE cx (X := X.blk s H scope (compEnvC scope cl C X.env) fp) (c.blk s H scope _ fp) x hx).pt)
          (fun s H C cl fp => sI it1 (X := X.blk s H scope (compEnvC scope cl C X.env) fp) (c.blk s H scope _ fp) t1 i1 j2)
          (fun s H C cl fp => sG (X := X.blk s H scope (compEnvC scope cl C X.env) fp) (fns := fns) (gls := gls) c.calm c.nd tg1 t1 j3)
          (fun s H C cl fp => ifs_of j5 fun x hx => (sE cx1 (X := X.blk s H scope (compEnvC scope cl C X.env) fp) (c.blk s H scope _ fp) x hx).pt)
          (fun s H C cl fp => (sE elt (X := X.blk s H scope (compEnvC scope cl C X.env) fp) (c.blk s H scope _ fp) e k5).pe) (chkI_set k2) (fun env x => chkI_set (env := env) j2 x)
      rw [eo] at key
      refine PS.imp key fun D σ H h => ?_
      refine lc2_read (subB_of k4) (subB_of j4) ?_
      have h1 := asg_read h
      obtain ⟨g0, g1, sl, e1, ok, so, hq⟩ := h1
      unfold evE at hq
      exact ⟨g0, g1, sl, e1, ok, so, hq⟩
mutual
theorem sS : ∀ (y : Sx) {X : Cx} (c : Ctx X F fns gls n) (hk : X.env.scope.kind = .function) (hp : PassesOwn (model X.prog X.w) X.A X.env X.xe) (s : Stmt), chkS (tx X fns gls) y s = true → PS X s (rS X E F y)
  | .asg (.nm i) e, X, c, hk, hp, s, h => by
    cases s <;> first | exact nc h | skip
    rename_i ts v p
    cases ts with
    | nil => exact nc h
    | cons t ts =>
    cases ts with
    | cons _ _ => cases t <;> exact nc h
    | nil =>
    cases t <;> first | exact nc h | skip
    rename_i x px
    have h' : (((((atB X.N i x && locB X.env.scope x) && (X.fn x || lclB X.env.scope x)) && chkE (tx X fns gls) e v) && asgC X.env.scope x px v) && (notLc v || notShr e)) = true := h
    rw [Bool.and_eq_true] at h'
    have hns := h'.2
    have h' := h'.1
    rw [Bool.and_eq_true, Bool.and_eq_true, Bool.and_eq_true, Bool.and_eq_true, Bool.or_eq_true] at h'
    exact st_asgC c hk (at_of h'.1.1.1.1) (loc_of h'.1.1.1.2) (h'.1.1.2.imp id lcl_of) h'.1.2 h'.2 hns
  | .asg (.tup ts') e, X, c, hk, hp, s, h => by
    cases s <;> first | exact nc h | skip
    rename_i ts v p
    cases ts with
    | nil => exact nc h
    | cons t ts =>
    cases ts with
    | cons _ _ => cases t <;> exact nc h
    | nil =>
    cases t <;> first | exact nc h | skip
    rename_i es k q
    have h' : ((chkG (tx X fns gls) (.tup ts') (.Tuple es k q) && chkE (tx X fns gls) e v) && (tupC es v || parC X.env.scope es v)) = true := h
    rw [Bool.and_eq_true, Bool.and_eq_true, Bool.or_eq_true] at h'
    rcases h'.2 with h2 | h2
    · exact st_tup c.calm c.nd h'.1.1 (sE e c v h'.1.2).pe sole_tup (tup_stores h2)
    · exact st_par c hk h'.1.1 h'.1.2 h2
  | .asgL ts' e, X, c, hk, hp, s, h => by
    cases s <;> first | exact nc h | skip
    rename_i ts v p
    cases ts with
    | nil => exact nc h
    | cons t ts =>
    cases ts with
    | cons _ _ => cases t <;> exact nc h
    | nil =>
    cases t <;> first | exact nc h | skip
    rename_i es k q
    have h' : ((chkGs (tx X fns gls) ts' es && chkE (tx X fns gls) e v) && notTup v) = true := h
    rw [Bool.and_eq_true, Bool.and_eq_true] at h'
    exact st_unl c.calm c.nd h'.1.1 (sE e c v h'.1.2).pe sole_tup (stores_plain h'.2)
  | .aug i o e, X, c, hk, hp, s, h => by
    cases s <;> first | exact nc h | skip
    rename_i t op v p
    cases t <;> first | exact nc h | skip
    rename_i x px
    have h' : (((((atB X.N i x && locB X.env.scope x) && (X.fn x || lclB X.env.scope x)) && chkE (tx X fns gls) e v) && decide (o.op = op)) && (o == .add || o == .sub)) = true := h
    rw [Bool.and_eq_true, Bool.and_eq_true, Bool.and_eq_true, Bool.and_eq_true, Bool.and_eq_true, Bool.or_eq_true, Bool.or_eq_true] at h'
    have e1 := of_decide_eq_true h'.1.2
    subst e1
    rcases h'.2 with ho | ho
    · obtain rfl : o = .add := by simpa using ho
      exact st_aug (f := fun a b => a + b) c.nd (at_of h'.1.1.1.1.1) (loc_of h'.1.1.1.1.2) (h'.1.1.1.2.imp id lcl_of) (sE e c v h'.1.1.2).pe ip_add fun _ _ => rfl
    · obtain rfl : o = .sub := by simpa using ho
      exact st_aug (f := fun a b => a - b) c.nd (at_of h'.1.1.1.1.1) (loc_of h'.1.1.1.1.2) (h'.1.1.1.2.imp id lcl_of) (sE e c v h'.1.1.2).pe ip_sub fun _ _ => rfl
  | .setix i k e, X, c, hk, hp, s, h => by
    cases s <;> first | exact nc h | skip
    rename_i ts v p
    cases ts with
    | nil => exact nc h
    | cons t ts =>
    cases ts with
    | cons _ _ => (cases t <;> first | exact nc h | (rename_i b _ _; cases b <;> exact nc h))
    | nil =>
    cases t <;> first | exact nc h | skip
    rename_i b z q
    cases b <;> first | exact nc h | skip
    rename_i x px
    have h' : ((((atB X.N i x && visB X.env.scope x) && !dbgB x) && chkE (tx X fns gls) k z) && chkE (tx X fns gls) e v) = true := h
    rw [Bool.and_eq_true, Bool.and_eq_true, Bool.and_eq_true, Bool.and_eq_true] at h'
    obtain ⟨d1, d2, _⟩ := dbg_of h'.1.1.2
    exact st_setix (fun l u s p e => by subst e; exact (chkE_slice h'.1.2).elim) (at_of h'.1.1.1.1) (vis_of h'.1.1.1.2) d1 d2 (sE k c z h'.1.2).pe (sE e c v h'.2).pe sole_sub stores_sub
  | .app i e, X, c, hk, hp, s, h => by
    cases s <;> first | exact nc h | skip
    rename_i v p
    cases v <;> first | exact nc h | skip
    rename_i fx xs ks cp
    cases fx <;> first | exact nc h | skip
    rename_i o m ap
    cases o <;> first | exact nc h | skip
    rename_i x px
    cases xs with
    | nil => exact nc h
    | cons y xs =>
    cases xs with
    | cons _ _ => exact nc h
    | nil =>
    cases ks <;> first | exact nc h | skip
    have h' : (((((decide (m = sO "append") && atB X.N i x) && visB X.env.scope x) && !dbgB x) && (ap.endLine == cp.line)) && chkE (tx X fns gls) e y) = true := h
    rw [Bool.and_eq_true, Bool.and_eq_true, Bool.and_eq_true, Bool.and_eq_true, Bool.and_eq_true] at h'
    obtain ⟨d1, d2, _⟩ := dbg_of h'.1.1.2
    exact st_app (of_decide_eq_true h'.1.1.1.1.1) (at_of h'.1.1.1.1.2) (vis_of h'.1.1.1.2) d1 d2 (chkE_star h'.2) h'.1.2 (sE e c y h'.2).pe
  | .ext i e, X, c, hk, hp, s, h => by
    cases s <;> first | exact nc h | skip
    rename_i v p
    cases v <;> first | exact nc h | skip
    rename_i fx xs ks cp
    cases fx <;> first | exact nc h | skip
    rename_i o m ap
    cases o <;> first | exact nc h | skip
    rename_i x px
    cases xs with
    | nil => exact nc h
    | cons y xs =>
    cases xs with
    | cons _ _ => exact nc h
    | nil =>
    cases ks <;> first | exact nc h | skip
    have h' : (((((decide (m = sO "extend") && atB X.N i x) && visB X.env.scope x) && !dbgB x) && (ap.endLine == cp.line)) && chkE (tx X fns gls) e y) = true := h
    rw [Bool.and_eq_true, Bool.and_eq_true, Bool.and_eq_true, Bool.and_eq_true, Bool.and_eq_true] at h'
    obtain ⟨d1, d2, _⟩ := dbg_of h'.1.1.2
    exact st_ext (of_decide_eq_true h'.1.1.1.1.1) (at_of h'.1.1.1.1.2) (vis_of h'.1.1.1.2) d1 d2 (chkE_star h'.2) h'.1.2 (sE e c y h'.2).pe
  | .setixr a k e, X, c, hk, hp, s, h => by
    cases s <;> first | exact nc h | skip
    rename_i ts v p
    cases ts with
    | nil => exact nc h
    | cons t ts =>
    cases ts with
    | cons _ _ => (cases t <;> exact nc h)
    | nil =>
    cases t <;> first | exact nc h | skip
    rename_i b z q
    have h' : ((chkE (tx X fns gls) a b && chkE (tx X fns gls) k z) && chkE (tx X fns gls) e v) = true := h
    rw [Bool.and_eq_true, Bool.and_eq_true] at h'
    exact st_setixr (fun l u s p e => by subst e; exact (chkE_slice h'.1.2).elim) (sE a c b h'.1.1).pe (sE k c z h'.1.2).pe (sE e c v h'.2).pe sole_sub stores_sub
  | .ins0 i e, X, c, hk, hp, s, h => by
    cases s <;> first | exact nc h | skip
    rename_i v p
    cases v <;> first | exact nc h | skip
    rename_i fx xs ks cp
    cases fx <;> first | exact nc h | skip
    rename_i o m ap
    cases o <;> first | exact nc h | skip
    rename_i x px
    cases xs with
    | nil => exact nc h
    | cons w xs =>
    cases w <;> first | exact nc h | skip
    rename_i cst kc pc
    cases cst <;> first | exact nc h | skip
    rename_i k
    cases xs with
    | nil => exact nc h
    | cons y xs =>
    cases xs with
    | cons _ _ => exact nc h
    | nil =>
    cases ks <;> first | exact nc h | skip
    have h' : ((((((decide (m = sO "insert") && decide (k = 0)) && atB X.N i x) && visB X.env.scope x) && !dbgB x) && (ap.endLine == cp.line)) && chkE (tx X fns gls) e y) = true := h
    rw [Bool.and_eq_true, Bool.and_eq_true, Bool.and_eq_true, Bool.and_eq_true, Bool.and_eq_true, Bool.and_eq_true] at h'
    obtain ⟨d1, d2, _⟩ := dbg_of h'.1.1.2
    obtain rfl := of_decide_eq_true h'.1.1.1.1.1.2
    exact st_ins (of_decide_eq_true h'.1.1.1.1.1.1) (at_of h'.1.1.1.1.2) (vis_of h'.1.1.1.2) d1 d2 (chkE_star h'.2) h'.1.2 (sE e c y h'.2).pe
  | .expr e, X, c, hk, hp, s, h => by
    cases s <;> first | exact nc h | skip
    rename_i v p
    have h' : (chkE (tx X fns gls) e v && notLc v) = true := h
    rw [Bool.and_eq_true] at h'
    exact st_expr (sE e c v h'.1).pe (swaps_plain h'.2)
  | .ret e, X, c, hk, hp, s, h => by
    cases s <;> first | exact nc h | skip
    rename_i v p
    cases v with
    | none => exact nc h
    | some v => exact st_ret (sE e c v h).pe
  | .retv i, X, c, hk, hp, s, h => by
    cases s <;> first | exact nc h | skip
    rename_i v p
    cases v with
    | none => exact nc h
    | some v =>
      cases v <;> first | exact nc h | skip
      rename_i x px
      have h' : ((atB X.N i x && visB X.env.scope x) && !dbgB x) = true := h
      rw [Bool.and_eq_true, Bool.and_eq_true] at h'
      obtain ⟨d1, d2, _⟩ := dbg_of h'.2
      exact st_retv (at_of h'.1.1) (vis_of h'.1.2) d1 d2
  | .retN, X, c, hk, hp, s, h => by
    cases s <;> first | exact nc h | skip
    rename_i v p
    cases v with
    | none => exact st_retN
    | some v => exact nc h
  | .ife d a b, X, c, hk, hp, s, h => by
    cases s <;> first | exact nc h | skip
    rename_i t x y p
    have h' : ((chkE (tx X fns gls) d t && chkB (tx X fns gls) a x) && chkB (tx X fns gls) b y) = true := h
    rw [Bool.and_eq_true, Bool.and_eq_true] at h'
    exact st_ife (sE d c t h'.1.1).pt (sB a c hk hp x h'.1.2) (sB b c hk hp y h'.2)
  | .whl d b, X, c, hk, hp, s, h => by
    cases s <;> first | exact nc h | skip
    rename_i t x y p
    cases y <;> first | exact nc h | skip
    have h' : (chkE (tx X fns gls) d t && chkB (tx X fns gls) b x) = true := h
    rw [Bool.and_eq_true] at h'
    exact st_whl hp (sE d c t h'.1).pt (sB b c hk hp x h'.2)
  | .loop t it b, X, c, hk, hp, s, h => by
    cases s <;> first | exact nc h | skip
    rename_i tg i x y p
    cases y <;> first | exact nc h | skip
    have h' : ((chkG (tx X fns gls) t tg && chkI (tx X fns gls) tg it i) && chkB (tx X fns gls) b x) = true := h
    rw [Bool.and_eq_true, Bool.and_eq_true] at h'
    exact st_loop hp c.calm (sI it c tg i h'.1.2) (sG c.calm c.nd t tg h'.1.1) (sB b c hk hp x h'.2) (chkI_set h'.1.2)
  | .brk, X, c, hk, hp, s, h => by cases s <;> first | exact nc h | exact st_brk
  | .cont, X, c, hk, hp, s, h => by cases s <;> first | exact nc h | exact st_cont
  | .pass, X, c, hk, hp, s, h => by cases s <;> first | exact nc h | exact st_pass
  | .frz _, X, c, hk, hp, s, h => by cases s <;> exact nc h
  | .shr _, X, c, hk, hp, s, h => by cases s <;> exact nc h
theorem sB : ∀ (ys : Sxs) {X : Cx} (c : Ctx X F fns gls n) (hk : X.env.scope.kind = .function) (hp : PassesOwn (model X.prog X.w) X.A X.env X.xe) (ss : List Stmt), chkB (tx X fns gls) ys ss = true → PSs X ss (rB X E F ys)
  | .nil, X, c, hk, hp, [], _ => b_nil
  | .nil, X, c, hk, hp, _ :: _, h => nc h
  | .cons y ys, X, c, hk, hp, ss, h => by
    cases y <;> first
      | exact b_frz (sB ys c hk hp ss h)
      | exact b_shr (sB ys c hk hp ss h)
      | skip
    all_goals
      cases ss with
      | nil => exact nc h
      | cons s ss =>
        have h' : (chkS (tx X fns gls) _ s && chkB (tx X fns gls) ys ss) = true := h
        rw [Bool.and_eq_true] at h'
        exact b_cons (sS _ c hk hp s h'.1) (sB ys c hk hp ss h'.2)
end
end
end Px

set_option Elab.async false
set_option linter.all false
set_option maxRecDepth 100000
set_option maxHeartbeats 1000000
/-! Px, part S: a def by its body; the whole table. -/
namespace Px
open PySem PySem.Spec PyProof.Rows L2

theorem startS_ok {K : PySem.W.Frag} {g : Gh} {d : Fn} {ds : List D} {vs : List V} (h : g.Reps K ds vs) (hl : ds.length = d.ar) {N : List Str} (hN : N.length = d.names.length) : SlOk K g g (L2.start N vs) (startS d ds) := by
  have e1 := h.length
  refine ⟨by unfold L2.start startS; rw [List.length_append, List.length_append, List.length_map, List.length_map, List.length_replicate, List.length_replicate]; omega, fun i s e => ?_, fun i j c c' a e1 => ?_⟩
  · unfold startS at e
    unfold L2.start
    by_cases hi : i < ds.length
    · rw [List.getElem?_append_left (by simpa using hi), List.getElem?_map] at e
      cases q : ds[i]? with
      | none => rw [q] at e; cases e
      | some x =>
        rw [q] at e; cases e
        obtain ⟨v, q2, r⟩ := h.get q
        refine ⟨some v, ?_, v, rfl, r⟩
        rw [List.getElem?_append_left (by simp; omega), List.getElem?_map, q2]; rfl
    · rw [List.getElem?_append_right (by simpa using hi), List.getElem?_replicate, List.length_map] at e
      split at e
      · cases e
        refine ⟨none, ?_, trivial⟩
        rw [List.getElem?_append_right (by simp; omega), List.getElem?_replicate, List.length_map, if_pos (by omega)]
      · cases e
  · exfalso
    unfold startS at e1
    by_cases hi : i < ds.length
    · rw [List.getElem?_append_left (by simpa using hi), List.getElem?_map] at e1
      cases q : ds[i]? with
      | none => rw [q] at e1; cases e1
      | some x => rw [q] at e1; cases e1
    · rw [List.getElem?_append_right (by simpa using hi), List.getElem?_replicate] at e1
      split at e1 <;> cases e1

theorem out_ends {K : PySem.W.Frag} {E : XK} {g : Gh} {Q : VK} {r : Res (Fl × Slots)} (h : Post K E (RvR K) g (outOf r) Q) : PostS K E g g r { nx := fun _ H' => Q .non H', rt := Q } := by
  cases r with
  | ok p S =>
    intro g' σ' e ok st gr so
    obtain ⟨fl, sl⟩ := p
    cases fl with
    | nx => exact h g' .non e ok st .non
    | bk => exact h.elim
    | ct => exact h.elim
    | rt r => exact fun v r' => h g' v e ok st r'
  | exc x S => exact h
  | stuck => exact h

section
variable {P : Program} {w : World} {K : PySem.W.Frag} {mg : Str → Option Value} {base : Heap} {F : Cf} {fns gls : List String} {n : Nat}
theorem fnP_of {f : Addr} {name qual : Str} {params : Arguments} {body : List Stmt} {scope : Scope} {dV kV doc pm cdv ct oc : Value} {an od : Option Addr} {osl : Array (Option Value)} {N ps : List Str} {d : Fn}
    (lk : K.lookup f = some ⟨oc, od, .func (PySem.W.fnOf name qual params body scope dV kV doc pm an cdv ct), osl⟩) (hcd : PySem.W.codeIn K cdv qual = true) (S : FnScope N ps scope)
    (hN : N.length = d.names.length) (har : ps.length = d.ar) (hk : chkB ⟨scope, N, fns, gls, fun _ => true⟩ d.body body = true)
    (bl : ∀ b ∈ blts, mg (sO b) = none) (fn : ∀ f ∈ fns, FnAt P w K mg base n f (F.call f)) (gl : ∀ x ∈ gls, ∃ u v, mg (sO x) = some u ∧ RelV v u ∧ ∀ d, F.glob x = some d → ∀ sa R, Rep K sa R d v) :
    FnP P w K mg base (n + 1) f (PySem.W.fnOf name qual params body scope dV kV doc pm an cdv ct) ps fun ds S => if ds.length = d.ar then outOf (exB F d.body (startS d ds) S) else .stuck := by
  refine ⟨fun ds S h => ?_, fun A outer s g args us vs ds Q E hr hgd e0 hb r gok rp hpost => ?_⟩
  · by_cases c : ds.length = d.ar
    · rw [c, har]
    · exact absurd (if_neg c) h
  · have hds : ds.length = d.ar := by
      by_cases c : ds.length = d.ar
      · exact c
      · rw [if_neg c] at hpost; exact hpost.elim
    rw [if_pos hds] at hpost
    have hl : vs.length = ps.length := by rw [← rp.length, hds, har]
    have KX : K.In s.heap := e0.mod.kin.keeps fun b o e => (e0.bs b o e).1
    have lim : s.heap.NoLimit := e0.mod.nolimit.keeps fun b o e => (e0.bs b o e).1
    have hkind : ∀ y ∈ ps.zip us, scope.names.lookup y.1 = some .local ∨ (scope.names.lookup y.1 = some .cell ∧ ((cellsFrom (s.heap.objs.size + 1) scope.names []).lookup y.1).isSome = true) := fun ⟨n, v⟩ hy => by
      rcases S.par n (List.of_mem_zip hy).1 with q | q
      · exact .inl q
      · exact .inr ⟨q, PySem.W.cellsFrom_some _ _ _ (.inl q)⟩
    refine codeAny_call_function hr.depth (KX _ _ lk) rfl S.co S.gen rfl (PySem.W.codeRec_of KX hcd) (hb _ _ _ _ ?_)
    refine wpAny_newFunctionEnv_cells S.kind hkind fun env he s1 x => ?_
    subst he
    refine ⟨lim.keeps x.toInCall.keep, codeAny_func ?_⟩
    have I : Inv (cxOf CX0 P w K mg base N qual scope f cdv A outer s g.H E) [] (L2.start N vs) g.H s1 := inv_start S hr.hd e0 hl r x
    have cx : Ctx (cxOf CX0 P w K mg base N qual scope f cdv A outer s g.H E).nox F fns gls n := ⟨rfl, S.nd, hr.deeper _, hgd, bl, fn, gl⟩
    have hB := (sB (E := E) d.body cx S.kind PassesOwn.never body hk).nox
    have hq : rB (cxOf CX0 P w K mg base N qual scope f cdv A outer s g.H E).nox E F d.body { nx := fun _ H' => Q .non H', rt := Q } (L2.start N vs) g.H :=
      ⟨g, g, startS d ds, rfl, gok, startS_ok rp hds hN, Stp.refl g, out_ends hpost⟩
    refine wpAny_mono (hB.run [] s1 (L2.start N vs) g.H _ I hq) (fun fl s' hs => ?_) fun e s' hs => hs
    have fin : ∀ {σ' : L2.St} {H' : Hp} {v : V} {u : Value}, Inv (cxOf CX0 P w K mg base N qual scope f cdv A outer s g.H E) [] σ' H' s' → RelV v u → Q v H' → CE outer P w g.H s Q u s' :=
      fun {σ' H' v u} J rv q => ⟨v, H', J.os, J.bare, J.base, J.hok, rv, q⟩
    cases fl with
    | ret u =>
      obtain ⟨v, σ', H', J, rv, q⟩ := hs
      exact fin J rv q
    | next =>
      obtain ⟨σ', H', J, q⟩ := hs
      exact fin (v := V.non) (u := Value.none) J rfl q
    | brk =>
      obtain ⟨_, _, _, q⟩ := hs
      exact False.elim q
    | cont =>
      obtain ⟨_, _, _, q⟩ := hs
      exact False.elim q
end
end Px

set_option Elab.async false
set_option linter.all false
set_option maxRecDepth 100000
set_option maxHeartbeats 1000000
/-! Px, part T: all defs of a text at once; the end of a law. -/
namespace Px
open PySem PySem.Spec PyProof.Rows L2

/-- what the top has made of a def's text -/
def DefOk (K : PySem.W.Frag) (mg : Str → Option Value) (fns gls : List String) (f : String) (d : Fn) : Prop :=
  ∃ (a : Addr) (name qual : Str) (params : Arguments) (body : List Stmt) (scope : Scope) (kV doc pm cdv ct oc : Value) (an od : Option Addr) (osl : Array (Option Value)) (ps : List Str),
    mg (sO f) = some (.ref a) ∧ PySem.W.keepIn K (.ref a) = true ∧ Binds K (PySem.W.fnOf name qual params body scope .none kV doc pm an cdv ct) ps [] ∧
    K.lookup a = some ⟨oc, od, .func (PySem.W.fnOf name qual params body scope .none kV doc pm an cdv ct), osl⟩ ∧ PySem.W.codeIn K cdv qual = true ∧
    FnScope (d.names.map sO) ps scope ∧ ps.length = d.ar ∧ chkB ⟨scope, d.names.map sO, fns, gls, fun _ => true⟩ d.body body = true
theorem DefOk.of {K : PySem.W.Frag} {mg : Str → Option Value} {h : Heap} {fns gls : List String} {f : String} {d : Fn} (st : Stmt) (ps : List Str) {a : Addr} {kV doc pm cdv ct oc : Value} {an od : Option Addr} {osl : Array (Option Value)} {name qual : Str}
    (X : K.In h) (G : h.Ns mainGlobals mg) (h1 : PySem.W.nsIn K mainGlobals (sO f) = some (some (.ref a)))
    (h2 : K.lookup a = some ⟨oc, od, .func (PySem.W.fnOf name qual (defArgs st) (defBody st) (defScope st) .none kV doc pm an cdv ct), osl⟩) (h3 : PySem.W.codeIn K cdv qual = true) (h4 : PySem.W.keepIn K (.ref a) = true)
    (hb : ∀ us : List Value, us.length = ps.length → bindArgs (PySem.W.fnOf name qual (defArgs st) (defBody st) (defScope st) .none kV doc pm an cdv ct) ⟨us, []⟩ = pure (ps.zip us))
    (sc : FnScope (d.names.map sO) ps (defScope st)) (har : ps.length = d.ar) (hk : chkB ⟨defScope st, d.names.map sO, fns, gls, fun _ => true⟩ d.body (defBody st) = true) : DefOk K mg fns gls f d :=
  ⟨a, name, qual, _, _, _, kV, doc, pm, cdv, ct, oc, an, od, osl, ps, PySem.W.mg_of X G h1, h4, Binds.all hb, h2, h3, sc, har, hk⟩

section
variable {P : Program} {w : World} {K : PySem.W.Frag} {mg : Str → Option Value} {base : Heap} {T : String → Option Fn} {G : String → Option D} {wf : Nat} {fns gls : List String}
/-- every def of the table keeps its promise, as deep as one likes -/
theorem tower (hT : ∀ f ∈ fns, ∃ d, T f = some d ∧ DefOk K mg fns gls f d) (bl : ∀ b ∈ blts, mg (sO b) = none) (gl : ∀ x ∈ gls, ∃ u v, mg (sO x) = some u ∧ RelV v u ∧ ∀ d, G x = some d → ∀ sa R, Rep K sa R d v) :
    ∀ (n : Nat), ∀ f ∈ fns, FnAt P w K mg base n f (callN T G wf n f)
  | 0, f, hf => by
    obtain ⟨d, _, a, name, qual, params, body, scope, kV, doc, pm, cdv, ct, oc, an, od, osl, ps, h1, h2, h3, _⟩ := hT f hf
    exact ⟨a, _, ps, h1, h2, h3, fun ds S h => absurd rfl h, fun _ _ _ _ _ _ _ _ _ _ _ _ _ _ _ _ _ h => h.elim⟩
  | n + 1, f, hf => by
    obtain ⟨d, e, a, name, qual, params, body, scope, kV, doc, pm, cdv, ct, oc, an, od, osl, ps, h1, h2, h3, h4, h5, h6, h7, h8⟩ := hT f hf
    have key := fnP_of (P := P) (w := w) (base := base) (F := ⟨callN T G wf n, G, wf⟩) (n := n) (d := d) h4 h5 h6 (by rw [List.length_map]) h7 h8 bl (tower hT bl gl n) gl
    have e2 : callN T G wf (n + 1) f = fun ds S => if ds.length = d.ar then outOf (exB ⟨callN T G wf n, G, wf⟩ d.body (startS d ds) S) else .stuck := by
      funext ds S
      show (match T f with | some d => _ | none => _) = _
      rw [e]
    exact ⟨a, _, ps, h1, h2, h3, by rw [e2]; exact key⟩
end

/-- a tuple of the written part -/
theorem repK {K : PySem.W.Frag} {sa : List Addr} {R : Hp} {a : Addr} {od : Option Addr} {its : Array Value} {n : Nat} {sl : Array (Option Value)} {xs : List D} {vs : List V} (h : K.lookup a = some ⟨.type "tuple", od, .seq its n, sl⟩) (hz : its.size ≤ sizeLine) (r : Vals vs its.toList) (q : Reps K sa R xs vs) : Rep K sa R (.tup xs) (.ref a) :=
  .tup (.inr ⟨_, its, n, h, rfl, rfl, hz, r⟩) (by rw [q.length, Paired.length r, Array.length_toList]; exact hz) q
theorem reps_ints {K : PySem.W.Frag} {sa : List Addr} {R : Hp} : ∀ ns : List Int, Reps K sa R (ns.map D.int) (ns.map V.int)
  | [] => .nil
  | _ :: r => .cons (.int _) (reps_ints r)

/-- from the caller of the law: what the plain law answers is what comes back -/
theorem px_call {P : Program} {w : World} {K : PySem.W.Frag} {mg mb : Str → Option Value} {n : Nat} {fa a : Addr} {s₁ : Shared} {vs : List Value} {ns : List Int} {φ : List D → Sto → Res Rv} (KX : K.In s₁.heap)
    (hmg : s₁.heap.Ns mainGlobals mg) (hmb : s₁.heap.Ns builtinsNs mb) (hboot : ∀ x : Str, x ≠ "__name__" → mb x = bootBuiltins x) (lim : s₁.heap.NoLimit) (nog : s₁.gens = #[])
    (ha : s₁.heap.get? a = some { cls := .type "list", data := .seq vs.toArray }) (hi : IntsAre vs ns) (hl : ns.length ≤ sizeLine) (hr : Room n callerA)
    (hfa : mg (sO "law") = some (.ref fa)) (F : ∀ base : Heap, K.In base → base.Ns mainGlobals mg → FnAt P w K mg base n "law" φ) (hφ : ∃ S', φ [.scr (ns.map D.int)] [] = .ok (.val (.bl true)) S') :
    codeAny (model P w) callerA (.call (.ref fa) ⟨[.ref a], []⟩) (fun r s' => r = .ok (.ret (.bool true)) ∧ OldK s₁.heap s'.heap ∧ s'.os = s₁.os ∧ AllBare s'.gens) s₁ := by
  have rv := L2.vals_ints hi
  have hlen := hi.length
  obtain ⟨S', hS'⟩ := hφ
  have go : ∀ H : Hp, L2.Only H → SqL K H a (ns.map V.int) → HOk P w H s₁.heap → (∀ b, H b ≠ none → b = a) → (H a ≠ none → K.lookup a = none) →
      codeAny (model P w) callerA (.call (.ref fa) ⟨[.ref a], []⟩) (fun r s' => r = .ok (.ret (.bool true)) ∧ OldK s₁.heap s'.heap ∧ s'.os = s₁.os ∧ AllBare s'.gens) s₁ := by
    intro H only sq hok one free
    have old : ∀ {b : Addr} {o : Obj}, s₁.heap.get? b = some o → H b = none → (hidT s₁.heap H).get? b = some o := fun e z => hidT_get e z
    have nodict : ∀ {b : Addr} {o : Obj} {es : Array DictEntry} {ep : Nat}, s₁.heap.get? b = some o → o.data = .dict es ep → H b = none := by
      intro b o es ep e ed
      cases hb : H b with
      | none => rfl
      | some u =>
        obtain rfl : b = a := one b (by rw [hb]; simp)
        rw [ha] at e
        cases e
        cases (show Data.seq vs.toArray _ = Data.dict es ep from ed)
    have nss : ∀ {b : Addr} {m : Str → Option Value}, s₁.heap.Ns b m → (hidT s₁.heap H).Ns b m := by
      rintro b m ⟨o, es, ep, e, ed, r⟩
      exact ⟨o, es, ep, old e (nodict e ed), ed, r⟩
    have inb : K.In (hidT s₁.heap H) := by
      intro b o e
      refine old (KX b o e) ?_
      cases hb : H b with
      | none => rfl
      | some u =>
        obtain rfl : b = a := one b (by rw [hb]; simp)
        rw [free (by rw [hb]; simp)] at e
        cases e
    have hM : Mod K mg (hidT s₁.heap H) := ⟨inb, nss hmg, ⟨mb, nss hmb, hboot⟩, let ⟨mc, q1, q2⟩ := lim; ⟨mc, nss q1, q2⟩⟩
    have e0 : Env0 P w K mg (hidT s₁.heap H) callerA [] s₁ H :=
      ⟨rfl, hM, fun b o e => of_hidT e, Nat.le_of_eq (hidT_size _ _), trivial, fun b hb => absurd (show b ∈ ([] : List Addr) from hb) (by simp), hok, .of_eq nog⟩
    obtain ⟨fa', fd, ps, k1, k2, k3, k4⟩ := F _ inb (nss hmg)
    obtain rfl : fa' = fa := by
      rw [hfa] at k1
      cases k1
      rfl
    have one1 : 1 = ps.length := k4.len [.scr (ns.map D.int)] [] (by rw [hS']; exact fun z => nomatch z)
    have bd : BindsTo s₁ fd ⟨[Value.ref a], []⟩ (ps.zip [Value.ref a]) := k3 s₁ [.ref a] KX one1
    let g : Gh := ⟨H, H, [], []⟩
    have gok : Gok K g := ⟨fun _ _ e => e, rfl, List.nodup_nil, fun i b c e => by cases e⟩
    have gr : g.Reps K [.scr (ns.map D.int)] [.ref a] := .cons (.scr sq (by rw [List.length_map]; exact hl) (reps_ints ns)) .nil
    refine codeAny_mono (k4.run callerA [] s₁ g ⟨[.ref a], []⟩ [.ref a] [.ref a] _ (fun v _ => v = V.bl true) (fun _ _ _ => False) hr rfl e0 bd (.cons rfl .nil) gok gr ?_) fun r s' h => ?_
    · show Post K _ (RvR K) g (φ [.scr (ns.map D.int)] []) _
      rw [hS']
      intro g' v _ _ _ q
      cases (show Rep K g'.sa g'.R (.bl true) v from q)
      rfl
    · cases r with
      | error e => exact h.elim
      | ok fl =>
        cases fl with
        | next => exact h.elim
        | brk => exact h.elim
        | cont => exact h.elim
        | ret u =>
          obtain ⟨v, H', os, bare, un, hok', ru, rfl⟩ := h
          obtain rfl : u = Value.bool true := ru
          refine ⟨rfl, OldK.of_keep fun b o e => ?_, os, bare⟩
          cases hb : H b with
          | none => exact un.keep b o e hb (by intro z; exact absurd (show b ∈ ([] : List Addr) from z) (by simp)) (by simp)
          | some u =>
            rcases only b with z | ⟨ob, xs, z⟩
            · rw [hb] at z
              cases z
            · obtain ⟨e1, _⟩ := hok b _ z
              obtain ⟨e2, _⟩ := hok' b _ (un.frzs b ob _ z)
              rw [e] at e1
              cases e1
              exact e2
  cases hk : K.lookup a with
  | some o =>
    have e := KX a o hk
    rw [ha] at e
    cases e
    refine go (fun _ => none) (fun _ => .inl rfl) (.inr ⟨_, vs.toArray, _, hk, rfl, rfl, rfl, by rw [List.size_toArray, hlen]; exact hl, by simpa using rv⟩) (fun b u z => nomatch (show (none : Option HO) = some u from z)) (fun b z => absurd rfl z) fun z => absurd rfl z
  | none =>
    let H1 : Hp := fun b => if b = a then some (.frz { cls := .type "list", data := .seq vs.toArray } (.lst (ns.map V.int))) else none
    have at_a : H1 a = some (.frz { cls := .type "list", data := .seq vs.toArray } (.lst (ns.map V.int))) := if_pos rfl
    have off : ∀ {b}, b ≠ a → H1 b = none := fun hb => if_neg hb
    refine go H1 (fun b => ?_) (.inl (.inr ⟨_, at_a⟩)) (fun b u z => ?_) (fun b z => ?_) fun _ => hk
    · by_cases hb : b = a
      · subst hb
        exact .inr ⟨_, _, at_a⟩
      · exact .inl (off hb)
    · by_cases hb : b = a
      · subst hb
        rw [at_a] at z
        cases z
        exact ⟨ha, by rw [List.length_map]; exact hl, vs, _, rv, ha⟩
      · rw [off hb] at z
        cases z
    · by_cases hb : b = a
      · exact hb
      · exact absurd (off hb) z
/-- a law, by its plain law -/
theorem walk_px {l : PySem.W.OpenLaw} {n k : Nat} {q : Program} {loose : List Str} {XP : (Str → Option Value) → Heap → Prop} {YP : World → Heap → Prop} {d : DefRec} {K : Params → PySem.W.Frag} {φ : List D → Sto → Res Rv}
    (hn : l.most = some n) (hn2 : n ≤ sizeLine) (hdf : d.params.defaults = []) (hd : d.name = sO "law") (hr : Room k callerA) (hY : ∀ (w : World) (h : Heap), YP w h → (K w.params).In h)
    (F : ∀ (w : World) (mg : Str → Option Value) (h : Heap), (K w.params).In h → h.Ns mainGlobals mg → ∀ base : Heap, FnAt l.prog w (K w.params) mg base k "law" φ)
    (hφ : ∀ ns : List Int, ns.length ≤ n → (∀ z ∈ ns, Builtin.Int.intBits z ≤ 1048576) → ∃ S', φ [.scr (ns.map D.int)] [] = .ok (.val (.bl true)) S') :
    PySem.W.WalkO q loose XP YP l.row.toRowW d [] (fun f vs => PySem.call f vs) := by
  refine Att.attach_callB hn hdf fun w s₀ s₁ mg mb fa o pm cd doc a vs ns G Y ho _ hcd hmg hobj hints hlen hbits hg => ?_
  rw [hd] at hmg
  exact px_call (hY w _ Y) G.T.g G.T.b G.T.builtins G.T.nolimit hg hobj hints (Nat.le_trans hlen hn2) hr hmg (fun base _ _ => F w mg _ (hY w _ Y) G.T.g base) (hφ ns hlen hbits)
end Px

set_option Elab.async false
set_option linter.all false
set_option maxRecDepth 100000
set_option maxHeartbeats 1000000
/-! Px, part U: evaluation by simp. -/
namespace Px
open PySem L2
theorem Res.bind_congr {α β : Type} {r r' : Res α} {k : α → Sto → Res β} (h : r = r') : r.bind k = r'.bind k := by rw [h]
theorem Res.bind_bind {α β γ : Type} (r : Res α) (k : α → Sto → Res β) (m : β → Sto → Res γ) : (r.bind k).bind m = r.bind fun a S => (k a S).bind m := by cases r <;> rfl

@[simp] theorem gS0 {α : Type} (x0 : α) (l : List α) : (x0 :: l)[0]? = some x0 := rfl
@[simp] theorem sS0 {α : Type} (x0 y : α) (l : List α) : (x0 :: l).set 0 y = y :: l := rfl
@[simp] theorem gS1 {α : Type} (x0 x1 : α) (l : List α) : (x0 :: x1 :: l)[1]? = some x1 := rfl
@[simp] theorem sS1 {α : Type} (x0 x1 y : α) (l : List α) : (x0 :: x1 :: l).set 1 y = x0 :: y :: l := rfl
@[simp] theorem gS2 {α : Type} (x0 x1 x2 : α) (l : List α) : (x0 :: x1 :: x2 :: l)[2]? = some x2 := rfl
@[simp] theorem sS2 {α : Type} (x0 x1 x2 y : α) (l : List α) : (x0 :: x1 :: x2 :: l).set 2 y = x0 :: x1 :: y :: l := rfl
@[simp] theorem gS3 {α : Type} (x0 x1 x2 x3 : α) (l : List α) : (x0 :: x1 :: x2 :: x3 :: l)[3]? = some x3 := rfl
@[simp] theorem sS3 {α : Type} (x0 x1 x2 x3 y : α) (l : List α) : (x0 :: x1 :: x2 :: x3 :: l).set 3 y = x0 :: x1 :: x2 :: y :: l := rfl
@[simp] theorem gS4 {α : Type} (x0 x1 x2 x3 x4 : α) (l : List α) : (x0 :: x1 :: x2 :: x3 :: x4 :: l)[4]? = some x4 := rfl
@[simp] theorem sS4 {α : Type} (x0 x1 x2 x3 x4 y : α) (l : List α) : (x0 :: x1 :: x2 :: x3 :: x4 :: l).set 4 y = x0 :: x1 :: x2 :: x3 :: y :: l := rfl
@[simp] theorem gS5 {α : Type} (x0 x1 x2 x3 x4 x5 : α) (l : List α) : (x0 :: x1 :: x2 :: x3 :: x4 :: x5 :: l)[5]? = some x5 := rfl
@[simp] theorem sS5 {α : Type} (x0 x1 x2 x3 x4 x5 y : α) (l : List α) : (x0 :: x1 :: x2 :: x3 :: x4 :: x5 :: l).set 5 y = x0 :: x1 :: x2 :: x3 :: x4 :: y :: l := rfl
@[simp] theorem gS6 {α : Type} (x0 x1 x2 x3 x4 x5 x6 : α) (l : List α) : (x0 :: x1 :: x2 :: x3 :: x4 :: x5 :: x6 :: l)[6]? = some x6 := rfl
@[simp] theorem sS6 {α : Type} (x0 x1 x2 x3 x4 x5 x6 y : α) (l : List α) : (x0 :: x1 :: x2 :: x3 :: x4 :: x5 :: x6 :: l).set 6 y = x0 :: x1 :: x2 :: x3 :: x4 :: x5 :: y :: l := rfl
@[simp] theorem gS7 {α : Type} (x0 x1 x2 x3 x4 x5 x6 x7 : α) (l : List α) : (x0 :: x1 :: x2 :: x3 :: x4 :: x5 :: x6 :: x7 :: l)[7]? = some x7 := rfl
@[simp] theorem sS7 {α : Type} (x0 x1 x2 x3 x4 x5 x6 x7 y : α) (l : List α) : (x0 :: x1 :: x2 :: x3 :: x4 :: x5 :: x6 :: x7 :: l).set 7 y = x0 :: x1 :: x2 :: x3 :: x4 :: x5 :: x6 :: y :: l := rfl
@[simp] theorem gS8 {α : Type} (x0 x1 x2 x3 x4 x5 x6 x7 x8 : α) (l : List α) : (x0 :: x1 :: x2 :: x3 :: x4 :: x5 :: x6 :: x7 :: x8 :: l)[8]? = some x8 := rfl
@[simp] theorem sS8 {α : Type} (x0 x1 x2 x3 x4 x5 x6 x7 x8 y : α) (l : List α) : (x0 :: x1 :: x2 :: x3 :: x4 :: x5 :: x6 :: x7 :: x8 :: l).set 8 y = x0 :: x1 :: x2 :: x3 :: x4 :: x5 :: x6 :: x7 :: y :: l := rfl
@[simp] theorem gS9 {α : Type} (x0 x1 x2 x3 x4 x5 x6 x7 x8 x9 : α) (l : List α) : (x0 :: x1 :: x2 :: x3 :: x4 :: x5 :: x6 :: x7 :: x8 :: x9 :: l)[9]? = some x9 := rfl
@[simp] theorem sS9 {α : Type} (x0 x1 x2 x3 x4 x5 x6 x7 x8 x9 y : α) (l : List α) : (x0 :: x1 :: x2 :: x3 :: x4 :: x5 :: x6 :: x7 :: x8 :: x9 :: l).set 9 y = x0 :: x1 :: x2 :: x3 :: x4 :: x5 :: x6 :: x7 :: x8 :: y :: l := rfl
@[simp] theorem gS10 {α : Type} (x0 x1 x2 x3 x4 x5 x6 x7 x8 x9 x10 : α) (l : List α) : (x0 :: x1 :: x2 :: x3 :: x4 :: x5 :: x6 :: x7 :: x8 :: x9 :: x10 :: l)[10]? = some x10 := rfl
@[simp] theorem sS10 {α : Type} (x0 x1 x2 x3 x4 x5 x6 x7 x8 x9 x10 y : α) (l : List α) : (x0 :: x1 :: x2 :: x3 :: x4 :: x5 :: x6 :: x7 :: x8 :: x9 :: x10 :: l).set 10 y = x0 :: x1 :: x2 :: x3 :: x4 :: x5 :: x6 :: x7 :: x8 :: x9 :: y :: l := rfl
@[simp] theorem gS11 {α : Type} (x0 x1 x2 x3 x4 x5 x6 x7 x8 x9 x10 x11 : α) (l : List α) : (x0 :: x1 :: x2 :: x3 :: x4 :: x5 :: x6 :: x7 :: x8 :: x9 :: x10 :: x11 :: l)[11]? = some x11 := rfl
@[simp] theorem sS11 {α : Type} (x0 x1 x2 x3 x4 x5 x6 x7 x8 x9 x10 x11 y : α) (l : List α) : (x0 :: x1 :: x2 :: x3 :: x4 :: x5 :: x6 :: x7 :: x8 :: x9 :: x10 :: x11 :: l).set 11 y = x0 :: x1 :: x2 :: x3 :: x4 :: x5 :: x6 :: x7 :: x8 :: x9 :: x10 :: y :: l := rfl
@[simp] theorem gS12 {α : Type} (x0 x1 x2 x3 x4 x5 x6 x7 x8 x9 x10 x11 x12 : α) (l : List α) : (x0 :: x1 :: x2 :: x3 :: x4 :: x5 :: x6 :: x7 :: x8 :: x9 :: x10 :: x11 :: x12 :: l)[12]? = some x12 := rfl
@[simp] theorem sS12 {α : Type} (x0 x1 x2 x3 x4 x5 x6 x7 x8 x9 x10 x11 x12 y : α) (l : List α) : (x0 :: x1 :: x2 :: x3 :: x4 :: x5 :: x6 :: x7 :: x8 :: x9 :: x10 :: x11 :: x12 :: l).set 12 y = x0 :: x1 :: x2 :: x3 :: x4 :: x5 :: x6 :: x7 :: x8 :: x9 :: x10 :: x11 :: y :: l := rfl
@[simp] theorem gS13 {α : Type} (x0 x1 x2 x3 x4 x5 x6 x7 x8 x9 x10 x11 x12 x13 : α) (l : List α) : (x0 :: x1 :: x2 :: x3 :: x4 :: x5 :: x6 :: x7 :: x8 :: x9 :: x10 :: x11 :: x12 :: x13 :: l)[13]? = some x13 := rfl
@[simp] theorem sS13 {α : Type} (x0 x1 x2 x3 x4 x5 x6 x7 x8 x9 x10 x11 x12 x13 y : α) (l : List α) : (x0 :: x1 :: x2 :: x3 :: x4 :: x5 :: x6 :: x7 :: x8 :: x9 :: x10 :: x11 :: x12 :: x13 :: l).set 13 y = x0 :: x1 :: x2 :: x3 :: x4 :: x5 :: x6 :: x7 :: x8 :: x9 :: x10 :: x11 :: x12 :: y :: l := rfl
@[simp] theorem sz0 : (0 ≤ sizeLine) = True := eq_true (by unfold sizeLine; decide)
@[simp] theorem sz1 : (1 ≤ sizeLine) = True := eq_true (by unfold sizeLine; decide)
@[simp] theorem sz2 : (2 ≤ sizeLine) = True := eq_true (by unfold sizeLine; decide)
@[simp] theorem sz3 : (3 ≤ sizeLine) = True := eq_true (by unfold sizeLine; decide)
@[simp] theorem sz4 : (4 ≤ sizeLine) = True := eq_true (by unfold sizeLine; decide)
@[simp] theorem sz5 : (5 ≤ sizeLine) = True := eq_true (by unfold sizeLine; decide)
@[simp] theorem sz6 : (6 ≤ sizeLine) = True := eq_true (by unfold sizeLine; decide)
@[simp] theorem sz7 : (7 ≤ sizeLine) = True := eq_true (by unfold sizeLine; decide)
@[simp] theorem sz8 : (8 ≤ sizeLine) = True := eq_true (by unfold sizeLine; decide)
@[simp] theorem sz9 : (9 ≤ sizeLine) = True := eq_true (by unfold sizeLine; decide)
@[simp] theorem sz10 : (10 ≤ sizeLine) = True := eq_true (by unfold sizeLine; decide)
@[simp] theorem sz11 : (11 ≤ sizeLine) = True := eq_true (by unfold sizeLine; decide)
@[simp] theorem sz12 : (12 ≤ sizeLine) = True := eq_true (by unfold sizeLine; decide)
section
variable (F : Cf) (sl : Slots) (S : Sto)
@[simp] theorem ev_var (i : Nat) : evE F (.var i) sl S = match sl[i]? with
    | some (.val d) => .ok (.val d) S
    | some (.own c) => .ok (.own c) S
    | _ => .stuck := rfl
@[simp] theorem ev_int (z : Int) : evE F (.int z) sl S = .ok (.val (.int z)) S := rfl
@[simp] theorem ev_bl (b : Bool) : evE F (.bl b) sl S = .ok (.val (.bl b)) S := rfl
@[simp] theorem ev_non : evE F .non sl S = .ok (.val .non) S := rfl
@[simp] theorem ev_nop : evE F .nop sl S = .ok (.val (.bl true)) S := rfl
@[simp] theorem ev_str (s : String) : evE F (.str s) sl S = .ok (.val (.str (Str.ofString s))) S := rfl
@[simp] theorem ev_bin (o : Bop) (a b : Ex) : evE F (.bin o a b) sl S = (evE F a sl S).bind fun x S1 => (evE F b sl S1).bind fun y S2 => Res.opt (opBin o x y) S2 := rfl
@[simp] theorem ev_cmp (o : Cop) (a b : Ex) : evE F (.cmp o a b) sl S = (evE F a sl S).bind fun x S1 => (evE F b sl S1).bind fun y S2 => Res.opt ((opCmp o x y).map fun k => .val (.bl k)) S2 := rfl
@[simp] theorem ev_cmp2 (o o' : Cop) (a b c : Ex) : evE F (.cmp2 o o' a b c) sl S = (evE F a sl S).bind fun x S1 => (evE F b sl S1).bind fun y S2 => (Res.opt (opCmp o x y) S2).bind fun k S3 =>
      if k then (evE F c sl S3).bind fun z S4 => Res.opt ((opCmp o' y z).map fun k => .val (.bl k)) S4 else .ok (.val (.bl false)) S3 := rfl
@[simp] theorem ev_and (a b : Ex) : evE F (.and a b) sl S = (evE F a sl S).bind fun x S1 => (Res.opt x.look.truth S1).bind fun k S2 => if k then evE F b sl S2 else .ok x S2 := rfl
@[simp] theorem ev_or (a b : Ex) : evE F (.or a b) sl S = (evE F a sl S).bind fun x S1 => (Res.opt x.look.truth S1).bind fun k S2 => if k then .ok x S2 else evE F b sl S2 := rfl
@[simp] theorem ev_not (a : Ex) : evE F (.not a) sl S = (evE F a sl S).bind fun x S1 => (Res.opt x.look.truth S1).bind fun k S2 => .ok (.val (.bl (!k))) S2 := rfl
@[simp] theorem ev_neg (a : Ex) : evE F (.neg a) sl S = (evE F a sl S).bind fun x S1 => match x.look with | .int i => .ok (.val (.int (-i))) S1 | _ => .stuck := rfl
@[simp] theorem ev_ife (c a b : Ex) : evE F (.ife c a b) sl S = (evE F c sl S).truth.bind fun k S1 => if k then evE F a sl S1 else evE F b sl S1 := rfl
@[simp] theorem ev_tup (es : Exs) : evE F (.tup es) sl S = (evA F es sl S).bind fun ds S1 => if ds.length ≤ sizeLine then .ok (.val (.tup ds)) S1 else .stuck := rfl
@[simp] theorem ev_list (es : Exs) : evE F (.list es) sl S = (evA F es sl S).bind fun ds S1 => if ds.length ≤ sizeLine then .ok (.fresh (.lst ds)) S1 else .stuck := rfl
@[simp] theorem ev_call (f : String) (es : Exs) : evE F (.call f es) sl S = (evA F es sl S).bind fun ds S1 => F.call f ds S1 := rfl
@[simp] theorem ev_bi (b : Bi) (es : Exs) : evE F (.bi b es) sl S = (evR F es sl S).bind fun rs S1 => Res.opt (opBi b rs) S1 := rfl
@[simp] theorem ev_isin (e : Ex) (o : Bool) (ts : List Ty) : evE F (.isin e o ts) sl S = (evE F e sl S).bind fun x S1 => .ok (.val (.bl (isIn x.look ts))) S1 := rfl
@[simp] theorem ev_ix (a i : Ex) : evE F (.ix a i) sl S = (evE F a sl S).bind fun x S1 => (evE F i sl S1).bind fun y S2 => Res.opt (opIx x y) S2 := rfl
@[simp] theorem ev_sl (a : Ex) (lo hi : Exo) : evE F (.sl a lo hi) sl S = (evE F a sl S).bind fun x S1 => (evP F lo sl S1).bind fun l S2 => (evP F hi sl S2).bind fun h S3 => Res.opt (opSl x l h) S3 := rfl
@[simp] theorem ev_rev (a : Ex) : evE F (.rev a) sl S = (evE F a sl S).bind fun x S1 => Res.opt (opRev x) S1 := rfl
@[simp] theorem ev_sset (e : Ex) : evE F (.sset e) sl S = (evE F e sl S).bind fun x S1 => match x.look with
    | .lst xs => match dInts xs with
      | some ns => if ns.length < 4000 ∧ (ssetI ns).length < 64 then .ok (.fresh (.lst ((ssetI ns).map D.int))) S1 else .stuck
      | none => .stuck
    | _ => .stuck := rfl
@[simp] theorem ev_lrng (e : Ex) : evE F (.lrng e) sl S = (evE F e sl S).int?.bind fun i S1 => if 0 ≤ i ∧ i ≤ 16777216 then .ok (.fresh (.lst (rngD 0 i.toNat))) S1 else .stuck := rfl
@[simp] theorem ea_nil : evA F .nil sl S = .ok [] S := rfl
@[simp] theorem ea_cons (e : Ex) (es : Exs) : evA F (.cons e es) sl S = (evE F e sl S).data.bind fun d S1 => (evA F es sl S1).bind fun ds S2 => .ok (d :: ds) S2 := rfl
@[simp] theorem er_nil : evR F .nil sl S = .ok [] S := rfl
@[simp] theorem er_cons (e : Ex) (es : Exs) : evR F (.cons e es) sl S = (evE F e sl S).bind fun d S1 => (evR F es sl S1).bind fun ds S2 => .ok (d :: ds) S2 := rfl
@[simp] theorem ep_no : evP F .no sl S = .ok none S := rfl
@[simp] theorem ep_yes (e : Ex) : evP F (.yes e) sl S = (evE F e sl S).int?.bind fun i S1 => .ok (some i) S1 := rfl
@[simp] theorem ei_val (e : Ex) : evI F (.val e) sl S = (evE F e sl S).data.bind fun d S1 => Res.opt d.seq S1 := rfl
@[simp] theorem ei_rng1 (a : Ex) : evI F (.rng1 a) sl S = (evE F a sl S).int?.bind fun i S1 => if small62 i then .ok (rngD 0 i.toNat) S1 else .stuck := rfl
@[simp] theorem ei_rng2 (a b : Ex) : evI F (.rng2 a b) sl S = (evE F a sl S).int?.bind fun i S1 => (evE F b sl S1).int?.bind fun j S2 => if small62 i && small62 j then .ok (rngD i (j - i).toNat) S2 else .stuck := rfl
@[simp] theorem ei_zip (a b : Ex) : evI F (.zip a b) sl S = (evE F a sl S).data.bind fun x S1 => (evE F b sl S1).data.bind fun y S2 => match x, y with
    | .tup xs, .tup ys => .ok (zipD xs ys) S2
    | .lst xs, .lst ys => .ok (zipD xs ys) S2
    | .lst xs, .tup ys => .ok (zipD xs ys) S2
    | _, _ => .stuck := rfl
@[simp] theorem ei_enum (e : Ex) : evI F (.enum e) sl S = (evE F e sl S).data.bind fun d S1 => Res.opt (d.seq.map enumD) S1 := rfl
@[simp] theorem eb_nil : exB F .nil sl S = .ok (.nx, sl) S := rfl
theorem eb_cons (s : Sx) (ss : Sxs) : exB F (.cons s ss) sl S = (exS F s sl S).bind fun p S1 => match p.1 with
    | .nx => exB F ss p.2 S1
    | f => .ok (f, p.2) S1 := rfl
/-- what follows a statement -/
def thenB (ss : Sxs) (p : Fl × Slots) (S1 : Sto) : Res (Fl × Slots) := match p.1 with
    | .nx => exB F ss p.2 S1
    | f => .ok (f, p.2) S1
@[simp] theorem eb_cons' (s : Sx) (ss : Sxs) : exB F (.cons s ss) sl S = (exS F s sl S).bind (thenB F ss) := rfl
@[simp] theorem tb_nx (ss : Sxs) : thenB F ss (.nx, sl) S = exB F ss sl S := rfl
@[simp] theorem tb_rt (ss : Sxs) (r : Rv) : thenB F ss (.rt r, sl) S = .ok (.rt r, sl) S := rfl
@[simp] theorem tb_bk (ss : Sxs) : thenB F ss (.bk, sl) S = .ok (.bk, sl) S := rfl
@[simp] theorem tb_ct (ss : Sxs) : thenB F ss (.ct, sl) S = .ok (.ct, sl) S := rfl
@[simp] theorem es_asg (i : Nat) (e : Ex) : exS F (.asg (.nm i) e) sl S = (evE F e sl S).bind fun r S1 => Res.opt ((asgV i r sl).map fun s => (.nx, s)) S1 := rfl
@[simp] theorem es_asgT (ts : Tgs) (e : Ex) : exS F (.asg (.tup ts) e) sl S = (evE F e sl S).data.bind fun d S1 => Res.opt ((bindT (.tup ts) d sl).map fun s => (.nx, s)) S1 := rfl
@[simp] theorem es_asgL (ts : Tgs) (e : Ex) : exS F (.asgL ts e) sl S = (evE F e sl S).bind fun r S1 => match listOf r S1 with
    | some xs => Res.opt ((bindTs ts xs sl).map fun s => (.nx, s)) S1
    | none => .stuck := rfl
@[simp] theorem es_aug (i : Nat) (o : Bop) (e : Ex) : exS F (.aug i o e) sl S = match sl[i]? with
    | some (.val (.int a)) => (evE F e sl S).bind fun r S1 => match r.look with
      | .int b => Res.opt ((opBin o (.val (.int a)) (.val (.int b))).bind fun r => (asgV i r sl).map fun s => (.nx, s)) S1
      | _ => .stuck
    | _ => .stuck := rfl
@[simp] theorem es_setix (i : Nat) (k e : Ex) : exS F (.setix i k e) sl S = (evE F e sl S).data.bind fun d S1 => if lstAt i sl S1 then (evE F k sl S1).int?.bind fun k S2 => match chg i (setD · k d) sl S2 with
    | some (sl', S3) => .ok (.nx, sl') S3
    | none => .stuck
    else .stuck := rfl
@[simp] theorem es_app (i : Nat) (e : Ex) : exS F (.app i e) sl S = if lstAt i sl S then (evE F e sl S).data.bind fun d S1 => match chg i (appD · d) sl S1 with
    | some (sl', S3) => .ok (.nx, sl') S3
    | none => .stuck
    else .stuck := rfl
@[simp] theorem es_ins0 (i : Nat) (e : Ex) : exS F (.ins0 i e) sl S = if lstAt i sl S then (evE F e sl S).data.bind fun d S1 => match chg i (insD · d) sl S1 with
    | some (sl', S3) => .ok (.nx, sl') S3
    | none => .stuck
    else .stuck := rfl
@[simp] theorem es_expr (e : Ex) : exS F (.expr e) sl S = (evE F e sl S).bind fun _ S1 => .ok (.nx, sl) S1 := rfl
@[simp] theorem es_ret (e : Ex) : exS F (.ret e) sl S = (evE F e sl S).bind fun r S1 => match r with
    | .own _ => .stuck
    | r => .ok (.rt r, sl) S1 := rfl
@[simp] theorem es_retv (i : Nat) : exS F (.retv i) sl S = match sl[i]? with
    | some (.val d) => .ok (.rt (.val d), sl) S
    | some (.own c) => .ok (.rt (.fresh c), sl) S
    | _ => .stuck := rfl
@[simp] theorem es_retN : exS F .retN sl S = .ok (.rt (.val .non), sl) S := rfl
@[simp] theorem es_ife (c : Ex) (a b : Sxs) : exS F (.ife c a b) sl S = (evE F c sl S).truth.bind fun k S1 => if k then exB F a sl S1 else exB F b sl S1 := rfl
@[simp] theorem es_whl (c : Ex) (b : Sxs) : exS F (.whl c b) sl S = whlN (fun sl S => (evE F c sl S).truth) (exB F b) F.wf sl S := rfl
@[simp] theorem es_loop (t : Tg) (it : Itx) (b : Sxs) : exS F (.loop t it b) sl S = (evI F it sl S).bind fun items S1 => loopL t (exB F b) items sl S1 := rfl
@[simp] theorem es_brk : exS F .brk sl S = .ok (.bk, sl) S := rfl
@[simp] theorem es_cont : exS F .cont sl S = .ok (.ct, sl) S := rfl
@[simp] theorem es_pass : exS F .pass sl S = .ok (.nx, sl) S := rfl
@[simp] theorem es_frz (i : Nat) : exS F (.frz i) sl S = match sl[i]? with
    | some (.own c) => .ok (.nx, sl.set i (.val c.frz)) S
    | some (.val _) => .ok (.nx, sl) S
    | _ => .stuck := rfl
@[simp] theorem es_shr (i : Nat) : exS F (.shr i) sl S = match sl[i]? with
    | some (.own c) => .ok (.nx, sl.set i (.val (.ref S.length))) (S ++ [c])
    | _ => .stuck := rfl
end
@[simp] theorem truth_ok (a : Rv) (S : Sto) : (Res.ok a S).truth = Res.opt a.look.truth S := rfl
@[simp] theorem data_ok (a : Rv) (S : Sto) : (Res.ok a S).data = Res.opt a.toD S := rfl
@[simp] theorem int_ok (i : Int) (S : Sto) : (Res.ok (.val (.int i)) S).int? = .ok i S := rfl
@[simp] theorem look_val (d : D) : (Rv.val d).look = d := rfl
@[simp] theorem look_fresh (c : Cn) : (Rv.fresh c).look = c.frz := rfl
@[simp] theorem look_own (c : Cn) : (Rv.own c).look = c.frz := rfl
@[simp] theorem frz_lst (xs : List D) : (Cn.lst xs).frz = .lst xs := rfl
@[simp] theorem toD_val (d : D) : (Rv.val d).toD = some d := rfl
@[simp] theorem toD_fresh (c : Cn) : (Rv.fresh c).toD = some c.frz := rfl
@[simp] theorem tr_non : D.truth .non = some false := rfl
@[simp] theorem tr_bl (b : Bool) : D.truth (.bl b) = some b := rfl
@[simp] theorem tr_int (i : Int) : D.truth (.int i) = some (i != 0) := rfl
@[simp] theorem tr_tup (xs : List D) : D.truth (.tup xs) = some (!xs.isEmpty) := rfl
@[simp] theorem tr_lst (xs : List D) : D.truth (.lst xs) = some (!xs.isEmpty) := rfl
@[simp] theorem ob_look (o : Bop) (a b : Rv) : opBin o a b = opBinD o a.look b.look := rfl
@[simp] theorem ob_add (i j : Int) : opBinD .add (.int i) (.int j) = some (.val (.int (i + j))) := rfl
@[simp] theorem ob_sub (i j : Int) : opBinD .sub (.int i) (.int j) = some (.val (.int (i - j))) := rfl
@[simp] theorem ob_addT (x y : List D) : opBinD .add (.tup x) (.tup y) = if x.length + y.length ≤ sizeLine then some (.val (.tup (x ++ y))) else none := rfl
@[simp] theorem ob_addL (x y : List D) : opBinD .add (.lst x) (.lst y) = if x.length + y.length ≤ sizeLine then some (.fresh (.lst (x ++ y))) else none := rfl
@[simp] theorem ob_mod (i j : Int) : opBinD .mod (.int i) (.int j) = if 0 < j then some (.val (.int (i % j))) else none := rfl
@[simp] theorem ob_fdiv (i j : Int) : opBinD .fdiv (.int i) (.int j) = if 0 < j ∧ j.natAbs.log2 < 9000 then some (.val (.int (i / j))) else none := rfl
theorem ob_mul (i j : Int) : opBinD .mul (.int i) (.int j) = if i.natAbs.log2 + j.natAbs.log2 < 1000000 then some (.val (.int (i * j))) else none := rfl
theorem ob_mulT (x : List D) (j : Int) : opBinD .mul (.tup x) (.int j) = if -1000 ≤ j ∧ j ≤ 1000 ∧ x.length ≤ 1000 then some (.val (.tup (List.replicate j.toNat x).flatten)) else none := rfl
theorem ob_pow (i j : Int) : opBinD .pow (.int i) (.int j) = if 0 ≤ j ∧ j ≤ 1000000 ∧ i.natAbs < 2 ^ 64 then some (.val (.int (i ^ j.toNat))) else none := rfl
@[simp] theorem oc_look (o : Cop) (a b : Rv) : opCmp o a b = opCmpD o a.look b.look := rfl
@[simp] theorem oc_lt (i j : Int) : opCmpD .lt (.int i) (.int j) = some (decide (i < j)) := rfl
@[simp] theorem oc_le (i j : Int) : opCmpD .le (.int i) (.int j) = some (decide (i ≤ j)) := rfl
@[simp] theorem oc_gt (i j : Int) : opCmpD .gt (.int i) (.int j) = some (decide (j < i)) := rfl
@[simp] theorem oc_ge (i j : Int) : opCmpD .ge (.int i) (.int j) = some (decide (j ≤ i)) := rfl
@[simp] theorem oc_isN (a : D) : opCmpD .isN a .non = some a.isNon := by cases a <;> rfl
@[simp] theorem oc_notN (a : D) : opCmpD .notN a .non = some (!a.isNon) := by cases a <;> rfl
@[simp] theorem oc_eq (a b : D) : opCmpD .eq a b = eqD a b := by cases a <;> cases b <;> rfl
@[simp] theorem oc_ne (a b : D) : opCmpD .ne a b = (eqD a b).map (!·) := by cases a <;> cases b <;> rfl
@[simp] theorem in_non : D.isNon .non = true := rfl
@[simp] theorem in_int (i : Int) : D.isNon (.int i) = false := rfl
@[simp] theorem in_tup (i : List D) : D.isNon (.tup i) = false := rfl
@[simp] theorem in_lst (i : List D) : D.isNon (.lst i) = false := rfl
@[simp] theorem in_bl (i : Bool) : D.isNon (.bl i) = false := rfl
@[simp] theorem in_str (i : Str) : D.isNon (.str i) = false := rfl
@[simp] theorem oi_look (a b : Rv) : opIx a b = opIxD a.look b.look := rfl
@[simp] theorem oi_tup (xs : List D) (i : Int) : opIxD (.tup xs) (.int i) = (atI xs i).map .val := rfl
@[simp] theorem oi_lst (xs : List D) (i : Int) : opIxD (.lst xs) (.int i) = (atI xs i).map .val := rfl
@[simp] theorem os_look (a : Rv) (l h : Option Int) : opSl a l h = opSlD a.look l h := rfl
@[simp] theorem os_tup (xs : List D) (l h : Option Int) : opSlD (.tup xs) l h = some (.val (.tup (slc xs l h))) := rfl
@[simp] theorem os_lst (xs : List D) (l h : Option Int) : opSlD (.lst xs) l h = some (.fresh (.lst (slc xs l h))) := rfl
@[simp] theorem os_scr (xs : List D) (l h : Option Int) : opSlD (.scr xs) l h = some (.fresh (.lst (slc xs l h))) := rfl
@[simp] theorem or_look (a : Rv) : opRev a = opRevD a.look := rfl
@[simp] theorem or_tup (xs : List D) : opRevD (.tup xs) = some (.val (.tup xs.reverse)) := rfl
@[simp] theorem or_lst (xs : List D) : opRevD (.lst xs) = some (.fresh (.lst xs.reverse)) := rfl
@[simp] theorem bi_lenT (xs : List D) : opBi .len [.val (.tup xs)] = some (.val (.int xs.length)) := rfl
@[simp] theorem bi_lenL (xs : List D) : opBi .len [.val (.lst xs)] = some (.val (.int xs.length)) := rfl
@[simp] theorem bi_lenS (xs : List D) : opBi .len [.val (.scr xs)] = some (.val (.int xs.length)) := rfl
@[simp] theorem bi_lenO (xs : List D) : opBi .len [.own (.lst xs)] = some (.val (.int xs.length)) := rfl
@[simp] theorem bi_lenF (xs : List D) : opBi .len [.fresh (.lst xs)] = some (.val (.int xs.length)) := rfl
@[simp] theorem bi_abs (i : Int) : opBi .abs [.val (.int i)] = some (.val (.int (if i < 0 then -i else i))) := rfl
@[simp] theorem bi_max2 (i j : Int) : opBi .max2 [.val (.int i), .val (.int j)] = some (.val (.int (if j > i then j else i))) := rfl
@[simp] theorem bi_min2 (i j : Int) : opBi .min2 [.val (.int i), .val (.int j)] = some (.val (.int (if j < i then j else i))) := rfl
@[simp] theorem bi_tupT (xs : List D) : opBi .tuple [.val (.tup xs)] = some (.val (.tup xs)) := rfl
@[simp] theorem bi_tupF (xs : List D) : opBi .tuple [.fresh (.lst xs)] = some (.val (.tup xs)) := rfl
@[simp] theorem bi_tupO (xs : List D) : opBi .tuple [.own (.lst xs)] = some (.val (.tup xs)) := rfl
@[simp] theorem bi_tupL (xs : List D) : opBi .tuple [.val (.lst xs)] = some (.val (.tup xs)) := rfl
@[simp] theorem sq_tup (xs : List D) : D.seq (.tup xs) = some xs := rfl
@[simp] theorem sq_lst (xs : List D) : D.seq (.lst xs) = some xs := rfl
@[simp] theorem asg_val (i : Nat) (d : D) (sl : Slots) : asgV i (.val d) sl = some (sl.set i (.val d)) := rfl
@[simp] theorem asg_fresh (i : Nat) (d : Cn) (sl : Slots) : asgV i (.fresh d) sl = some (sl.set i (.own d)) := rfl
@[simp] theorem bt_nm (i : Nat) (d : D) (sl : Slots) : bindT (.nm i) d sl = some (sl.set i (.val d)) := rfl
@[simp] theorem bt_tup (ts : Tgs) (xs : List D) (sl : Slots) : bindT (.tup ts) (.tup xs) sl = bindTs ts xs sl := rfl
@[simp] theorem bts_nil (sl : Slots) : bindTs .nil [] sl = some sl := rfl
@[simp] theorem bts_cons (t : Tg) (ts : Tgs) (x : D) (xs : List D) (sl : Slots) : bindTs (.cons t ts) (x :: xs) sl = match bindT t x sl with
    | some sl' => bindTs ts xs sl'
    | none => none := rfl
@[simp] theorem lo_ref (i : Nat) (S : Sto) : listOf (.val (.ref i)) S = match S[i]? with
    | some (.lst xs) => some xs
    | none => none := rfl
theorem call_eq {T : String → Option Fn} {G : String → Option D} {wf n : Nat} {f : String} {d : Fn} (h : T f = some d) {as : List D} {S : Sto} (hl : as.length = d.ar) :
    callN T G wf (n + 1) f as S = outOf (exB ⟨callN T G wf n, G, wf⟩ d.body (as.map .val ++ List.replicate (d.names.length - d.ar) .emp) S) := by
  show (match T f with | some d => _ | none => _) = _
  rw [h]
  show (if as.length = d.ar then _ else _) = _
  rw [if_pos hl]
  rfl
@[simp] theorem out_rt (r : Rv) (sl : Slots) (S : Sto) : outOf (.ok (.rt r, sl) S) = .ok r S := rfl
@[simp] theorem out_nx (sl : Slots) (S : Sto) : outOf (.ok (.nx, sl) S) = .ok (.val .non) S := rfl
/-- a frame's slots at the entry, small numbers of them -/
@[simp] theorem rep0 {α : Type} (a : α) : List.replicate 0 a = [] := rfl
@[simp] theorem rep1 {α : Type} (a : α) : List.replicate 1 a = [a] := rfl
@[simp] theorem rep2 {α : Type} (a : α) : List.replicate 2 a = [a, a] := rfl
@[simp] theorem rep3 {α : Type} (a : α) : List.replicate 3 a = [a, a, a] := rfl
@[simp] theorem rep4 {α : Type} (a : α) : List.replicate 4 a = [a, a, a, a] := rfl
@[simp] theorem rep5 {α : Type} (a : α) : List.replicate 5 a = [a, a, a, a, a] := rfl
@[simp] theorem rep6 {α : Type} (a : α) : List.replicate 6 a = [a, a, a, a, a, a] := rfl
@[simp] theorem rep7 {α : Type} (a : α) : List.replicate 7 a = [a, a, a, a, a, a, a] := rfl
@[simp] theorem rep8 {α : Type} (a : α) : List.replicate 8 a = [a, a, a, a, a, a, a, a] := rfl
@[simp] theorem rep9 {α : Type} (a : α) : List.replicate 9 a = [a, a, a, a, a, a, a, a, a] := rfl
@[simp] theorem rep10 {α : Type} (a : α) : List.replicate 10 a = [a, a, a, a, a, a, a, a, a, a] := rfl
@[simp] theorem rep11 {α : Type} (a : α) : List.replicate 11 a = [a, a, a, a, a, a, a, a, a, a, a] := rfl
@[simp] theorem rep12 {α : Type} (a : α) : List.replicate 12 a = [a, a, a, a, a, a, a, a, a, a, a, a] := rfl
@[simp] theorem rep13 {α : Type} (a : α) : List.replicate 13 a = [a, a, a, a, a, a, a, a, a, a, a, a, a] := rfl
@[simp] theorem rep14 {α : Type} (a : α) : List.replicate 14 a = [a, a, a, a, a, a, a, a, a, a, a, a, a, a] := rfl
@[simp] theorem rep15 {α : Type} (a : α) : List.replicate 15 a = [a, a, a, a, a, a, a, a, a, a, a, a, a, a, a] := rfl
@[simp] theorem rep16 {α : Type} (a : α) : List.replicate 16 a = [a, a, a, a, a, a, a, a, a, a, a, a, a, a, a, a] := rfl
@[simp] theorem rep17 {α : Type} (a : α) : List.replicate 17 a = [a, a, a, a, a, a, a, a, a, a, a, a, a, a, a, a, a] := rfl
@[simp] theorem rep18 {α : Type} (a : α) : List.replicate 18 a = [a, a, a, a, a, a, a, a, a, a, a, a, a, a, a, a, a, a] := rfl
@[simp] theorem rep19 {α : Type} (a : α) : List.replicate 19 a = [a, a, a, a, a, a, a, a, a, a, a, a, a, a, a, a, a, a, a] := rfl
@[simp] theorem rep20 {α : Type} (a : α) : List.replicate 20 a = [a, a, a, a, a, a, a, a, a, a, a, a, a, a, a, a, a, a, a, a] := rfl
@[simp] theorem rep21 {α : Type} (a : α) : List.replicate 21 a = [a, a, a, a, a, a, a, a, a, a, a, a, a, a, a, a, a, a, a, a, a] := rfl
@[simp] theorem rep22 {α : Type} (a : α) : List.replicate 22 a = [a, a, a, a, a, a, a, a, a, a, a, a, a, a, a, a, a, a, a, a, a, a] := rfl
@[simp] theorem rep23 {α : Type} (a : α) : List.replicate 23 a = [a, a, a, a, a, a, a, a, a, a, a, a, a, a, a, a, a, a, a, a, a, a, a] := rfl
@[simp] theorem rep24 {α : Type} (a : α) : List.replicate 24 a = [a, a, a, a, a, a, a, a, a, a, a, a, a, a, a, a, a, a, a, a, a, a, a, a] := rfl
end Px

set_option Elab.async false
set_option linter.all false
set_option maxRecDepth 100000
set_option maxHeartbeats 1000000
/-! Px, part U2: evaluation by simp, the later forms. -/
namespace Px
open PySem L2
@[simp] theorem gS14 {α : Type} (x0 x1 x2 x3 x4 x5 x6 x7 x8 x9 x10 x11 x12 x13 x14 : α) (l : List α) : (x0 :: x1 :: x2 :: x3 :: x4 :: x5 :: x6 :: x7 :: x8 :: x9 :: x10 :: x11 :: x12 :: x13 :: x14 :: l)[14]? = some x14 := rfl
@[simp] theorem sS14 {α : Type} (x0 x1 x2 x3 x4 x5 x6 x7 x8 x9 x10 x11 x12 x13 x14 y : α) (l : List α) : (x0 :: x1 :: x2 :: x3 :: x4 :: x5 :: x6 :: x7 :: x8 :: x9 :: x10 :: x11 :: x12 :: x13 :: x14 :: l).set 14 y = x0 :: x1 :: x2 :: x3 :: x4 :: x5 :: x6 :: x7 :: x8 :: x9 :: x10 :: x11 :: x12 :: x13 :: y :: l := rfl
@[simp] theorem gS15 {α : Type} (x0 x1 x2 x3 x4 x5 x6 x7 x8 x9 x10 x11 x12 x13 x14 x15 : α) (l : List α) : (x0 :: x1 :: x2 :: x3 :: x4 :: x5 :: x6 :: x7 :: x8 :: x9 :: x10 :: x11 :: x12 :: x13 :: x14 :: x15 :: l)[15]? = some x15 := rfl
@[simp] theorem sS15 {α : Type} (x0 x1 x2 x3 x4 x5 x6 x7 x8 x9 x10 x11 x12 x13 x14 x15 y : α) (l : List α) : (x0 :: x1 :: x2 :: x3 :: x4 :: x5 :: x6 :: x7 :: x8 :: x9 :: x10 :: x11 :: x12 :: x13 :: x14 :: x15 :: l).set 15 y = x0 :: x1 :: x2 :: x3 :: x4 :: x5 :: x6 :: x7 :: x8 :: x9 :: x10 :: x11 :: x12 :: x13 :: x14 :: y :: l := rfl
@[simp] theorem gS16 {α : Type} (x0 x1 x2 x3 x4 x5 x6 x7 x8 x9 x10 x11 x12 x13 x14 x15 x16 : α) (l : List α) : (x0 :: x1 :: x2 :: x3 :: x4 :: x5 :: x6 :: x7 :: x8 :: x9 :: x10 :: x11 :: x12 :: x13 :: x14 :: x15 :: x16 :: l)[16]? = some x16 := rfl
@[simp] theorem sS16 {α : Type} (x0 x1 x2 x3 x4 x5 x6 x7 x8 x9 x10 x11 x12 x13 x14 x15 x16 y : α) (l : List α) : (x0 :: x1 :: x2 :: x3 :: x4 :: x5 :: x6 :: x7 :: x8 :: x9 :: x10 :: x11 :: x12 :: x13 :: x14 :: x15 :: x16 :: l).set 16 y = x0 :: x1 :: x2 :: x3 :: x4 :: x5 :: x6 :: x7 :: x8 :: x9 :: x10 :: x11 :: x12 :: x13 :: x14 :: x15 :: y :: l := rfl
@[simp] theorem gS17 {α : Type} (x0 x1 x2 x3 x4 x5 x6 x7 x8 x9 x10 x11 x12 x13 x14 x15 x16 x17 : α) (l : List α) : (x0 :: x1 :: x2 :: x3 :: x4 :: x5 :: x6 :: x7 :: x8 :: x9 :: x10 :: x11 :: x12 :: x13 :: x14 :: x15 :: x16 :: x17 :: l)[17]? = some x17 := rfl
@[simp] theorem sS17 {α : Type} (x0 x1 x2 x3 x4 x5 x6 x7 x8 x9 x10 x11 x12 x13 x14 x15 x16 x17 y : α) (l : List α) : (x0 :: x1 :: x2 :: x3 :: x4 :: x5 :: x6 :: x7 :: x8 :: x9 :: x10 :: x11 :: x12 :: x13 :: x14 :: x15 :: x16 :: x17 :: l).set 17 y = x0 :: x1 :: x2 :: x3 :: x4 :: x5 :: x6 :: x7 :: x8 :: x9 :: x10 :: x11 :: x12 :: x13 :: x14 :: x15 :: x16 :: y :: l := rfl
@[simp] theorem gS18 {α : Type} (x0 x1 x2 x3 x4 x5 x6 x7 x8 x9 x10 x11 x12 x13 x14 x15 x16 x17 x18 : α) (l : List α) : (x0 :: x1 :: x2 :: x3 :: x4 :: x5 :: x6 :: x7 :: x8 :: x9 :: x10 :: x11 :: x12 :: x13 :: x14 :: x15 :: x16 :: x17 :: x18 :: l)[18]? = some x18 := rfl
@[simp] theorem sS18 {α : Type} (x0 x1 x2 x3 x4 x5 x6 x7 x8 x9 x10 x11 x12 x13 x14 x15 x16 x17 x18 y : α) (l : List α) : (x0 :: x1 :: x2 :: x3 :: x4 :: x5 :: x6 :: x7 :: x8 :: x9 :: x10 :: x11 :: x12 :: x13 :: x14 :: x15 :: x16 :: x17 :: x18 :: l).set 18 y = x0 :: x1 :: x2 :: x3 :: x4 :: x5 :: x6 :: x7 :: x8 :: x9 :: x10 :: x11 :: x12 :: x13 :: x14 :: x15 :: x16 :: x17 :: y :: l := rfl
@[simp] theorem gS19 {α : Type} (x0 x1 x2 x3 x4 x5 x6 x7 x8 x9 x10 x11 x12 x13 x14 x15 x16 x17 x18 x19 : α) (l : List α) : (x0 :: x1 :: x2 :: x3 :: x4 :: x5 :: x6 :: x7 :: x8 :: x9 :: x10 :: x11 :: x12 :: x13 :: x14 :: x15 :: x16 :: x17 :: x18 :: x19 :: l)[19]? = some x19 := rfl
@[simp] theorem sS19 {α : Type} (x0 x1 x2 x3 x4 x5 x6 x7 x8 x9 x10 x11 x12 x13 x14 x15 x16 x17 x18 x19 y : α) (l : List α) : (x0 :: x1 :: x2 :: x3 :: x4 :: x5 :: x6 :: x7 :: x8 :: x9 :: x10 :: x11 :: x12 :: x13 :: x14 :: x15 :: x16 :: x17 :: x18 :: x19 :: l).set 19 y = x0 :: x1 :: x2 :: x3 :: x4 :: x5 :: x6 :: x7 :: x8 :: x9 :: x10 :: x11 :: x12 :: x13 :: x14 :: x15 :: x16 :: x17 :: x18 :: y :: l := rfl
@[simp] theorem gS20 {α : Type} (x0 x1 x2 x3 x4 x5 x6 x7 x8 x9 x10 x11 x12 x13 x14 x15 x16 x17 x18 x19 x20 : α) (l : List α) : (x0 :: x1 :: x2 :: x3 :: x4 :: x5 :: x6 :: x7 :: x8 :: x9 :: x10 :: x11 :: x12 :: x13 :: x14 :: x15 :: x16 :: x17 :: x18 :: x19 :: x20 :: l)[20]? = some x20 := rfl
@[simp] theorem sS20 {α : Type} (x0 x1 x2 x3 x4 x5 x6 x7 x8 x9 x10 x11 x12 x13 x14 x15 x16 x17 x18 x19 x20 y : α) (l : List α) : (x0 :: x1 :: x2 :: x3 :: x4 :: x5 :: x6 :: x7 :: x8 :: x9 :: x10 :: x11 :: x12 :: x13 :: x14 :: x15 :: x16 :: x17 :: x18 :: x19 :: x20 :: l).set 20 y = x0 :: x1 :: x2 :: x3 :: x4 :: x5 :: x6 :: x7 :: x8 :: x9 :: x10 :: x11 :: x12 :: x13 :: x14 :: x15 :: x16 :: x17 :: x18 :: x19 :: y :: l := rfl
@[simp] theorem gS21 {α : Type} (x0 x1 x2 x3 x4 x5 x6 x7 x8 x9 x10 x11 x12 x13 x14 x15 x16 x17 x18 x19 x20 x21 : α) (l : List α) : (x0 :: x1 :: x2 :: x3 :: x4 :: x5 :: x6 :: x7 :: x8 :: x9 :: x10 :: x11 :: x12 :: x13 :: x14 :: x15 :: x16 :: x17 :: x18 :: x19 :: x20 :: x21 :: l)[21]? = some x21 := rfl
@[simp] theorem sS21 {α : Type} (x0 x1 x2 x3 x4 x5 x6 x7 x8 x9 x10 x11 x12 x13 x14 x15 x16 x17 x18 x19 x20 x21 y : α) (l : List α) : (x0 :: x1 :: x2 :: x3 :: x4 :: x5 :: x6 :: x7 :: x8 :: x9 :: x10 :: x11 :: x12 :: x13 :: x14 :: x15 :: x16 :: x17 :: x18 :: x19 :: x20 :: x21 :: l).set 21 y = x0 :: x1 :: x2 :: x3 :: x4 :: x5 :: x6 :: x7 :: x8 :: x9 :: x10 :: x11 :: x12 :: x13 :: x14 :: x15 :: x16 :: x17 :: x18 :: x19 :: x20 :: y :: l := rfl
@[simp] theorem gS22 {α : Type} (x0 x1 x2 x3 x4 x5 x6 x7 x8 x9 x10 x11 x12 x13 x14 x15 x16 x17 x18 x19 x20 x21 x22 : α) (l : List α) : (x0 :: x1 :: x2 :: x3 :: x4 :: x5 :: x6 :: x7 :: x8 :: x9 :: x10 :: x11 :: x12 :: x13 :: x14 :: x15 :: x16 :: x17 :: x18 :: x19 :: x20 :: x21 :: x22 :: l)[22]? = some x22 := rfl
@[simp] theorem sS22 {α : Type} (x0 x1 x2 x3 x4 x5 x6 x7 x8 x9 x10 x11 x12 x13 x14 x15 x16 x17 x18 x19 x20 x21 x22 y : α) (l : List α) : (x0 :: x1 :: x2 :: x3 :: x4 :: x5 :: x6 :: x7 :: x8 :: x9 :: x10 :: x11 :: x12 :: x13 :: x14 :: x15 :: x16 :: x17 :: x18 :: x19 :: x20 :: x21 :: x22 :: l).set 22 y = x0 :: x1 :: x2 :: x3 :: x4 :: x5 :: x6 :: x7 :: x8 :: x9 :: x10 :: x11 :: x12 :: x13 :: x14 :: x15 :: x16 :: x17 :: x18 :: x19 :: x20 :: x21 :: y :: l := rfl
@[simp] theorem gS23 {α : Type} (x0 x1 x2 x3 x4 x5 x6 x7 x8 x9 x10 x11 x12 x13 x14 x15 x16 x17 x18 x19 x20 x21 x22 x23 : α) (l : List α) : (x0 :: x1 :: x2 :: x3 :: x4 :: x5 :: x6 :: x7 :: x8 :: x9 :: x10 :: x11 :: x12 :: x13 :: x14 :: x15 :: x16 :: x17 :: x18 :: x19 :: x20 :: x21 :: x22 :: x23 :: l)[23]? = some x23 := rfl
@[simp] theorem sS23 {α : Type} (x0 x1 x2 x3 x4 x5 x6 x7 x8 x9 x10 x11 x12 x13 x14 x15 x16 x17 x18 x19 x20 x21 x22 x23 y : α) (l : List α) : (x0 :: x1 :: x2 :: x3 :: x4 :: x5 :: x6 :: x7 :: x8 :: x9 :: x10 :: x11 :: x12 :: x13 :: x14 :: x15 :: x16 :: x17 :: x18 :: x19 :: x20 :: x21 :: x22 :: x23 :: l).set 23 y = x0 :: x1 :: x2 :: x3 :: x4 :: x5 :: x6 :: x7 :: x8 :: x9 :: x10 :: x11 :: x12 :: x13 :: x14 :: x15 :: x16 :: x17 :: x18 :: x19 :: x20 :: x21 :: x22 :: y :: l := rfl
@[simp] theorem gS24 {α : Type} (x0 x1 x2 x3 x4 x5 x6 x7 x8 x9 x10 x11 x12 x13 x14 x15 x16 x17 x18 x19 x20 x21 x22 x23 x24 : α) (l : List α) : (x0 :: x1 :: x2 :: x3 :: x4 :: x5 :: x6 :: x7 :: x8 :: x9 :: x10 :: x11 :: x12 :: x13 :: x14 :: x15 :: x16 :: x17 :: x18 :: x19 :: x20 :: x21 :: x22 :: x23 :: x24 :: l)[24]? = some x24 := rfl
@[simp] theorem sS24 {α : Type} (x0 x1 x2 x3 x4 x5 x6 x7 x8 x9 x10 x11 x12 x13 x14 x15 x16 x17 x18 x19 x20 x21 x22 x23 x24 y : α) (l : List α) : (x0 :: x1 :: x2 :: x3 :: x4 :: x5 :: x6 :: x7 :: x8 :: x9 :: x10 :: x11 :: x12 :: x13 :: x14 :: x15 :: x16 :: x17 :: x18 :: x19 :: x20 :: x21 :: x22 :: x23 :: x24 :: l).set 24 y = x0 :: x1 :: x2 :: x3 :: x4 :: x5 :: x6 :: x7 :: x8 :: x9 :: x10 :: x11 :: x12 :: x13 :: x14 :: x15 :: x16 :: x17 :: x18 :: x19 :: x20 :: x21 :: x22 :: x23 :: y :: l := rfl
@[simp] theorem gS25 {α : Type} (x0 x1 x2 x3 x4 x5 x6 x7 x8 x9 x10 x11 x12 x13 x14 x15 x16 x17 x18 x19 x20 x21 x22 x23 x24 x25 : α) (l : List α) : (x0 :: x1 :: x2 :: x3 :: x4 :: x5 :: x6 :: x7 :: x8 :: x9 :: x10 :: x11 :: x12 :: x13 :: x14 :: x15 :: x16 :: x17 :: x18 :: x19 :: x20 :: x21 :: x22 :: x23 :: x24 :: x25 :: l)[25]? = some x25 := rfl
@[simp] theorem sS25 {α : Type} (x0 x1 x2 x3 x4 x5 x6 x7 x8 x9 x10 x11 x12 x13 x14 x15 x16 x17 x18 x19 x20 x21 x22 x23 x24 x25 y : α) (l : List α) : (x0 :: x1 :: x2 :: x3 :: x4 :: x5 :: x6 :: x7 :: x8 :: x9 :: x10 :: x11 :: x12 :: x13 :: x14 :: x15 :: x16 :: x17 :: x18 :: x19 :: x20 :: x21 :: x22 :: x23 :: x24 :: x25 :: l).set 25 y = x0 :: x1 :: x2 :: x3 :: x4 :: x5 :: x6 :: x7 :: x8 :: x9 :: x10 :: x11 :: x12 :: x13 :: x14 :: x15 :: x16 :: x17 :: x18 :: x19 :: x20 :: x21 :: x22 :: x23 :: x24 :: y :: l := rfl
@[simp] theorem gS26 {α : Type} (x0 x1 x2 x3 x4 x5 x6 x7 x8 x9 x10 x11 x12 x13 x14 x15 x16 x17 x18 x19 x20 x21 x22 x23 x24 x25 x26 : α) (l : List α) : (x0 :: x1 :: x2 :: x3 :: x4 :: x5 :: x6 :: x7 :: x8 :: x9 :: x10 :: x11 :: x12 :: x13 :: x14 :: x15 :: x16 :: x17 :: x18 :: x19 :: x20 :: x21 :: x22 :: x23 :: x24 :: x25 :: x26 :: l)[26]? = some x26 := rfl
@[simp] theorem sS26 {α : Type} (x0 x1 x2 x3 x4 x5 x6 x7 x8 x9 x10 x11 x12 x13 x14 x15 x16 x17 x18 x19 x20 x21 x22 x23 x24 x25 x26 y : α) (l : List α) : (x0 :: x1 :: x2 :: x3 :: x4 :: x5 :: x6 :: x7 :: x8 :: x9 :: x10 :: x11 :: x12 :: x13 :: x14 :: x15 :: x16 :: x17 :: x18 :: x19 :: x20 :: x21 :: x22 :: x23 :: x24 :: x25 :: x26 :: l).set 26 y = x0 :: x1 :: x2 :: x3 :: x4 :: x5 :: x6 :: x7 :: x8 :: x9 :: x10 :: x11 :: x12 :: x13 :: x14 :: x15 :: x16 :: x17 :: x18 :: x19 :: x20 :: x21 :: x22 :: x23 :: x24 :: x25 :: y :: l := rfl
@[simp] theorem gS27 {α : Type} (x0 x1 x2 x3 x4 x5 x6 x7 x8 x9 x10 x11 x12 x13 x14 x15 x16 x17 x18 x19 x20 x21 x22 x23 x24 x25 x26 x27 : α) (l : List α) : (x0 :: x1 :: x2 :: x3 :: x4 :: x5 :: x6 :: x7 :: x8 :: x9 :: x10 :: x11 :: x12 :: x13 :: x14 :: x15 :: x16 :: x17 :: x18 :: x19 :: x20 :: x21 :: x22 :: x23 :: x24 :: x25 :: x26 :: x27 :: l)[27]? = some x27 := rfl
@[simp] theorem sS27 {α : Type} (x0 x1 x2 x3 x4 x5 x6 x7 x8 x9 x10 x11 x12 x13 x14 x15 x16 x17 x18 x19 x20 x21 x22 x23 x24 x25 x26 x27 y : α) (l : List α) : (x0 :: x1 :: x2 :: x3 :: x4 :: x5 :: x6 :: x7 :: x8 :: x9 :: x10 :: x11 :: x12 :: x13 :: x14 :: x15 :: x16 :: x17 :: x18 :: x19 :: x20 :: x21 :: x22 :: x23 :: x24 :: x25 :: x26 :: x27 :: l).set 27 y = x0 :: x1 :: x2 :: x3 :: x4 :: x5 :: x6 :: x7 :: x8 :: x9 :: x10 :: x11 :: x12 :: x13 :: x14 :: x15 :: x16 :: x17 :: x18 :: x19 :: x20 :: x21 :: x22 :: x23 :: x24 :: x25 :: x26 :: y :: l := rfl
section
variable (F : Cf) (sl : Slots) (S : Sto)
@[simp] theorem ev_glob (x : String) : evE F (.glob x) sl S = Res.opt ((F.glob x).map .val) S := rfl
@[simp] theorem ev_ixr (a i : Ex) : evE F (.ixr a i) sl S = (evE F a sl S).bind fun x S1 => (evE F i sl S1).bind fun y S2 => Res.opt (opIxD (x.lookS S2) (y.lookS S2)) S2 := rfl
@[simp] theorem ev_cmpr (o : Cop) (a b : Ex) : evE F (.cmpr o a b) sl S = (evE F a sl S).bind fun x S1 => (evE F b sl S1).bind fun y S2 => Res.opt ((opCmpD o (x.lookS S2) (y.lookS S2)).map fun k => .val (.bl k)) S2 := rfl
@[simp] theorem ev_shr (e : Ex) : evE F (.shr e) sl S = (evE F e sl S).bind fun r S1 => match r with
    | .fresh c => .ok (.val (.ref S1.length)) (S1 ++ [c])
    | _ => .stuck := rfl
@[simp] theorem ev_popr (a : Ex) (k : Exo) : evE F (.popr a k) sl S = (evE F a sl S).bind fun x S1 => if x.isRef then (evP F k sl S1).bind fun k S2 => match refAt x S2 with
    | some (j, xs) => match popD xs k with
      | some (d, ys) => .ok (.val d) (S2.set j (.lst ys))
      | none => .stuck
    | none => .stuck
    else .stuck := rfl
@[simp] theorem ev_appr (a e : Ex) : evE F (.appr a e) sl S = (evE F a sl S).bind fun x S1 => if x.isRef then (evE F e sl S1).data.bind fun d S2 => match refAt x S2 with
    | some (j, xs) => if xs.length < sizeLine then .ok (.val .non) (S2.set j (.lst (xs ++ [d]))) else .stuck
    | none => .stuck
    else .stuck := rfl
@[simp] theorem es_ext (i : Nat) (e : Ex) : exS F (.ext i e) sl S = if lstAt i sl S then (evE F e sl S).bind fun r S1 => match r.look.seq with
      | some ys => match chg i (extD · ys) sl S1 with
        | some (sl', S3) => .ok (.nx, sl') S3
        | none => .stuck
      | none => .stuck
    else .stuck := rfl
@[simp] theorem es_setixr (a k e : Ex) : exS F (.setixr a k e) sl S = (evE F e sl S).data.bind fun d S1 => (evE F a sl S1).bind fun x S2 => (evE F k sl S2).int?.bind fun k S3 => match refAt x S3 with
    | some (j, xs) => match setD xs k d with
      | some ys => .ok (.nx, sl) (S3.set j (.lst ys))
      | none => .stuck
    | none => .stuck := rfl
end
@[simp] theorem lookS_eq (r : Rv) (S : Sto) : r.lookS S = r.look.lookS S := rfl
@[simp] theorem lkS_int (i : Int) (S : Sto) : D.lookS S (.int i) = .int i := rfl
@[simp] theorem lkS_lst (i : List D) (S : Sto) : D.lookS S (.lst i) = .lst i := rfl
@[simp] theorem lkS_tup (i : List D) (S : Sto) : D.lookS S (.tup i) = .tup i := rfl
@[simp] theorem lkS_non (S : Sto) : D.lookS S .non = .non := rfl
@[simp] theorem lkS_bl (b : Bool) (S : Sto) : D.lookS S (.bl b) = .bl b := rfl
@[simp] theorem lkS_ref (i : Nat) (S : Sto) : D.lookS S (.ref i) = match S[i]? with
    | some (.lst xs) => .lst xs
    | none => .ref i := rfl
@[simp] theorem isRef_ref (i : Nat) : (Rv.val (.ref i)).isRef = true := rfl
@[simp] theorem refAt_ref (i : Nat) (S : Sto) : refAt (.val (.ref i)) S = match S[i]? with
    | some (.lst xs) => some (i, xs)
    | none => none := rfl
theorem geV2 (a b x y : Int) : geV [a, b] [x, y] = if a = x then (if b = y then true else decide (y ≤ b)) else decide (x ≤ a) := by
  unfold geV
  show Ob.lexAt _ _ _ 0 2 = _
  simp only [Ob.lexAt_succ, Ob.lexAt_zero]
  simp [List.getD]
theorem ge_tup2 (a b x y : Int) : opCmpD .ge (.tup [.int a, .int b]) (.tup [.int x, .int y]) = some (if a = x then decide (y ≤ b) else decide (x ≤ a)) := by
  show some (geV [a, b] [x, y]) = _
  rw [geV2]
  by_cases h : b = y
  · subst h; simp
  · simp [h]
@[simp] theorem oc_isB (a b : Bool) : opCmpD .isB (.bl a) (.bl b) = some (decide (a = b)) := rfl
@[simp] theorem oc_notB (a b : Bool) : opCmpD .notB (.bl a) (.bl b) = some (!decide (a = b)) := rfl
@[simp] theorem oc_inL (a : D) (ys : List D) : opCmpD .inn a (.lst ys) = inD a ys := by cases a <;> rfl
@[simp] theorem oc_inT (a : D) (ys : List D) : opCmpD .inn a (.tup ys) = inD a ys := by cases a <;> rfl
@[simp] theorem oc_ninL (a : D) (ys : List D) : opCmpD .nin a (.lst ys) = (inD a ys).map (!·) := by cases a <;> rfl
@[simp] theorem oc_ninT (a : D) (ys : List D) : opCmpD .nin a (.tup ys) = (inD a ys).map (!·) := by cases a <;> rfl
@[simp] theorem bi_intI (i : Int) : opBi .int [.val (.int i)] = some (.val (.int i)) := rfl
@[simp] theorem bi_intB (k : Bool) : opBi .int [.val (.bl k)] = some (.val (.int (if k then 1 else 0))) := rfl
theorem bi_strI (i : Int) : opBi .str [.val (.int i)] = if i.natAbs.log2 < 1920 then some (.val (.str (toString i))) else none := rfl
@[simp] theorem bi_sortV (xs : List D) : opBi .sorted [.val (.lst xs)] = (sortD xs).map fun ys => .fresh (.lst ys) := rfl
@[simp] theorem bi_sortT (xs : List D) : opBi .sorted [.val (.tup xs)] = (dPairs xs).map fun ps => .fresh (.lst ((ps.mergeSort leP).map fun p => .tup [.int p.1, .int p.2])) := rfl
@[simp] theorem bi_sortF (xs : List D) : opBi .sorted [.fresh (.lst xs)] = (sortD xs).map fun ys => .fresh (.lst ys) := rfl
@[simp] theorem bi_sortO (xs : List D) : opBi .sorted [.own (.lst xs)] = (sortD xs).map fun ys => .fresh (.lst ys) := rfl
theorem ob_shl (i j : Int) : opBinD .shl (.int i) (.int j) = if 0 ≤ j ∧ j ≤ 1000000 ∧ i.natAbs < 2 ^ 64 then some (.val (.int (i * 2 ^ j.toNat))) else none := rfl
theorem ob_shr (i j : Int) : opBinD .shr (.int i) (.int j) = if 0 ≤ j then some (.val (.int (i / 2 ^ j.toNat))) else none := rfl
theorem ob_band (i j : Int) : opBinD .band (.int i) (.int j) = some (.val (.int (Builtin.bitAnd i j))) := rfl
theorem ob_bor (i j : Int) : opBinD .bor (.int i) (.int j) = some (.val (.int (Builtin.bitOr i j))) := rfl
end Px

set_option linter.all false
/-! Px: the text of defs that many laws share, in my form. -/
namespace Px.L
open PySem L2
def ir_gain : Fn := ⟨1, ["pair"], (.cons (.ret (.bin .sub (.ix (.var 0) (.int 1)) (.ix (.var 0) (.int 0))))
 .nil)⟩
def ir_joined : Fn := ⟨2, ["one", "other", "need"], (.cons (.asg (.nm 2) (.bi .max2 (.cons (.ix (.var 0) (.int 0)) (.cons (.bin .sub (.ix (.var 1) (.int 0)) (.call "gain" (.cons (.var 0) .nil))) .nil))))
 (.cons (.ret (.tup (.cons (.var 2) (.cons (.bin .add (.bin .add (.var 2) (.call "gain" (.cons (.var 0) .nil))) (.call "gain" (.cons (.var 1) .nil))) .nil))))
 .nil))⟩
def b_whole_0 : Sxs := (.cons (.asg (.nm 1) (.call "joined" (.cons (.var 1) (.cons (.var 2) .nil))))
 (.cons (.frz 1)
 .nil))
def ir_whole : Fn := ⟨1, ["row", "found", "pair"], (.cons (.asg (.nm 1) (.tup (.cons (.int 0) (.cons (.int 0) .nil))))
 (.cons (.loop (.nm 2) (.val (.var 0)) b_whole_0)
 (.cons (.retv 1)
 .nil)))⟩
def ir_take : Fn := ⟨2, ["_law_stream_here", "_law_below", "_law_cells", "_law_begun", "_law_left", "_law_blend"], (.cons (.asgL (.cons (.nm 2) (.cons (.nm 3) (.cons (.nm 4) (.cons (.nm 5) .nil)))) (.var 0))
 (.cons (.ife (.and (.cmp .eq (.var 4) (.int 0)) (.cmp .lt (.var 3) (.bi .len (.cons (.var 2) .nil))))
 (.cons (.setix 0 (.int 1) (.bin .add (.var 3) (.int 1)))
 (.cons (.ife (.cmp .ge (.ix (.var 2) (.var 3)) (.bin .pow (.int 10) (.int 18)))
 (.cons (.asg (.nm 4) (.ix (.var 2) (.var 3)))
 .nil)
 (.cons (.asg (.nm 5) (.bin .add (.var 5) (.bin .mod (.ix (.var 2) (.var 3)) (.int 2147483629))))
 (.cons (.frz 5)
 .nil)))
 .nil))
 .nil)
 (.cons (.ife (.cmp .gt (.var 4) (.int 0))
 (.cons (.setix 0 (.int 2) (.bin .fdiv (.var 4) (.var 1)))
 (.cons (.ret (.bin .mod (.var 4) (.var 1)))
 .nil))
 .nil)
 (.cons (.asg (.nm 5) (.bin .mod (.bin .add (.bin .mul (.var 5) (.int 48271)) (.int 30011)) (.int 2147483647)))
 (.cons (.frz 5)
 (.cons (.setix 0 (.int 3) (.var 5))
 (.cons (.ret (.bin .mod (.bin .fdiv (.bin .mod (.bin .mul (.var 5) (.var 5)) (.int 2147483629)) (.int 16)) (.var 1)))
 .nil)))))))⟩
def ir_number : Fn := ⟨1, ["_law_stream_here", "_law_way"], (.cons (.asg (.nm 1) (.call "_law_take" (.cons (.var 0) (.cons (.int 16) .nil))))
 (.cons (.frz 1)
 (.cons (.ife (.cmp .eq (.var 1) (.int 0))
 (.cons (.ret (.int 0))
 .nil)
 .nil)
 (.cons (.ife (.cmp .lt (.var 1) (.int 12))
 (.cons (.ret (.call "_law_take" (.cons (.var 0) (.cons (.int 10) .nil))))
 .nil)
 .nil)
 (.cons (.ife (.cmp .lt (.var 1) (.int 15))
 (.cons (.ret (.call "_law_take" (.cons (.var 0) (.cons (.int 41) .nil))))
 .nil)
 .nil)
 (.cons (.ret (.bin .add (.ix (.list (.cons (.bin .pow (.int 10) (.int 9)) (.cons (.bin .pow (.int 10) (.int 12)) (.cons (.bin .pow (.int 10) (.int 18)) (.cons (.bin .pow (.int 10) (.int 39)) .nil))))) (.call "_law_take" (.cons (.var 0) (.cons (.int 4) .nil)))) (.call "_law_take" (.cons (.var 0) (.cons (.int 3) .nil)))))
 .nil))))))⟩
def ir_pair : Fn := ⟨1, ["_law_stream_here", "_law_need"], (.cons (.ife (.cmp .eq (.call "_law_take" (.cons (.var 0) (.cons (.int 4) .nil))) (.int 0))
 (.cons (.ret (.tup (.cons (.call "_law_number" (.cons (.var 0) .nil)) (.cons (.call "_law_number" (.cons (.var 0) .nil)) .nil))))
 .nil)
 .nil)
 (.cons (.asg (.nm 1) (.call "_law_take" (.cons (.var 0) (.cons (.int 12) .nil))))
 (.cons (.frz 1)
 (.cons (.ret (.tup (.cons (.var 1) (.cons (.bi .max2 (.cons (.int 0) (.cons (.bin .sub (.bin .add (.var 1) (.call "_law_take" (.cons (.var 0) (.cons (.int 9) .nil)))) (.int 4)) .nil))) .nil))))
 .nil))))⟩
def b_row_0 : Sxs := (.cons (.app 2 (.call "_law_pair" (.cons (.var 0) .nil)))
 (.cons (.ife (.cmp .eq (.call "_law_take" (.cons (.var 0) (.cons (.int 5) .nil))) (.int 0))
 (.cons (.setix 2 (.var 3) (.ix (.var 2) (.call "_law_take" (.cons (.var 0) (.cons (.bin .add (.var 3) (.int 1)) .nil)))))
 .nil)
 .nil)
 .nil))
def ir_row : Fn := ⟨2, ["_law_stream_here", "_law_most", "_law_found", "_law_k"], (.cons (.asg (.nm 2) (.list .nil))
 (.cons (.loop (.nm 3) (.rng1 (.call "_law_take" (.cons (.var 0) (.cons (.bin .add (.var 1) (.int 1)) .nil)))) b_row_0)
 (.cons (.ret (.bi .tuple (.cons (.var 2) .nil)))
 .nil)))⟩
def c_alike_0 : Ex := .comp [("_law_k", 2)] (.nm 2) (.rng1 (.bi .len (.cons (.var 1) .nil))) (.not (.call "_law_alike" (.cons (.ix (.var 0) (.var 2)) (.cons (.ix (.var 1) (.var 2)) .nil)))) (.var 2)
def ir_alike : Fn := ⟨2, ["_law_found", "_law_due", "_law_k"], (.cons (.ife (.isin (.var 1) true [.tuple])
 (.cons (.ife (.or (.not (.isin (.var 0) true [.tuple])) (.cmp .ne (.bi .len (.cons (.var 0) .nil)) (.bi .len (.cons (.var 1) .nil))))
 (.cons (.ret (.bl false))
 .nil)
 .nil)
 (.cons (.ret (.cmp .eq c_alike_0 (.list .nil)))
 .nil))
 .nil)
 (.cons (.ife (.cmp .isN (.var 1) .non)
 (.cons (.ret (.cmp .isN (.var 0) .non))
 .nil)
 .nil)
 (.cons (.ife (.isin (.var 1) true [.bool])
 (.cons (.ret (.and (.isin (.var 0) true [.bool]) (.cmp .eq (.var 0) (.var 1))))
 .nil)
 .nil)
 (.cons (.ife (.isin (.var 1) true [.str])
 (.cons (.ret (.and (.isin (.var 0) true [.str]) (.cmp .eq (.var 0) (.var 1))))
 .nil)
 .nil)
 (.cons (.ret (.and (.isin (.var 0) true [.int]) (.and (.not (.isin (.var 0) true [.bool])) (.cmp .eq (.var 0) (.var 1)))))
 .nil)))))⟩
def c_turned_row_0 : Ex := .comp [("need", 1), ("leave", 2)] (.tup (.cons (.nm 1) (.cons (.nm 2) .nil))) (.val (.rev (.var 0))) .nop (.tup (.cons (.var 2) (.cons (.var 1) .nil)))
def ir_turned_row : Fn := ⟨1, ["row", "need", "leave"], (.cons (.ret (.bi .tuple (.cons c_turned_row_0 .nil)))
 .nil)⟩
def b_heights_0 : Sxs := (.cons (.app 1 (.bin .add (.ix (.var 1) (.neg (.int 1))) (.call "gain" (.cons (.var 2) .nil))))
 .nil)
def ir_heights : Fn := ⟨1, ["row", "found", "pair"], (.cons (.asg (.nm 1) (.list (.cons (.int 0) .nil)))
 (.cons (.loop (.nm 2) (.val (.var 0)) b_heights_0)
 (.cons (.ret (.bi .tuple (.cons (.var 1) .nil)))
 .nil)))⟩
def c_dips_0 : Ex := .comp [("height", 1), ("need", 2), ("leave", 3)] (.tup (.cons (.nm 1) (.cons (.tup (.cons (.nm 2) (.cons (.nm 3) .nil))) .nil))) (.zip (.call "heights" (.cons (.var 0) .nil)) (.var 0)) .nop (.bin .sub (.var 1) (.var 2))
def ir_dips : Fn := ⟨1, ["row", "height", "need", "leave"], (.cons (.ret (.bi .tuple (.cons c_dips_0 .nil)))
 .nil)⟩
def b_up_end_0 : Sxs := (.cons (.asg (.nm 3) (.bi .min2 (.cons (.var 3) (.cons (.bin .sub (.var 2) (.ix (.ix (.var 0) (.var 6)) (.int 0))) .nil))))
 (.cons (.aug 2 .add (.call "gain" (.cons (.ix (.var 0) (.var 6)) .nil)))
 (.cons (.ife (.and (.cmp .gt (.var 4) (.var 1)) (.cmp .lt (.var 3) (.ix (.var 5) (.int 0))))
 (.cons (.retv 4)
 .nil)
 .nil)
 (.cons (.ife (.and (.cmp .gt (.var 2) (.int 0)) (.or (.cmp .eq (.var 4) (.var 1)) (.cmp .ge (.var 2) (.ix (.var 5) (.int 1)))))
 (.cons (.asg (.tup (.cons (.nm 5) (.cons (.nm 4) .nil))) (.tup (.cons (.tup (.cons (.var 3) (.cons (.var 2) .nil))) (.cons (.bin .add (.var 6) (.int 1)) .nil))))
 .nil)
 .nil)
 .nil))))
def ir_up_end : Fn := ⟨2, ["row", "first", "height", "dip", "end", "best", "at"], (.cons (.asg (.tup (.cons (.nm 2) (.cons (.nm 3) (.cons (.nm 4) .nil)))) (.tup (.cons (.int 0) (.cons (.int 0) (.cons (.var 1) .nil)))))
 (.cons (.asg (.nm 5) (.tup (.cons (.int 0) (.cons (.int 0) .nil))))
 (.cons (.loop (.nm 6) (.rng2 (.var 1) (.bi .len (.cons (.var 0) .nil))) b_up_end_0)
 (.cons (.retv 4)
 .nil))))⟩
def b_ups_of_0 : Sxs := (.cons (.app 1 (.tup (.cons (.var 2) (.cons (.var 3) .nil))))
 (.cons (.asg (.nm 2) (.var 3))
 (.cons (.asg (.nm 3) (.call "up_end" (.cons (.var 0) (.cons (.var 2) .nil))))
 (.cons (.frz 3)
 .nil))))
def ir_ups_of : Fn := ⟨1, ["row", "found", "first", "end"], (.cons (.asg (.nm 1) (.list .nil))
 (.cons (.asg (.nm 2) (.int 0))
 (.cons (.asg (.nm 3) (.call "up_end" (.cons (.var 0) (.cons (.var 2) .nil))))
 (.cons (.frz 3)
 (.cons (.whl (.cmp .gt (.var 3) (.var 2)) b_ups_of_0)
 (.cons (.retv 1)
 .nil))))))⟩
def b_last_return_0 : Sxs := (.cons (.aug 2 .add (.call "gain" (.cons (.ix (.var 0) (.var 4)) .nil)))
 (.cons (.ife (.cmp .eq (.var 2) (.int 0))
 (.cons (.asg (.nm 3) (.bin .add (.var 4) (.int 1)))
 (.cons (.frz 3)
 .nil))
 .nil)
 .nil))
def ir_last_return : Fn := ⟨2, ["row", "first", "height", "found", "at"], (.cons (.asg (.tup (.cons (.nm 2) (.cons (.nm 3) .nil))) (.tup (.cons (.int 0) (.cons (.var 1) .nil))))
 (.cons (.loop (.nm 4) (.rng2 (.var 1) (.bi .len (.cons (.var 0) .nil))) b_last_return_0)
 (.cons (.retv 3)
 .nil)))⟩
def c_cut_0 : Ex := .comp [("begin", 6), ("end", 7)] (.tup (.cons (.nm 6) (.cons (.nm 7) .nil))) (.val (.rev (.var 4))) .nop (.tup (.cons (.bin .sub (.bi .len (.cons (.var 0) .nil)) (.var 7)) (.cons (.bin .sub (.bi .len (.cons (.var 0) .nil)) (.var 6)) .nil)))
def ir_cut : Fn := ⟨1, ["row", "ups", "first", "last", "back", "downs", "begin", "end"], (.cons (.asg (.nm 1) (.call "ups_of" (.cons (.var 0) .nil)))
 (.cons (.frz 1)
 (.cons (.asg (.nm 2) (.ife (.var 1) (.ix (.ix (.var 1) (.neg (.int 1))) (.int 1)) (.int 0)))
 (.cons (.asg (.nm 3) (.call "last_return" (.cons (.var 0) (.cons (.var 2) .nil))))
 (.cons (.frz 3)
 (.cons (.asg (.nm 4) (.call "ups_of" (.cons (.call "turned_row" (.cons (.sl (.var 0) (.yes (.var 3)) .no) .nil)) .nil)))
 (.cons (.frz 4)
 (.cons (.asg (.nm 5) c_cut_0)
 (.cons (.frz 5)
 (.cons (.ret (.tup (.cons (.bi .tuple (.cons (.var 1) .nil)) (.cons (.tup (.cons (.var 2) (.cons (.var 3) .nil))) (.cons (.bi .tuple (.cons (.var 5) .nil)) .nil)))))
 .nil))))))))))⟩
def b_up_0 : Sxs := (.cons (.asg (.tup (.cons (.nm 6) (.cons (.nm 7) .nil))) (.ix (.var 0) (.var 5)))
 (.cons (.asg (.nm 4) (.bi .min2 (.cons (.var 4) (.cons (.bin .sub (.var 3) (.var 6)) .nil))))
 (.cons (.asg (.nm 3) (.bin .add (.bin .sub (.var 3) (.var 6)) (.var 7)))
 (.cons (.frz 3)
 (.cons (.ife (.and (.cmp .gt (.var 3) (.int 0)) (.or (.cmp .isN (.var 2) .non) (.cmp .gt (.tup (.cons (.var 4) (.cons (.var 3) (.cons (.bin .add (.var 5) (.int 1)) .nil)))) (.var 2))))
 (.cons (.asg (.nm 2) (.tup (.cons (.var 4) (.cons (.var 3) (.cons (.bin .add (.var 5) (.int 1)) .nil)))))
 .nil)
 .nil)
 .nil)))))
def ir_up : Fn := ⟨2, ["_law_row_here", "_law_first", "_law_chosen", "_law_tall", "_law_deepest", "_law_last", "_law_need", "_law_leave"], (.cons (.asg (.nm 2) .non)
 (.cons (.asg (.tup (.cons (.nm 3) (.cons (.nm 4) .nil))) (.tup (.cons (.int 0) (.cons (.int 0) .nil))))
 (.cons (.loop (.nm 5) (.rng2 (.var 1) (.bi .len (.cons (.var 0) .nil))) b_up_0)
 (.cons (.ife (.cmp .isN (.var 2) .non)
 (.cons (.retv 1)
 .nil)
 .nil)
 (.cons (.ret (.ix (.var 2) (.int 2)))
 .nil)))))⟩
def b_ups_0 : Sxs := (.cons (.app 1 (.tup (.cons (.var 2) (.cons (.var 3) .nil))))
 (.cons (.asg (.nm 2) (.var 3))
 (.cons (.asg (.nm 3) (.call "_law_up" (.cons (.var 0) (.cons (.var 2) .nil))))
 (.cons (.frz 3)
 .nil))))
def ir_ups : Fn := ⟨1, ["_law_row_here", "_law_found", "_law_first", "_law_last"], (.cons (.asg (.nm 1) (.list .nil))
 (.cons (.asg (.nm 2) (.int 0))
 (.cons (.asg (.nm 3) (.call "_law_up" (.cons (.var 0) (.cons (.var 2) .nil))))
 (.cons (.frz 3)
 (.cons (.whl (.cmp .gt (.var 3) (.var 2)) b_ups_0)
 (.cons (.retv 1)
 .nil))))))⟩
def b_about_0 : Sxs := (.cons (.ins0 1 (.tup (.cons (.var 3) (.cons (.var 2) .nil))))
 .nil)
def ir_about : Fn := ⟨1, ["_law_row_here", "_law_found", "_law_need", "_law_leave"], (.cons (.asg (.nm 1) (.list .nil))
 (.cons (.loop (.tup (.cons (.nm 2) (.cons (.nm 3) .nil))) (.val (.var 0)) b_about_0)
 (.cons (.ret (.bi .tuple (.cons (.var 1) .nil)))
 .nil)))⟩
end Px.L

set_option linter.all false
/-! Px: the text of defs that many laws share, in my form. -/
namespace Px.M
open PySem L2
def c_greatest_end_0 : Ex := .comp [("need", 2), ("leave", 3)] (.tup (.cons (.nm 2) (.cons (.nm 3) .nil))) (.val (.sl (.var 0) (.yes (.neg (.int 1))) .no)) .nop (.var 3)
def c_greatest_end_1 : Ex := .comp [("need", 2), ("leave", 3)] (.tup (.cons (.nm 2) (.cons (.nm 3) .nil))) (.val (.sl (.var 1) .no (.yes (.int 1)))) .nop (.var 2)
def ir_greatest_end : Fn := ⟨2, ["up", "down", "need", "leave"], (.cons (.ret (.bi .maxL (.cons (.bin .add (.bin .add (.list (.cons (.int 0) .nil)) c_greatest_end_0) c_greatest_end_1) .nil)))
 .nil)⟩
def c_form_of_0 : Ex := .comp [("first", 5), ("last", 6)] (.tup (.cons (.nm 5) (.cons (.nm 6) .nil))) (.val (.var 1)) .nop (.call "whole" (.cons (.sl (.var 0) (.yes (.var 5)) (.yes (.var 6))) .nil))
def c_form_of_1 : Ex := .comp [("first", 5), ("last", 6)] (.tup (.cons (.nm 5) (.cons (.nm 6) .nil))) (.val (.var 3)) .nop (.call "whole" (.cons (.sl (.var 0) (.yes (.var 5)) (.yes (.var 6))) .nil))
def ir_form_of : Fn := ⟨1, ["row", "ups", "middle", "downs", "up", "first", "last", "down"], (.cons (.asg (.tup (.cons (.nm 1) (.cons (.nm 2) (.cons (.nm 3) .nil)))) (.call "cut" (.cons (.var 0) .nil)))
 (.cons (.asg (.nm 4) (.bi .tuple (.cons c_form_of_0 .nil)))
 (.cons (.asg (.nm 7) (.bi .tuple (.cons c_form_of_1 .nil)))
 (.cons (.ret (.tup (.cons (.var 4) (.cons (.bi .max2 (.cons (.call "greatest_end" (.cons (.var 4) (.cons (.var 7) .nil))) (.cons (.ix (.call "whole" (.cons (.sl (.var 0) (.yes (.ix (.var 2) (.int 0))) (.yes (.ix (.var 2) (.int 1)))) .nil)) (.int 0)) .nil))) (.cons (.var 7) .nil)))))
 .nil))))⟩
def c_deck_0 : Ex := .comp [("_law_cell", 2)] (.nm 2) (.val (.sl (.var 0) .no (.yes (.int 63)))) .nop (.bi .abs (.cons (.var 2) .nil))
def c_deck_1 : Ex := .comp [("_law_cell", 2)] (.nm 2) (.val (.var 1)) (.cmp .ge (.var 2) (.bin .pow (.int 10) (.int 18))) (.var 2)
def ir_deck : Fn := ⟨1, ["_law_script", "_law_cells", "_law_cell"], (.cons (.asg (.nm 1) (.bin .add c_deck_0 (.list (.cons (.int 11) .nil))))
 (.cons (.frz 1)
 (.cons (.ret (.list (.cons (.shr c_deck_1) (.cons (.var 1) (.cons (.int 0) (.cons (.int 62) .nil))))))
 .nil)))⟩
def b_next_0 : Sxs := (.cons (.asg (.nm 2) (.ixr (.ixr (.var 0) (.int 0)) (.int 0)))
 (.cons (.ife (.cmp .gt (.var 2) (.int 0))
 (.cons (.setixr (.ixr (.var 0) (.int 0)) (.int 0) (.bin .fdiv (.var 2) (.var 1)))
 (.cons (.ret (.bin .mod (.var 2) (.var 1)))
 .nil))
 .nil)
 (.cons (.expr (.popr (.ixr (.var 0) (.int 0)) (.yes (.int 0))))
 .nil)))
def ir_next : Fn := ⟨2, ["_law_deck_here", "_law_many", "_law_cell"], (.cons (.whl (.cmpr .ne (.ixr (.var 0) (.int 0)) (.list .nil)) b_next_0)
 (.cons (.setix 0 (.int 2) (.bin .add (.ixr (.var 0) (.int 2)) (.int 1)))
 (.cons (.asg (.nm 2) (.ixr (.ixr (.var 0) (.int 1)) (.bin .mod (.ixr (.var 0) (.int 2)) (.bi .len (.cons (.ixr (.var 0) (.int 1)) .nil)))))
 (.cons (.setix 0 (.int 3) (.bin .mod (.bin .add (.bin .add (.bin .mul (.ixr (.var 0) (.int 3)) (.int 48271)) (.bin .mod (.var 2) (.int 2147483629))) (.bin .mul (.int 30011) (.ixr (.var 0) (.int 2)))) (.int 2147483647)))
 (.cons (.ret (.bin .mod (.bin .fdiv (.bin .mod (.bin .mul (.ixr (.var 0) (.int 3)) (.ixr (.var 0) (.int 3))) (.int 2147483629)) (.int 16)) (.var 1)))
 .nil)))))⟩
def c_turned_0 : Ex := .comp [("_law_need", 1), ("_law_leave", 2)] (.tup (.cons (.nm 1) (.cons (.nm 2) .nil))) (.val (.rev (.var 0))) .nop (.tup (.cons (.var 2) (.cons (.var 1) .nil)))
def ir_turned : Fn := ⟨1, ["_law_row_here", "_law_need", "_law_leave"], (.cons (.ret (.bi .tuple (.cons c_turned_0 .nil)))
 .nil)⟩
def ir_number : Fn := ⟨1, ["_law_deck_here", "_law_way"], (.cons (.asg (.nm 1) (.call "_law_next" (.cons (.var 0) (.cons (.int 14) .nil))))
 (.cons (.frz 1)
 (.cons (.ife (.cmp .eq (.var 1) (.int 0))
 (.cons (.ret (.bin .sub (.bin .pow (.int 10) (.int 12)) (.call "_law_next" (.cons (.var 0) (.cons (.int 3) .nil)))))
 .nil)
 .nil)
 (.cons (.ret (.call "_law_next" (.cons (.var 0) (.cons (.ix (.list (.cons (.int 1) (.cons (.int 3) (.cons (.int 6) (.cons (.int 10) .nil))))) (.bin .mod (.var 1) (.int 4))) .nil))))
 .nil))))⟩
def b_path_0 : Sxs := (.cons (.asg (.nm 5) (.bi .max2 (.cons (.int 0) (.cons (.bin .add (.var 3) (.call "_law_next" (.cons (.var 0) (.cons (.ix (.list (.cons (.int 3) (.cons (.int 8) (.cons (.int 20) .nil)))) (.call "_law_next" (.cons (.var 0) (.cons (.int 3) .nil)))) .nil)))) .nil))))
 (.cons (.asg (.nm 6) (.bi .max2 (.cons (.int 0) (.cons (.bin .sub (.bin .add (.var 5) (.call "_law_next" (.cons (.var 0) (.cons (.int 9) .nil)))) (.int 4)) .nil))))
 (.cons (.app 2 (.tup (.cons (.var 5) (.cons (.var 6) .nil))))
 (.cons (.asg (.nm 3) (.bin .sub (.bin .add (.var 3) (.var 6)) (.var 5)))
 (.cons (.frz 3)
 .nil)))))
def ir_path : Fn := ⟨2, ["_law_deck_here", "_law_most", "_law_found", "_law_at", "_law_k", "_law_need", "_law_leave"], (.cons (.asg (.nm 2) (.list .nil))
 (.cons (.asg (.nm 3) (.int 0))
 (.cons (.loop (.nm 4) (.rng1 (.call "_law_next" (.cons (.var 0) (.cons (.bin .add (.var 1) (.int 1)) .nil)))) b_path_0)
 (.cons (.ret (.bi .tuple (.cons (.var 2) .nil)))
 .nil))))⟩
def b_row_0 : Sxs := (.cons (.app 4 (.tup (.cons (.call "_law_number" (.cons (.var 0) .nil)) (.cons (.call "_law_number" (.cons (.var 0) .nil)) .nil))))
 .nil)
def ir_row : Fn := ⟨2, ["_law_deck_here", "_law_most", "_law_way", "_law_row_here", "_law_found", "_law_k"], (.cons (.asg (.nm 2) (.call "_law_next" (.cons (.var 0) (.cons (.int 3) .nil))))
 (.cons (.frz 2)
 (.cons (.ife (.cmp .eq (.var 2) (.int 0))
 (.cons (.ret (.call "_law_path" (.cons (.var 0) (.cons (.var 1) .nil))))
 .nil)
 .nil)
 (.cons (.ife (.cmp .eq (.var 2) (.int 1))
 (.cons (.asg (.nm 3) (.call "_law_path" (.cons (.var 0) (.cons (.bin .fdiv (.var 1) (.int 2)) .nil))))
 (.cons (.frz 3)
 (.cons (.ret (.bin .add (.var 3) (.var 3)))
 .nil)))
 .nil)
 (.cons (.asg (.nm 4) (.list .nil))
 (.cons (.loop (.nm 5) (.rng1 (.call "_law_next" (.cons (.var 0) (.cons (.bin .add (.var 1) (.int 1)) .nil)))) b_row_0)
 (.cons (.ret (.bi .tuple (.cons (.var 4) .nil)))
 .nil)))))))⟩
def b_lw_whole_0 : Sxs := (.cons (.asg (.nm 1) (.bi .max2 (.cons (.var 1) (.cons (.bin .sub (.ix (.var 3) (.int 0)) (.var 2)) .nil))))
 (.cons (.asg (.nm 2) (.bin .sub (.bin .add (.var 2) (.ix (.var 3) (.int 1))) (.ix (.var 3) (.int 0))))
 (.cons (.frz 2)
 .nil)))
def ir_lw_whole : Fn := ⟨1, ["_law_row_here", "_law_need", "_law_held", "_law_pair"], (.cons (.asg (.tup (.cons (.nm 1) (.cons (.nm 2) .nil))) (.tup (.cons (.int 0) (.cons (.int 0) .nil))))
 (.cons (.loop (.nm 3) (.val (.var 0)) b_lw_whole_0)
 (.cons (.ret (.tup (.cons (.var 1) (.cons (.bin .add (.var 1) (.var 2)) .nil))))
 .nil)))⟩
def b_first_up_0 : Sxs := (.cons (.asg (.nm 1) (.bi .min2 (.cons (.var 1) (.cons (.bin .sub (.var 2) (.var 6)) .nil))))
 (.cons (.asg (.nm 2) (.bin .sub (.bin .add (.var 2) (.var 7)) (.var 6)))
 (.cons (.frz 2)
 (.cons (.ife (.and (.cmp .gt (.var 2) (.int 0)) (.or (.cmp .isN (.var 3) .non) (.cmp .ge (.tup (.cons (.var 1) (.cons (.var 2) .nil))) (.var 3))))
 (.cons (.asg (.nm 3) (.tup (.cons (.var 1) (.cons (.var 2) .nil))))
 (.cons (.asg (.nm 4) (.bin .add (.var 5) (.int 1)))
 (.cons (.frz 4)
 .nil)))
 .nil)
 .nil))))
def ir_first_up : Fn := ⟨1, ["_law_row_here", "_law_low", "_law_at", "_law_chosen", "_law_found", "_law_k", "_law_need", "_law_leave"], (.cons (.asg (.tup (.cons (.nm 1) (.cons (.nm 2) (.cons (.nm 3) (.cons (.nm 4) .nil))))) (.tup (.cons (.int 0) (.cons (.int 0) (.cons .non (.cons (.int 0) .nil))))))
 (.cons (.loop (.tup (.cons (.nm 5) (.cons (.tup (.cons (.nm 6) (.cons (.nm 7) .nil))) .nil))) (.enum (.var 0)) b_first_up_0)
 (.cons (.retv 4)
 .nil)))⟩
def b_lw_ups_of_0 : Sxs := (.cons (.app 1 (.call "_law_whole" (.cons (.sl (.var 0) .no (.yes (.var 2))) .nil)))
 (.cons (.asg (.nm 0) (.sl (.var 0) (.yes (.var 2)) .no))
 (.cons (.frz 0)
 (.cons (.asg (.nm 2) (.call "_law_first_up" (.cons (.var 0) .nil)))
 (.cons (.frz 2)
 .nil)))))
def ir_lw_ups_of : Fn := ⟨1, ["_law_row_here", "_law_found", "_law_many"], (.cons (.asg (.nm 1) (.list .nil))
 (.cons (.asg (.nm 2) (.call "_law_first_up" (.cons (.var 0) .nil)))
 (.cons (.frz 2)
 (.cons (.whl (.cmp .gt (.var 2) (.int 0)) b_lw_ups_of_0)
 (.cons (.ret (.tup (.cons (.bi .tuple (.cons (.var 1) .nil)) (.cons (.var 0) .nil))))
 .nil)))))⟩
def b_lw_form_of_0 : Sxs := (.cons (.asg (.nm 3) (.bin .sub (.bin .add (.var 3) (.var 7)) (.var 6)))
 (.cons (.frz 3)
 (.cons (.ife (.cmp .eq (.var 3) (.int 0))
 (.cons (.asg (.nm 4) (.bin .add (.var 5) (.int 1)))
 (.cons (.frz 4)
 .nil))
 .nil)
 .nil)))
def c_lw_form_of_0 : Ex := .comp [("_law_pair", 10)] (.nm 10) (.val (.sl (.var 1) (.yes (.neg (.int 1))) .no)) .nop (.ix (.var 10) (.int 1))
def c_lw_form_of_1 : Ex := .comp [("_law_pair", 10)] (.nm 10) (.val (.sl (.var 8) .no (.yes (.int 1)))) .nop (.ix (.var 10) (.int 0))
def ir_lw_form_of : Fn := ⟨1, ["_law_row_here", "_law_up", "_law_left", "_law_at", "_law_many", "_law_k", "_law_need", "_law_leave", "_law_down", "_law_ends", "_law_pair"], (.cons (.asg (.tup (.cons (.nm 1) (.cons (.nm 2) .nil))) (.call "_law_ups_of" (.cons (.var 0) .nil)))
 (.cons (.asg (.tup (.cons (.nm 3) (.cons (.nm 4) .nil))) (.tup (.cons (.int 0) (.cons (.int 0) .nil))))
 (.cons (.loop (.tup (.cons (.nm 5) (.cons (.tup (.cons (.nm 6) (.cons (.nm 7) .nil))) .nil))) (.enum (.var 2)) b_lw_form_of_0)
 (.cons (.asg (.nm 8) (.call "_law_turned" (.cons (.ix (.call "_law_ups_of" (.cons (.call "_law_turned" (.cons (.sl (.var 2) (.yes (.var 4)) .no) .nil)) .nil)) (.int 0)) .nil)))
 (.cons (.frz 8)
 (.cons (.asg (.nm 9) (.bin .add (.bin .add (.list (.cons (.int 0) (.cons (.ix (.call "_law_whole" (.cons (.sl (.var 2) .no (.yes (.var 4))) .nil)) (.int 0)) .nil))) c_lw_form_of_0) c_lw_form_of_1))
 (.cons (.frz 9)
 (.cons (.ret (.tup (.cons (.var 1) (.cons (.bi .maxL (.cons (.var 9) .nil)) (.cons (.var 8) .nil)))))
 .nil))))))))⟩
def b_rising_0 : Sxs := (.cons (.asg (.nm 5) (.bin .add (.var 3) (.call "_law_next" (.cons (.var 0) (.cons (.int 3) .nil)))))
 (.cons (.frz 5)
 (.cons (.asg (.nm 6) (.ix (.list (.cons (.int 3) (.cons (.int 9) (.cons (.bin .pow (.int 10) (.int 12)) .nil)))) (.bi .min2 (.cons (.int 2) (.cons (.bin .fdiv (.call "_law_next" (.cons (.var 0) (.cons (.int 9) .nil))) (.int 4)) .nil)))))
 (.cons (.app 2 (.tup (.cons (.var 5) (.cons (.bin .add (.bin .add (.var 5) (.int 1)) (.call "_law_next" (.cons (.var 0) (.cons (.var 6) .nil)))) .nil))))
 (.cons (.asg (.nm 3) (.bin .add (.ix (.ix (.var 2) (.neg (.int 1))) (.int 1)) (.int 1)))
 (.cons (.frz 3)
 .nil))))))
def ir_rising : Fn := ⟨2, ["_law_deck_here", "_law_most", "_law_found", "_law_at", "_law_k", "_law_need", "_law_far"], (.cons (.asg (.nm 2) (.list .nil))
 (.cons (.asg (.nm 3) (.int 0))
 (.cons (.loop (.nm 4) (.rng1 (.call "_law_next" (.cons (.var 0) (.cons (.bin .add (.var 1) (.int 1)) .nil)))) b_rising_0)
 (.cons (.ret (.bi .tuple (.cons (.var 2) .nil)))
 .nil))))⟩
def c_form_0 : Ex := .comp [("_law_pair", 5)] (.nm 5) (.val (.sl (.var 2) (.yes (.neg (.int 1))) .no)) .nop (.ix (.var 5) (.int 1))
def c_form_1 : Ex := .comp [("_law_pair", 5)] (.nm 5) (.val (.sl (.var 3) .no (.yes (.int 1)))) .nop (.ix (.var 5) (.int 0))
def ir_form : Fn := ⟨2, ["_law_deck_here", "_law_most", "_law_up", "_law_down", "_law_low", "_law_pair"], (.cons (.asg (.tup (.cons (.nm 2) (.cons (.nm 3) .nil))) (.tup (.cons (.call "_law_rising" (.cons (.var 0) (.cons (.var 1) .nil))) (.cons (.call "_law_turned" (.cons (.call "_law_rising" (.cons (.var 0) (.cons (.var 1) .nil))) .nil)) .nil))))
 (.cons (.asg (.nm 4) (.bi .maxL (.cons (.bin .add (.bin .add (.list (.cons (.int 0) .nil)) c_form_0) c_form_1) .nil)))
 (.cons (.ret (.tup (.cons (.var 2) (.cons (.bin .add (.var 4) (.ix (.list (.cons (.int 0) (.cons (.call "_law_next" (.cons (.var 0) (.cons (.int 6) .nil))) .nil))) (.call "_law_next" (.cons (.var 0) (.cons (.int 2) .nil))))) (.cons (.var 3) .nil)))))
 .nil)))⟩
def b_some_0 : Sxs := (.cons (.app 2 (.ix (.list (.cons (.call "_law_form" (.cons (.var 0) (.cons (.int 4) .nil))) (.cons (.call "_law_form_of" (.cons (.call "_law_row" (.cons (.var 0) (.cons (.int 8) .nil))) .nil)) .nil))) (.call "_law_next" (.cons (.var 0) (.cons (.int 2) .nil)))))
 .nil)
def ir_some : Fn := ⟨2, ["_law_deck_here", "_law_most", "_law_found", "_law_k"], (.cons (.asg (.nm 2) (.list .nil))
 (.cons (.loop (.nm 3) (.rng1 (.call "_law_next" (.cons (.var 0) (.cons (.bin .add (.var 1) (.int 1)) .nil)))) b_some_0)
 (.cons (.ret (.bi .tuple (.cons (.bin .add (.var 2) (.bin .mul (.sl (.var 2) (.yes (.neg (.int 1))) .no) (.bi .int (.cons (.cmp .eq (.call "_law_next" (.cons (.var 0) (.cons (.int 4) .nil))) (.int 0)) .nil)))) .nil)))
 .nil)))⟩
def ir_form_row : Fn := ⟨1, ["form", "up", "top", "down"], (.cons (.asg (.tup (.cons (.nm 1) (.cons (.nm 2) (.cons (.nm 3) .nil)))) (.var 0))
 (.cons (.ret (.bin .add (.bin .add (.var 1) (.tup (.cons (.tup (.cons (.var 2) (.cons (.var 2) .nil))) .nil))) (.var 3)))
 .nil))⟩
def b_then_form_0 : Sxs := (.cons (.asg (.nm 1) (.bin .add (.var 1) (.call "form_row" (.cons (.var 2) .nil))))
 (.cons (.frz 1)
 .nil))
def ir_then_form : Fn := ⟨1, ["forms", "row", "form"], (.cons (.ife (.cmp .eq (.var 0) (.tup .nil))
 (.cons (.ret (.glob "NOTHING"))
 .nil)
 .nil)
 (.cons (.asg (.nm 1) (.tup .nil))
 (.cons (.loop (.nm 2) (.val (.var 0)) b_then_form_0)
 (.cons (.ret (.call "form_of" (.cons (.var 1) .nil)))
 .nil))))⟩
def c_rise_0 : Ex := .comp [("need", 1), ("leave", 2)] (.tup (.cons (.nm 1) (.cons (.nm 2) .nil))) (.val (.ix (.var 0) (.int 0))) .nop (.bin .sub (.var 2) (.var 1))
def ir_rise : Fn := ⟨1, ["form", "need", "leave"], (.cons (.ret (.bi .sum (.cons c_rise_0 .nil)))
 .nil)⟩
def c_fall_0 : Ex := .comp [("need", 1), ("leave", 2)] (.tup (.cons (.nm 1) (.cons (.nm 2) .nil))) (.val (.ix (.var 0) (.int 2))) .nop (.bin .sub (.var 1) (.var 2))
def ir_fall : Fn := ⟨1, ["form", "need", "leave"], (.cons (.ret (.bi .sum (.cons c_fall_0 .nil)))
 .nil)⟩
def ir_turned_form : Fn := ⟨1, ["form", "up", "top", "down"], (.cons (.asg (.tup (.cons (.nm 1) (.cons (.nm 2) (.cons (.nm 3) .nil)))) (.var 0))
 (.cons (.ret (.tup (.cons (.call "turned_row" (.cons (.var 3) .nil)) (.cons (.var 2) (.cons (.call "turned_row" (.cons (.var 1) .nil)) .nil)))))
 .nil))⟩
def b_joined_ups_0 : Sxs := (.cons (.ife (.and (.cmp .ne (.var 1) (.list .nil)) (.cmp .ge (.ix (.ix (.var 1) (.neg (.int 1))) (.int 1)) (.var 2)))
 (.cons (.setix 1 (.neg (.int 1)) (.tup (.cons (.ix (.ix (.var 1) (.neg (.int 1))) (.int 0)) (.cons (.bin .sub (.bin .add (.ix (.ix (.var 1) (.neg (.int 1))) (.int 1)) (.var 3)) (.var 2)) .nil))))
 .nil)
 (.cons (.app 1 (.tup (.cons (.var 2) (.cons (.var 3) .nil))))
 .nil))
 .nil)
def ir_joined_ups : Fn := ⟨1, ["pairs", "found", "need", "leave"], (.cons (.asg (.nm 1) (.list .nil))
 (.cons (.loop (.tup (.cons (.nm 2) (.cons (.nm 3) .nil))) (.val (.bi .sorted (.cons (.var 0) .nil))) b_joined_ups_0)
 (.cons (.ret (.bi .tuple (.cons (.var 1) .nil)))
 .nil)))⟩
def ir_joined_downs : Fn := ⟨1, ["pairs"], (.cons (.ret (.call "turned_row" (.cons (.call "joined_ups" (.cons (.call "turned_row" (.cons (.bi .tuple (.cons (.var 0) .nil)) .nil)) .nil)) .nil)))
 .nil)⟩
def ir_beside_of : Fn := ⟨3, ["ups", "tops", "downs", "up", "down"], (.cons (.asg (.tup (.cons (.nm 3) (.cons (.nm 4) .nil))) (.tup (.cons (.call "joined_ups" (.cons (.var 0) .nil)) (.cons (.call "joined_downs" (.cons (.var 2) .nil)) .nil))))
 (.cons (.ret (.tup (.cons (.var 3) (.cons (.bi .maxL (.cons (.bin .add (.list (.cons (.call "greatest_end" (.cons (.var 3) (.cons (.var 4) .nil))) .nil)) (.var 1)) .nil)) (.cons (.var 4) .nil)))))
 .nil))⟩
def ir_risen : Fn := ⟨2, ["form", "more", "up", "top", "down", "need", "leave"], (.cons (.asg (.tup (.cons (.nm 2) (.cons (.nm 3) (.cons (.nm 4) .nil)))) (.var 0))
 (.cons (.asg (.tup (.cons (.nm 5) (.cons (.nm 6) .nil))) (.ix (.var 2) (.neg (.int 1))))
 (.cons (.ret (.tup (.cons (.bin .add (.sl (.var 2) .no (.yes (.neg (.int 1)))) (.tup (.cons (.tup (.cons (.var 5) (.cons (.bin .add (.var 6) (.var 1)) .nil))) .nil))) (.cons (.bi .max2 (.cons (.var 3) (.cons (.bin .add (.var 6) (.var 1)) .nil))) (.cons (.var 4) .nil)))))
 .nil)))⟩
def ir_times_form : Fn := ⟨2, ["k", "form", "gain"], (.cons (.asg (.nm 2) (.bin .sub (.call "rise" (.cons (.var 1) .nil)) (.call "fall" (.cons (.var 1) .nil))))
 (.cons (.frz 2)
 (.cons (.ife (.cmp .eq (.var 0) (.int 0))
 (.cons (.ret (.glob "NOTHING"))
 .nil)
 .nil)
 (.cons (.ife (.or (.cmp .eq (.var 0) (.int 1)) (.cmp .eq (.var 2) (.int 0)))
 (.cons (.retv 1)
 .nil)
 .nil)
 (.cons (.ife (.cmp .lt (.var 2) (.int 0))
 (.cons (.ret (.call "turned_form" (.cons (.call "times_form" (.cons (.var 0) (.cons (.call "turned_form" (.cons (.var 1) .nil)) .nil))) .nil)))
 .nil)
 .nil)
 (.cons (.ret (.call "risen" (.cons (.call "then_form" (.cons (.tup (.cons (.var 1) (.cons (.var 1) .nil))) .nil)) (.cons (.bin .mul (.bin .sub (.var 0) (.int 2)) (.var 2)) .nil))))
 .nil))))))⟩
def c_many_form_0 : Ex := .comp [("need", 3), ("leave", 4)] (.tup (.cons (.nm 3) (.cons (.nm 4) .nil))) (.val (.ix (.var 1) (.int 0))) .nop (.tup (.cons (.var 3) (.cons (.bin .add (.var 3) (.bin .mul (.var 0) (.bin .sub (.var 4) (.var 3)))) .nil)))
def c_many_form_1 : Ex := .comp [("need", 3), ("leave", 4)] (.tup (.cons (.nm 3) (.cons (.nm 4) .nil))) (.val (.ix (.var 1) (.int 2))) .nop (.tup (.cons (.bin .add (.var 4) (.bin .mul (.var 0) (.bin .sub (.var 3) (.var 4)))) (.cons (.var 4) .nil)))
def ir_many_form : Fn := ⟨2, ["k", "form", "ups", "need", "leave", "downs"], (.cons (.ife (.cmp .eq (.var 0) (.int 0))
 (.cons (.ret (.glob "NOTHING"))
 .nil)
 .nil)
 (.cons (.asg (.nm 2) c_many_form_0)
 (.cons (.frz 2)
 (.cons (.asg (.nm 5) c_many_form_1)
 (.cons (.frz 5)
 (.cons (.ret (.call "beside_of" (.cons (.var 2) (.cons (.list (.cons (.ix (.var 1) (.int 1)) .nil)) (.cons (.var 5) .nil)))))
 .nil))))))⟩
def ir_least_of : Fn := ⟨1, ["form"], (.cons (.ret (.bin .sub (.ix (.var 0) (.int 1)) (.call "rise" (.cons (.var 0) .nil))))
 .nil)⟩
def c_beside_form_0 : Ex := .comp2 [("form", 2), ("pair", 3)] (.nm 2) (.val (.var 0)) .nop [3] (.nm 3) (.val (.ix (.var 2) (.int 0))) .nop (.var 3)
def c_beside_form_1 : Ex := .comp2 [("form", 2), ("pair", 3)] (.nm 2) (.val (.var 0)) .nop [3] (.nm 3) (.val (.ix (.var 2) (.int 2))) .nop (.var 3)
def c_beside_form_2 : Ex := .comp [("form", 2)] (.nm 2) (.val (.var 0)) .nop (.ix (.var 2) (.int 1))
def ir_beside_form : Fn := ⟨1, ["forms", "ups", "form", "pair", "downs"], (.cons (.asg (.nm 1) c_beside_form_0)
 (.cons (.frz 1)
 (.cons (.asg (.nm 4) c_beside_form_1)
 (.cons (.frz 4)
 (.cons (.ret (.call "beside_of" (.cons (.var 1) (.cons c_beside_form_2 (.cons (.var 4) .nil)))))
 .nil)))))⟩
def ir_is_whole : Fn := ⟨1, ["thing"], (.cons (.ret (.and (.isin (.var 0) true [.int]) (.and (.not (.isin (.var 0) true [.bool])) (.cmp .ge (.var 0) (.int 0)))))
 .nil)⟩
def ir_is_pair : Fn := ⟨1, ["thing"], (.cons (.ret (.and (.isin (.var 0) true [.tuple]) (.and (.cmp .eq (.bi .len (.cons (.var 0) .nil)) (.int 2)) (.and (.call "is_whole" (.cons (.ix (.var 0) (.int 0)) .nil)) (.call "is_whole" (.cons (.ix (.var 0) (.int 1)) .nil))))))
 .nil)⟩
def c_are_ups_0 : Ex := .comp [("pair", 1)] (.nm 1) (.val (.var 0)) .nop (.call "is_pair" (.cons (.var 1) .nil))
def c_are_ups_1 : Ex := .comp2 [("pair", 1), ("number", 3)] (.nm 1) (.val (.var 0)) .nop [3] (.nm 3) (.val (.var 1)) .nop (.var 3)
def c_are_ups_2 : Ex := .comp [("k", 4)] (.nm 4) (.rng2 (.int 1) (.bi .len (.cons (.var 2) .nil))) .nop (.cmp .lt (.ix (.var 2) (.bin .sub (.var 4) (.int 1))) (.ix (.var 2) (.var 4)))
def ir_are_ups : Fn := ⟨1, ["thing", "pair", "numbers", "number", "k"], (.cons (.ife (.or (.not (.isin (.var 0) true [.tuple])) (.not (.bi .all (.cons c_are_ups_0 .nil))))
 (.cons (.ret (.bl false))
 .nil)
 .nil)
 (.cons (.asg (.nm 2) c_are_ups_1)
 (.cons (.frz 2)
 (.cons (.ret (.bi .all (.cons c_are_ups_2 .nil)))
 .nil))))⟩
def c_are_downs_0 : Ex := .comp [("pair", 1)] (.nm 1) (.val (.var 0)) .nop (.call "is_pair" (.cons (.var 1) .nil))
def ir_are_downs : Fn := ⟨1, ["thing", "pair"], (.cons (.ife (.or (.not (.isin (.var 0) true [.tuple])) (.not (.bi .all (.cons c_are_downs_0 .nil))))
 (.cons (.ret (.bl false))
 .nil)
 .nil)
 (.cons (.ret (.call "are_ups" (.cons (.call "turned_row" (.cons (.var 0) .nil)) .nil)))
 .nil))⟩
def ir_is_form : Fn := ⟨1, ["thing", "up", "top", "down"], (.cons (.ife (.or (.not (.isin (.var 0) true [.tuple])) (.cmp .ne (.bi .len (.cons (.var 0) .nil)) (.int 3)))
 (.cons (.ret (.bl false))
 .nil)
 .nil)
 (.cons (.asg (.tup (.cons (.nm 1) (.cons (.nm 2) (.cons (.nm 3) .nil)))) (.var 0))
 (.cons (.ife (.or (.not (.call "are_ups" (.cons (.var 1) .nil))) (.or (.not (.call "are_downs" (.cons (.var 3) .nil))) (.not (.call "is_pair" (.cons (.tup (.cons (.var 2) (.cons (.var 2) .nil))) .nil)))))
 (.cons (.ret (.bl false))
 .nil)
 .nil)
 (.cons (.ret (.cmp .ge (.var 2) (.call "greatest_end" (.cons (.var 1) (.cons (.var 3) .nil)))))
 .nil))))⟩
end Px.M

set_option Elab.async false
set_option linter.all false
set_option maxRecDepth 100000
set_option maxHeartbeats 1000000
/-! Px, part V: the drawing of a law's input, by what is promised. -/
namespace Px
open PySem L2
theorem eqD_int (i j : Int) : eqD (.int i) (.int j) = some (i == j) := by
  simp [eqD, D.toP, SeqAt.shaped, PyData.canLay0, PyData.depth, PyData.eqv]
theorem at0 {α : Type} (x : α) (l : List α) : atI (x :: l) 0 = some x := by simp [atI, ixN]
theorem at1 {α : Type} (x y : α) (l : List α) : atI (x :: y :: l) 1 = some y := by
  simp only [atI, ixN, List.length_cons]
  rw [if_pos (by omega), if_pos (by omega)]; rfl
theorem at2 {α : Type} (x y z : α) (l : List α) : atI (x :: y :: z :: l) 2 = some z := by
  simp only [atI, ixN, List.length_cons]
  rw [if_pos (by omega), if_pos (by omega)]; rfl
theorem at3 {α : Type} (x y z u : α) (l : List α) : atI (x :: y :: z :: u :: l) 3 = some u := by
  simp only [atI, ixN, List.length_cons]
  rw [if_pos (by omega), if_pos (by omega)]; rfl
theorem at_in {α : Type} {l : List α} {i : Int} (h0 : 0 ≤ i) (h1 : i < l.length) : ∃ x, l[i.toNat]? = some x ∧ atI l i = some x := by
  have hi : i.toNat < l.length := by omega
  refine ⟨l[i.toNat], List.getElem?_eq_getElem hi, ?_⟩
  simp only [atI, ixN]
  rw [if_pos h0, if_pos h1]
  exact List.getElem?_eq_getElem hi
theorem log2_lt {n k : Nat} (h : n < 2 ^ (k + 1)) : n.log2 ≤ k := by
  by_cases h0 : n = 0
  · subst h0; simp
  · have := (Nat.log2_lt h0).mpr h
    omega
theorem mul_small {i j : Int} (hi : i.natAbs < 2 ^ 250) (hj : j.natAbs < 2 ^ 250) : opBinD .mul (.int i) (.int j) = some (.val (.int (i * j))) := by
  rw [ob_mul, if_pos]
  have a := log2_lt (k := 249) hi
  have b := log2_lt (k := 249) hj
  omega
/-- the drawing's state -/
def StOk (S : Sto) : Prop := ∃ (cs : List Int) (b l bl : Int), S = [.lst [.lst (cs.map .int), .int b, .int l, .int bl]] ∧ (∀ c ∈ cs, 0 ≤ c) ∧ 0 ≤ b ∧ 0 ≤ l ∧ 0 ≤ bl ∧ bl < 2147483647
theorem StOk.mk {cs : List Int} {b l bl : Int} (h1 : ∀ c ∈ cs, 0 ≤ c) (h2 : 0 ≤ b) (h3 : 0 ≤ l) (h4 : 0 ≤ bl) (h5 : bl < 2147483647) : StOk [.lst [.lst (cs.map .int), .int b, .int l, .int bl]] := ⟨cs, b, l, bl, rfl, h1, h2, h3, h4, h5⟩
namespace L
variable {T : String → Option Fn} {G : String → Option D} {wf : Nat}
theorem take_ok (hT : T "_law_take" = some ir_take) {S : Sto} (h : StOk S) {m : Int} (h0 : 0 < m) (h1 : m ≤ 2 ^ 62) (n : Nat) :
    ∃ k S', callN T G wf (n + 1) "_law_take" [.ref 0, .int m] S = .ok (.val (.int k)) S' ∧ 0 ≤ k ∧ k < m ∧ StOk S' := by
  obtain ⟨cs, b, l, bl, rfl, hc, hb, hl, hbl, hbl2⟩ := h
  have hm : m.natAbs.log2 < 9000 := by
    have := log2_lt (n := m.natAbs) (k := 62) (by omega)
    omega
  rw [call_eq hT rfl]
  unfold ir_take
  have big : ∀ {x : Int}, 0 ≤ x → x < 2 ^ 40 → x.natAbs < 2 ^ 250 := fun h1 h2 => by omega
  have tail : ∀ x : Int, 0 ≤ x → x < 2 ^ 40 → opBinD .mul (.int x) (.int 48271) = some (.val (.int (x * 48271))) := fun x h1 h2 => mul_small (big h1 h2) (by omega)
  have fin : ∀ x : Int, 0 ≤ (x * 48271 + 30011) % 2147483647 ∧ (x * 48271 + 30011) % 2147483647 < 2147483647 := fun x => ⟨Int.emod_nonneg _ (by omega), Int.emod_lt_of_pos _ (by omega)⟩
  have tail2 : ∀ x : Int, opBinD .mul (.int ((x * 48271 + 30011) % 2147483647)) (.int ((x * 48271 + 30011) % 2147483647)) = some (.val (.int ((x * 48271 + 30011) % 2147483647 * ((x * 48271 + 30011) % 2147483647)))) := fun x => by
    obtain ⟨p, q⟩ := fin x
    exact mul_small (big p (by omega)) (big p (by omega))
  have modm : ∀ x : Int, 0 ≤ x % m ∧ x % m < m := fun x => ⟨Int.emod_nonneg _ (by omega), Int.emod_lt_of_pos _ h0⟩
  have l16 : Nat.log2 16 < 9000 := by decide
  by_cases c1 : l = 0 ∧ b < cs.length
  · obtain ⟨rfl, c1⟩ := c1
    have hbl' : b < (cs.map D.int).length := by simpa using c1
    obtain ⟨d, e1, e2⟩ := at_in hb hbl'
    rw [List.getElem?_map] at e1
    obtain ⟨x, e3, rfl⟩ := Option.map_eq_some_iff.mp e1
    have hx : 0 ≤ x := hc x (List.mem_of_getElem? e3)
    by_cases c2 : 1000000000000000000 ≤ x
    · have hx0 : 0 < x := by omega
      simp [eqD_int, setD, ixN, lstAt, chg, c1, e2, ob_pow, c2, hx0, hm, h0]
      exact ⟨_, _, ⟨rfl, rfl⟩, (modm _).1, (modm _).2, StOk.mk hc (by omega) (Int.ediv_nonneg hx (by omega)) hbl hbl2⟩
    · have y0 : 0 ≤ x % 2147483629 := Int.emod_nonneg _ (by omega)
      have y1 : x % 2147483629 < 2147483629 := Int.emod_lt_of_pos _ (by omega)
      simp [eqD_int, setD, ixN, lstAt, chg, c1, e2, ob_pow, c2, hm, h0, tail (bl + x % 2147483629) (by omega) (by omega), tail2, l16]
      exact ⟨_, _, ⟨rfl, rfl⟩, (modm _).1, (modm _).2, StOk.mk hc (by omega) (by omega) (fin _).1 (fin _).2⟩
  · by_cases c3 : 0 < l
    · have c4 : ¬ l = 0 := by omega
      simp [eqD_int, setD, ixN, lstAt, chg, c4, c3, hm, h0]
      exact ⟨_, _, ⟨rfl, rfl⟩, (modm _).1, (modm _).2, StOk.mk hc hb (Int.ediv_nonneg hl (by omega)) hbl hbl2⟩
    · obtain rfl : l = 0 := by omega
      have c5 : ¬ b < cs.length := fun z => c1 ⟨rfl, z⟩
      simp [eqD_int, setD, ixN, lstAt, chg, c5, hm, h0, tail bl hbl (by omega), tail2, l16]
      exact ⟨_, _, ⟨rfl, rfl⟩, (modm _).1, (modm _).2, StOk.mk hc hb (by omega) (fin _).1 (fin _).2⟩
/-- a number that is drawn -/
def NumOk (k : Int) : Prop := 0 ≤ k ∧ k < 10 ^ 40
theorem number_ok (hT : T "_law_take" = some ir_take) (hN : T "_law_number" = some ir_number) {S : Sto} (h : StOk S) (n : Nat) :
    ∃ k S', callN T G wf (n + 2) "_law_number" [.ref 0] S = .ok (.val (.int k)) S' ∧ NumOk k ∧ StOk S' := by
  rw [call_eq hN rfl]
  unfold ir_number
  obtain ⟨w, S1, e1, w0, w1, h1⟩ := take_ok (G := G) (wf := wf) hT h (m := 16) (by decide) (by decide) n
  by_cases c1 : w = 0
  · subst c1
    simp [e1, eqD_int]
    exact ⟨_, _, ⟨rfl, rfl⟩, ⟨by omega, by omega⟩, h1⟩
  by_cases c2 : w < 12
  · obtain ⟨k, S2, e2, k0, k1, h2⟩ := take_ok (G := G) (wf := wf) hT h1 (m := 10) (by decide) (by decide) n
    simp [e1, eqD_int, c1, c2, e2]
    exact ⟨_, _, ⟨rfl, rfl⟩, ⟨by omega, by omega⟩, h2⟩
  by_cases c3 : w < 15
  · obtain ⟨k, S2, e2, k0, k1, h2⟩ := take_ok (G := G) (wf := wf) hT h1 (m := 41) (by decide) (by decide) n
    simp [e1, eqD_int, c1, c2, c3, e2]
    exact ⟨_, _, ⟨rfl, rfl⟩, ⟨by omega, by omega⟩, h2⟩
  obtain ⟨k, S2, e2, k0, k1, h2⟩ := take_ok (G := G) (wf := wf) hT h1 (m := 4) (by decide) (by decide) n
  obtain ⟨j, S3, e3, j0, j1, h3⟩ := take_ok (G := G) (wf := wf) hT h2 (m := 3) (by decide) (by decide) n
  have hk : k = 0 ∨ k = 1 ∨ k = 2 ∨ k = 3 := by omega
  rcases hk with rfl | rfl | rfl | rfl <;> simp [e1, eqD_int, c1, c2, c3, e2, e3, ob_pow, at0, at1, at2, at3, sizeLine] <;> exact ⟨_, _, ⟨rfl, rfl⟩, ⟨by omega, by omega⟩, h3⟩
/-- a pair as data -/
def pD (p : Int × Int) : D := .tup [.int p.1, .int p.2]
def PairOk (p : Int × Int) : Prop := NumOk p.1 ∧ NumOk p.2
theorem pair_ok (hT : T "_law_take" = some ir_take) (hN : T "_law_number" = some ir_number) (hP : T "_law_pair" = some ir_pair) {S : Sto} (h : StOk S) (n : Nat) :
    ∃ p S', callN T G wf (n + 3) "_law_pair" [.ref 0] S = .ok (.val (pD p)) S' ∧ PairOk p ∧ StOk S' := by
  rw [call_eq hP rfl]
  unfold ir_pair
  obtain ⟨w, S1, e1, w0, w1, h1⟩ := take_ok (G := G) (wf := wf) hT h (m := 4) (by decide) (by decide) (n + 1)
  by_cases c1 : w = 0
  · subst c1
    obtain ⟨a, S2, e2, a1, h2⟩ := number_ok (G := G) (wf := wf) hT hN h1 n
    obtain ⟨b, S3, e3, b1, h3⟩ := number_ok (G := G) (wf := wf) hT hN h2 n
    simp [e1, eqD_int, e2, e3, sizeLine]
    exact ⟨a, b, _, ⟨rfl, rfl⟩, ⟨a1, b1⟩, h3⟩
  · obtain ⟨a, S2, e2, a0, a1, h2⟩ := take_ok (G := G) (wf := wf) hT h1 (m := 12) (by decide) (by decide) (n + 1)
    obtain ⟨b, S3, e3, b0, b1, h3⟩ := take_ok (G := G) (wf := wf) hT h2 (m := 9) (by decide) (by decide) (n + 1)
    simp [e1, eqD_int, c1, e2, e3, sizeLine]
    have q : NumOk (if 4 < a + b then a + b - 4 else 0) := by
      unfold NumOk
      split <;> omega
    exact ⟨_, _, _, ⟨rfl, rfl⟩, ⟨⟨a0, by show a < _; omega⟩, q⟩, h3⟩
end L
end Px

set_option Elab.async false
set_option linter.all false
set_option maxRecDepth 100000
set_option maxHeartbeats 1000000
/-! Px, part W: loops; rows. -/
namespace Px
open PySem L2
/-- a for loop that never leaves early, by an invariant -/
theorem loop_inv {t : Tg} {b : Slots → Sto → Res (Fl × Slots)} (I : Nat → Slots → Sto → Prop) : ∀ (items : List D) (k : Nat) (sl : Slots) (S : Sto), I k sl S →
    (∀ i x sl S, items[i]? = some x → I (k + i) sl S → ∃ sl1 sl2 S2, bindT t x sl = some sl1 ∧ b sl1 S = .ok (.nx, sl2) S2 ∧ I (k + i + 1) sl2 S2) →
    ∃ sl' S', loopL t b items sl S = .ok (.nx, sl') S' ∧ I (k + items.length) sl' S'
  | [], k, sl, S, h, _ => ⟨sl, S, rfl, h⟩
  | x :: xs, k, sl, S, h, step => by
    obtain ⟨sl1, sl2, S2, e1, e2, h2⟩ := step 0 x sl S rfl h
    obtain ⟨sl', S', e3, h3⟩ := loop_inv I xs (k + 1) sl2 S2 h2 fun i y sl S hy hI => by
      have q := step (i + 1) y sl S (by simpa using hy)
      rw [show k + 1 + i = k + (i + 1) by omega] at hI ⊢
      exact q hI
    refine ⟨sl', S', ?_, by rw [List.length_cons]; rw [show k + 1 + xs.length = k + (xs.length + 1) by omega] at h3; exact h3⟩
    unfold loopL
    rw [e1]
    show (b sl1 S).bind _ = _
    rw [e2]
    exact e3
theorem loop_inv0 {t : Tg} {b : Slots → Sto → Res (Fl × Slots)} (I : Nat → Slots → Sto → Prop) {items : List D} {sl : Slots} {S : Sto} (h : I 0 sl S)
    (step : ∀ i x sl S, items[i]? = some x → I i sl S → ∃ sl1 sl2 S2, bindT t x sl = some sl1 ∧ b sl1 S = .ok (.nx, sl2) S2 ∧ I (i + 1) sl2 S2) :
    ∃ sl' S', loopL t b items sl S = .ok (.nx, sl') S' ∧ I items.length sl' S' := by
  have q := loop_inv (t := t) (b := b) I items 0 sl S h fun i x sl S e hI => by
    rw [Nat.zero_add] at hI ⊢
    exact step i x sl S e hI
  rw [Nat.zero_add] at q
  exact q
theorem rng_len (lo : Int) (n : Nat) : (rngD lo n).length = n := by simp [rngD]
theorem rng_get {lo : Int} {n i : Nat} {x : D} (h : (rngD lo n)[i]? = some x) : x = .int (lo + (i : Int)) ∧ i < n := by
  unfold rngD at h
  rw [List.getElem?_map] at h
  obtain ⟨j, e, rfl⟩ := Option.map_eq_some_iff.mp h
  obtain ⟨hi, e⟩ := List.getElem?_eq_some_iff.mp e
  rw [List.getElem_range] at e
  rw [List.length_range] at hi
  exact ⟨by rw [e], hi⟩
theorem ixN_in {n : Nat} {i : Int} (h0 : 0 ≤ i) (h1 : i < n) : ixN n i = some i.toNat := by
  unfold ixN
  rw [if_pos h0, if_pos h1]
theorem small_of {i : Int} (h0 : 0 ≤ i) (h1 : i < 2 ^ 62) : small62 i = true := by
  unfold small62
  rw [Bool.and_eq_true]
  exact ⟨decide_eq_true (by omega), decide_eq_true h1⟩
theorem at_map {α : Type} {f : α → D} {l : List α} {i : Int} (h0 : 0 ≤ i) (h1 : i < l.length) : ∃ x ∈ l, l[i.toNat]? = some x ∧ atI (l.map f) i = some (f x) := by
  obtain ⟨d, e1, e2⟩ := at_in (l := l.map f) h0 (by simpa using h1)
  rw [List.getElem?_map] at e1
  obtain ⟨x, e3, rfl⟩ := Option.map_eq_some_iff.mp e1
  exact ⟨x, List.mem_of_getElem? e3, e3, e2⟩
namespace L
variable {T : String → Option Fn} {G : String → Option D} {wf : Nat}
def RowOk (ps : List (Int × Int)) : Prop := ∀ p ∈ ps, PairOk p
theorem row_step (hT : T "_law_take" = some ir_take) (hN : T "_law_number" = some ir_number) (hP : T "_law_pair" = some ir_pair) {S : Sto} (hS : StOk S) {m : Int} {i : Nat} (hi : i ≤ 10000) {ps : List (Int × Int)} (hps : RowOk ps) (hl : ps.length = i) {x : Slot} (n : Nat) :
    ∃ sl1 sl2 S2, bindT (.nm 3) (.int i) [.val (.ref 0), .val (.int m), .own (.lst (ps.map pD)), x] = some sl1 ∧ exB ⟨callN T G wf (n + 3), G, wf⟩ b_row_0 sl1 S = .ok (.nx, sl2) S2 ∧
      ∃ (ps : List (Int × Int)) (x : Slot), sl2 = [.val (.ref 0), .val (.int m), .own (.lst (ps.map pD)), x] ∧ RowOk ps ∧ ps.length = i + 1 ∧ StOk S2 := by
  obtain ⟨p, S2, e2, hp, h2⟩ := pair_ok (G := G) (wf := wf) hT hN hP hS n
  obtain ⟨w, S3, e3, w0, w1, h3⟩ := take_ok (G := G) (wf := wf) hT h2 (m := 5) (by decide) (by decide) (n + 2)
  have hps' : RowOk (ps ++ [p]) := fun q hq => by
    rcases List.mem_append.mp hq with hq | hq
    · exact hps q hq
    · rw [List.mem_singleton] at hq; subst hq; exact hp
  have el : (ps ++ [p]).length = i + 1 := by rw [List.length_append, hl]; rfl
  have eapp : ps.map pD ++ [pD p] = (ps ++ [p]).map pD := by rw [List.map_append]; rfl
  have hsz : ps.length < 16777216 := by omega
  by_cases c : w = 0
  · subst c
    obtain ⟨j, S4, e4, j0, j1, h4⟩ := take_ok (G := G) (wf := wf) hT h3 (m := (i : Int) + 1) (by omega) (by omega) (n + 2)
    obtain ⟨q, hq, _, e5⟩ := at_map (f := pD) (l := ps ++ [p]) j0 (by rw [el]; omega)
    have e6 := ixN_in (n := (ps ++ [p]).length) (i := (i : Int)) (by omega) (by rw [el]; omega)
    refine ⟨_, [.val (.ref 0), .val (.int m), .own (.lst (((ps ++ [p]).set i q).map pD)), .val (.int i)], S4, rfl, ?_, (ps ++ [p]).set i q, _, rfl, fun z hz => ?_, by rw [List.length_set]; exact el, h4⟩
    · unfold b_row_0
      rw [List.map_append] at e5
      rw [List.length_append] at e6
      simp at e5 e6
      simp [e2, e3, eqD_int, e4, e5, e6, lstAt, chg, setD, appD, hsz, sizeLine]
    · rcases List.mem_or_eq_of_mem_set hz with hz | rfl
      · exact hps' z hz
      · exact hps' z hq
  · refine ⟨_, [.val (.ref 0), .val (.int m), .own (.lst ((ps ++ [p]).map pD)), .val (.int i)], S3, rfl, ?_, (ps ++ [p]), _, rfl, hps', el, h3⟩
    unfold b_row_0
    simp [e3, eqD_int, lstAt, chg, setD, appD, e2, c, hsz, sizeLine]
theorem row_ok (hT : T "_law_take" = some ir_take) (hN : T "_law_number" = some ir_number) (hP : T "_law_pair" = some ir_pair) (hR : T "_law_row" = some ir_row) {S : Sto} (h : StOk S) {m : Int} (m0 : 0 ≤ m) (m1 : m ≤ 10000) (n : Nat) :
    ∃ ps S', callN T G wf (n + 4) "_law_row" [.ref 0, .int m] S = .ok (.val (.tup (ps.map pD))) S' ∧ RowOk ps ∧ (ps.length : Int) ≤ m ∧ StOk S' := by
  rw [call_eq hR rfl]
  unfold ir_row
  obtain ⟨k, S1, e1, k0, k1, h1⟩ := take_ok (G := G) (wf := wf) hT h (m := m + 1) (by omega) (by omega) (n + 2)
  have sk : small62 k = true := small_of k0 (by omega)
  obtain ⟨sl', S', e2, ps, x, rfl, hps, hl, h2⟩ := loop_inv0 (t := .nm 3) (b := exB ⟨callN T G wf (n + 3), G, wf⟩ b_row_0) (items := rngD 0 k.toNat) (sl := [.val (.ref 0), .val (.int m), .own (.lst []), .emp]) (S := S1)
    (fun i sl S => ∃ (ps : List (Int × Int)) (x : Slot), sl = [.val (.ref 0), .val (.int m), .own (.lst (ps.map pD)), x] ∧ RowOk ps ∧ ps.length = i ∧ StOk S) ⟨[], .emp, rfl, (fun p hp => nomatch hp), rfl, h1⟩ (by
      rintro i y sl S hy ⟨ps, x, rfl, hps, hl, hS⟩
      obtain ⟨rfl, hi⟩ := rng_get hy
      rw [Int.zero_add]
      exact row_step hT hN hP hS (by omega) hps hl n)
  rw [rng_len] at hl
  simp [e1, sk, sizeLine, e2]
  exact ⟨ps, ⟨_, ⟨rfl, rfl⟩, hps, by omega, h2⟩⟩
end L
/-! ### comprehensions -/
section
variable {F : Cf} {own : List (String × Nat)} {tg : Tg} {it : Itx} {c elt : Ex} {sl : Slots} {S S1 : Sto} {items : List D}
theorem compL_filter {f : D → List D → Sto → Res (List D)} (p : D → Bool) (g : D → D) : ∀ (items acc : List D), acc.length + items.length ≤ sizeLine → (∀ x ∈ items, ∀ acc, f x acc S = if p x then addL acc (g x) S else .ok acc S) →
    compL f items acc S = .ok (acc ++ (items.filter p).map g) S
  | [], acc, _, _ => by simp [compL]
  | x :: xs, acc, hl, h => by
    rw [List.length_cons] at hl
    unfold compL
    rw [h x List.mem_cons_self]
    cases e : p x with
    | true =>
      rw [if_pos rfl]
      unfold addL
      rw [if_pos (by omega), Res.bind_ok, compL_filter p g xs _ (by rw [List.length_append]; simp; omega) fun y hy => h y (List.mem_cons_of_mem _ hy)]
      simp [e]
    | false =>
      rw [if_neg (by simp), Res.bind_ok, compL_filter p g xs _ (by omega) fun y hy => h y (List.mem_cons_of_mem _ hy)]
      simp [e]
theorem ev_comp_filter (p : D → Bool) (g : D → D) (hi : evI F it sl S = .ok items S1) (hn : items.length ≤ sizeLine)
    (h : ∀ x ∈ items, ∃ sl2, bindT tg x (wipeS (hideS sl) (own.map (·.2))) = some sl2 ∧ evE F c sl2 S1 = .ok (.val (.bl (p x))) S1 ∧ (p x = true → (evE F elt sl2 S1).data = .ok (g x) S1)) :
    evE F (.comp own tg it c elt) sl S = .ok (.fresh (.lst ((items.filter p).map g))) S1 := by
  unfold evE
  rw [hi, Res.bind_ok, compL_filter p g items [] (by simpa using hn) fun x hx acc => ?_]
  · rfl
  · obtain ⟨sl2, e1, e2, e3⟩ := h x hx
    rw [e1]
    show (evE F c sl2 S1).truth.bind _ = _
    rw [e2]
    show (if p x = true then _ else _) = _
    cases e : p x with
    | true =>
      rw [if_pos rfl, if_pos rfl, e3 e]
      rfl
    | false => rw [if_neg (by simp), if_neg (by simp)]
theorem ev_comp_none (hi : evI F it sl S = .ok items S1) (hn : items.length ≤ sizeLine) (h : ∀ x ∈ items, ∃ sl2, bindT tg x (wipeS (hideS sl) (own.map (·.2))) = some sl2 ∧ evE F c sl2 S1 = .ok (.val (.bl false)) S1) :
    evE F (.comp own tg it c elt) sl S = .ok (.fresh (.lst [])) S1 := by
  rw [ev_comp_filter (fun _ => false) id hi hn fun x hx => ?_]
  · simp
  · obtain ⟨sl2, e1, e2⟩ := h x hx
    exact ⟨sl2, e1, e2, fun z => nomatch z⟩
theorem ev_comp_map (g : D → D) (hi : evI F it sl S = .ok items S1) (hn : items.length ≤ sizeLine)
    (h : ∀ x ∈ items, ∃ sl2, bindT tg x (wipeS (hideS sl) (own.map (·.2))) = some sl2 ∧ evE F c sl2 S1 = .ok (.val (.bl true)) S1 ∧ (evE F elt sl2 S1).data = .ok (g x) S1) :
    evE F (.comp own tg it c elt) sl S = .ok (.fresh (.lst (items.map g))) S1 := by
  rw [ev_comp_filter (fun _ => true) g hi hn fun x hx => ?_]
  · rw [List.filter_eq_self.mpr fun _ _ => rfl]
  · obtain ⟨sl2, e1, e2, e3⟩ := h x hx
    exact ⟨sl2, e1, e2, fun _ => e3⟩
end
@[simp] theorem wipe_nil (sl : Slots) : wipeS sl [] = sl := rfl
@[simp] theorem wipe_cons (sl : Slots) (v : Nat) (vs : List Nat) : wipeS sl (v :: vs) = (wipeS sl vs).set v .emp := rfl
@[simp] theorem hide_nil : hideS [] = [] := rfl
@[simp] theorem hide_val (d : D) (l : Slots) : hideS (.val d :: l) = .val d :: hideS l := rfl
@[simp] theorem hide_emp (l : Slots) : hideS (.emp :: l) = .emp :: hideS l := rfl
@[simp] theorem hide_own (c : Cn) (l : Slots) : hideS (.own c :: l) = .emp :: hideS l := rfl
theorem eqD_nil : eqD (.lst []) (.lst []) = some true := by
  simp [eqD, D.toP, D.toPs, SeqAt.shaped, PyData.canLay0, PyData.canLayAll0, PyData.depth, PyData.depthAll, PyData.eqv, PyData.eqvAll]
@[simp] theorem isin_tt (xs : List D) : isIn (.tup xs) [.tuple] = true := rfl
@[simp] theorem isin_it (i : Int) : isIn (.int i) [.tuple] = false := rfl
@[simp] theorem isin_ib (i : Int) : isIn (.int i) [.bool] = false := rfl
@[simp] theorem isin_is (i : Int) : isIn (.int i) [.str] = false := rfl
@[simp] theorem isin_ii (i : Int) : isIn (.int i) [.int] = true := rfl
@[simp] theorem isin_nt : isIn .non [.tuple] = false := rfl
@[simp] theorem isin_ni : isIn .non [.int] = false := rfl
@[simp] theorem isin_nb : isIn .non [.bool] = false := rfl
@[simp] theorem isin_bt (b : Bool) : isIn (.bl b) [.tuple] = false := rfl
@[simp] theorem isin_bb (b : Bool) : isIn (.bl b) [.bool] = true := rfl
@[simp] theorem isin_bi (b : Bool) : isIn (.bl b) [.int] = true := rfl
@[simp] theorem isin_tb (xs : List D) : isIn (.tup xs) [.bool] = false := rfl
@[simp] theorem isin_ti (xs : List D) : isIn (.tup xs) [.int] = false := rfl
@[simp] theorem isin_ts (xs : List D) : isIn (.tup xs) [.str] = false := rfl
theorem eqD_bl (i j : Bool) : eqD (.bl i) (.bl j) = some (i == j) := by
  simp [eqD, D.toP, SeqAt.shaped, PyData.canLay0, PyData.depth, PyData.eqv]
namespace L
variable {T : String → Option Fn} {G : String → Option D} {wf : Nat}
/-- the law's comparison finds d like itself -/
def Al (T : String → Option Fn) (G : String → Option D) (wf n : Nat) (d : D) : Prop := ∀ S, callN T G wf n "_law_alike" [d, d] S = .ok (.val (.bl true)) S
theorem al_int (hA : T "_law_alike" = some ir_alike) (n : Nat) (i : Int) : Al T G wf (n + 1) (.int i) := fun S => by
  rw [call_eq hA rfl]
  unfold ir_alike
  simp [eqD_int]
theorem al_bl (hA : T "_law_alike" = some ir_alike) (n : Nat) (i : Bool) : Al T G wf (n + 1) (.bl i) := fun S => by
  rw [call_eq hA rfl]
  unfold ir_alike
  simp [eqD_bl]
theorem al_non (hA : T "_law_alike" = some ir_alike) (n : Nat) : Al T G wf (n + 1) .non := fun S => by
  rw [call_eq hA rfl]
  unfold ir_alike
  simp
theorem al_tup (hA : T "_law_alike" = some ir_alike) (n : Nat) {xs : List D} (h : ∀ x ∈ xs, Al T G wf n x) (hl : xs.length ≤ sizeLine) : Al T G wf (n + 1) (.tup xs) := fun S => by
  rw [call_eq hA rfl]
  have hl' : xs.length ≤ 16777216 := by simpa [sizeLine] using hl
  have key : evE ⟨callN T G wf n, G, wf⟩ c_alike_0 [.val (.tup xs), .val (.tup xs), .emp] S = .ok (.fresh (.lst [])) S := by
    unfold c_alike_0
    refine ev_comp_none (items := rngD 0 xs.length) ?_ (by rw [rng_len]; exact hl) fun x hx => ?_
    · simp -implicitDefEqProofs [small_of (i := (xs.length : Int)) (by omega) (by omega)]
    · obtain ⟨i, hi⟩ := List.getElem?_of_mem hx
      obtain ⟨rfl, hi⟩ := rng_get hi
      obtain ⟨d, e1, e2⟩ := at_in (l := xs) (i := 0 + (i : Int)) (by omega) (by omega)
      refine ⟨_, rfl, ?_⟩
      have e3 := h d (List.mem_of_getElem? e1) S
      simp at e2
      simp -implicitDefEqProofs [e2, e3]
  unfold ir_alike
  simp -implicitDefEqProofs [eqD_int, key, eqD_nil]
end L
end Px

set_option Elab.async false
set_option linter.all false
set_option maxRecDepth 100000
set_option maxHeartbeats 1000000
/-! Px, part X: repr of a row; pairs put together. -/
namespace Px
open PySem L2 L
theorem char_lt (c : Char) : c.toNat < 0x110000 := by
  have h : c.val.toNat.isValidChar := c.valid
  show c.val.toNat < 0x110000
  rcases h with h | ⟨_, h⟩
  · omega
  · exact h
theorem ok_of {x : Str} (h : ∀ c ∈ x.cps.toList, c < 0x110000) : PyData.strOk x = true := by
  show x.cps.all (· < 0x110000) = true
  rw [← Array.all_toList, List.all_eq_true]
  exact fun c hc => decide_eq_true (h c hc)
theorem of_ok {x : Str} (h : PyData.strOk x = true) : ∀ c ∈ x.cps.toList, c < 0x110000 := by
  have h' : x.cps.all (· < 0x110000) = true := h
  rw [← Array.all_toList, List.all_eq_true] at h'
  exact fun c hc => of_decide_eq_true (h' c hc)
theorem ok_str (s : String) : PyData.strOk (Str.ofString s) = true := by
  refine ok_of fun c hc => ?_
  rw [Str.ofString_eq_toList] at hc
  have hc' : c ∈ s.toList.map Char.toNat := by simpa using hc
  obtain ⟨x, _, rfl⟩ := List.mem_map.mp hc'
  exact char_lt x
theorem ok_app {a b : Str} (ha : PyData.strOk a = true) (hb : PyData.strOk b = true) : PyData.strOk (a ++ b) = true := by
  refine ok_of fun c hc => ?_
  have hc' : c ∈ (a.cps ++ b.cps).toList := hc
  rw [Array.toList_append, List.mem_append] at hc'
  exact hc'.elim (of_ok ha c) (of_ok hb c)
theorem ok_join : ∀ {ts : List Str}, (∀ t ∈ ts, PyData.strOk t = true) → PyData.strOk (Str.join ", " ts) = true
  | [], _ => ok_str ""
  | [x], h => h x List.mem_cons_self
  | x :: y :: r, h => by
    show PyData.strOk (x ++ ", " ++ Str.join ", " (y :: r)) = true
    exact ok_app (ok_app (h x List.mem_cons_self) (ok_str ", ")) (ok_join fun t ht => h t (List.mem_cons_of_mem _ ht))
theorem ok_tuple {ts : List Str} (h : ∀ t ∈ ts, PyData.strOk t = true) : PyData.strOk (tupleText ts) = true := by
  unfold tupleText
  exact ok_app (ok_app (ok_str "(") (ok_join h)) (ok_str _)
/-- small data: what repr needs -/
structure Shw (d : D) (k w : Nat) : Prop where
  lv : d.toP.leavesShort 45 = true
  sh : d.toP.showable = true
  cl : d.toP.canLay0 = true
  dp : d.toP.depth ≤ k
  wt : d.toP.weight ≤ w
  ok : PyData.strOk d.toP.shown = true
theorem Shw.repr {d : D} {k w : Nat} (h : Shw d k w) (hk : k ≤ 64) (hw : w ≤ 350000) : opBi .repr [.val d] = some (.val (.str d.toP.shown)) := by
  have h1 := PyData.shown_le 45 (by decide) d.toP h.lv
  have h2 : (45 + 2) * d.toP.weight ≤ 47 * 350000 := Nat.mul_le_mul_left _ (Nat.le_trans h.wt hw)
  have h3 : d.toP.shown.length ≤ sizeLine := by
    rw [show sizeLine = 16777216 by unfold sizeLine; decide]
    omega
  show (if _ then _ else _) = _
  rw [if_pos ⟨h.sh, h.cl, Nat.le_trans h.dp hk, h3⟩]
  rfl
theorem shw_int {i : Int} (h : i.natAbs < 10 ^ 44) : Shw (.int i) 0 147 := by
  have e : (PyData.shown (.int i)).length ≤ 45 := by
    have e := PySem.int_text_length_le10 (k := 44) (by decide) h
    show (Str.ofString (toString i)).length ≤ 45
    rw [ofString_length]; exact e
  have l : i.natAbs.log2 ≤ 146 := log2_lt (k := 146) (by omega)
  refine ⟨by simpa [D.toP, PyData.leavesShort] using e, ?_, rfl, Nat.le_refl _, ?_, ?_⟩
  · show decide (i.natAbs.log2 < 1920) = true
    exact decide_eq_true (by omega)
  · show (if i == 0 then 0 else i.natAbs.log2 + 1) ≤ 147
    split <;> omega
  · exact ok_str (toString i)
theorem shown_mem : ∀ {xs : List D} {t : Str}, t ∈ PyData.shownAll (D.toPs xs) → ∃ x ∈ xs, t = x.toP.shown
  | [], t, h => nomatch h
  | x :: xs, t, h => by
    simp only [D.toPs, PyData.shownAll, List.mem_cons] at h
    rcases h with rfl | h
    · exact ⟨x, List.mem_cons_self, rfl⟩
    · obtain ⟨y, hy, e⟩ := shown_mem h
      exact ⟨y, List.mem_cons_of_mem _ hy, e⟩
theorem shw_all : ∀ {xs : List D} {k w : Nat}, (∀ x ∈ xs, Shw x k w) → PyData.leavesShortAll 45 (D.toPs xs) = true ∧ PyData.showableAll (D.toPs xs) = true ∧ PyData.canLayAll0 (D.toPs xs) = true ∧ PyData.depthAll (D.toPs xs) ≤ k ∧ PyData.weightAll (D.toPs xs) ≤ (w + 1) * xs.length
  | [], k, w, _ => ⟨rfl, rfl, rfl, Nat.zero_le _, Nat.zero_le _⟩
  | x :: xs, k, w, h => by
    obtain ⟨a, b, c, d, e⟩ := shw_all (xs := xs) fun y hy => h y (List.mem_cons_of_mem _ hy)
    have hx := h x List.mem_cons_self
    refine ⟨?_, ?_, ?_, ?_, ?_⟩
    · simp only [D.toPs, PyData.leavesShortAll, hx.lv, a, Bool.and_self]
    · simp only [D.toPs, PyData.showableAll, hx.sh, b, Bool.and_self]
    · simp only [D.toPs, PyData.canLayAll0, hx.cl, c, Bool.and_self]
    · simp only [D.toPs, PyData.depthAll]
      exact Nat.max_le.mpr ⟨hx.dp, d⟩
    · simp only [D.toPs, PyData.weightAll, List.length_cons]
      have q := hx.wt
      rw [Nat.mul_add, Nat.mul_one]
      omega
theorem shw_tup {xs : List D} {k w n : Nat} (h : ∀ x ∈ xs, Shw x k w) (hn : xs.length ≤ n) : Shw (.tup xs) (k + 1) ((w + 1) * n) := by
  obtain ⟨a, b, c, d, e⟩ := shw_all h
  refine ⟨by simpa [D.toP, PyData.leavesShort] using a, by simpa [D.toP, PyData.showable] using b, by simpa [D.toP, PyData.canLay0] using c, ?_, ?_, ?_⟩
  · simp only [D.toP, PyData.depth]; omega
  · simp only [D.toP, PyData.weight]
    exact Nat.le_trans e (Nat.mul_le_mul_left _ hn)
  · simp only [D.toP, PyData.shown]
    refine ok_tuple fun t ht => ?_
    obtain ⟨x, hx, rfl⟩ := shown_mem ht
    exact (h x hx).ok
theorem shw_pair {p : Int × Int} (h : PairOk p) : Shw (pD p) 1 296 := by
  have q : ∀ x ∈ [D.int p.1, D.int p.2], Shw x 0 147 := fun x hx => by
    obtain ⟨⟨a, b⟩, c, d⟩ := h
    simp only [List.mem_cons, List.not_mem_nil, or_false] at hx
    rcases hx with rfl | rfl
    · exact shw_int (by omega)
    · exact shw_int (by omega)
  exact shw_tup q (Nat.le_refl 2)
theorem shw_row {ps : List (Int × Int)} (h : L.RowOk ps) {n : Nat} (hn : ps.length ≤ n) : Shw (.tup (ps.map pD)) 2 (297 * n) :=
  shw_tup (k := 1) (w := 296) (fun x hx => by
    obtain ⟨p, hp, rfl⟩ := List.mem_map.mp hx
    exact shw_pair (h p hp)) (by simpa using hn)
theorem eqD_str {a b : Str} (ha : PyData.strOk a = true) (hb : PyData.strOk b = true) : eqD (.str a) (.str b) = some (a == b) := by
  simp [eqD, D.toP, SeqAt.shaped, PyData.canLay0, PyData.depth, PyData.eqv, ha, hb]

theorem eqD_strSelf {a : Str} (ha : PyData.strOk a = true) : eqD (.str a) (.str a) = some true := by
  rw [eqD_str ha ha]
  simp
/-! ### pairs -/
def gn (p : Int × Int) : Int := p.2 - p.1
def jn (p q : Int × Int) : Int × Int := ((if q.1 - gn p > p.1 then q.1 - gn p else p.1), (if q.1 - gn p > p.1 then q.1 - gn p else p.1) + gn p + gn q)
def whl (ps : List (Int × Int)) : Int × Int := ps.foldl jn (0, 0)
theorem slc_map {α β : Type} (f : α → β) (l : List α) (a b : Option Int) : slc (l.map f) a b = (slc l a b).map f := by
  unfold slc
  rw [List.length_map, List.map_take, List.map_drop]
theorem slc_mem {α : Type} {l : List α} {a b : Option Int} {x : α} (h : x ∈ slc l a b) : x ∈ l := List.mem_of_mem_drop (List.mem_of_mem_take h)
theorem slc_to {α : Type} (l : List α) {k : Nat} : slc l none (some (k : Int)) = l.take k := by
  unfold slc
  rw [HT.sIx_none, HT.sIx_nat, List.drop_zero, Nat.sub_zero]
  by_cases h : k ≤ l.length
  · rw [Nat.min_eq_left h]
  · rw [Nat.min_eq_right (by omega), List.take_of_length_le (Nat.le_refl _), List.take_of_length_le (by omega)]
theorem slc_from {α : Type} (l : List α) {k : Nat} : slc l (some (k : Int)) none = l.drop k := by
  unfold slc
  rw [HT.sIx_none, HT.sIx_nat, List.take_of_length_le (by rw [List.length_drop]; exact Nat.le_refl _)]
  by_cases h : k ≤ l.length
  · rw [Nat.min_eq_left h]
  · rw [Nat.min_eq_right (by omega), List.drop_of_length_le (Nat.le_refl _), List.drop_of_length_le (by omega)]
namespace L
variable {T : String → Option Fn} {G : String → Option D} {wf : Nat}
theorem gain_eq (hG : T "gain" = some ir_gain) (p : Int × Int) (n : Nat) (S : Sto) : callN T G wf (n + 1) "gain" [pD p] S = .ok (.val (.int (gn p))) S := by
  rw [call_eq hG rfl]
  unfold ir_gain pD
  simp -implicitDefEqProofs [at0, at1, gn]
theorem joined_eq (hG : T "gain" = some ir_gain) (hJ : T "joined" = some ir_joined) (p q : Int × Int) (n : Nat) (S : Sto) : callN T G wf (n + 2) "joined" [pD p, pD q] S = .ok (.val (pD (jn p q))) S := by
  rw [call_eq hJ rfl]
  have e1 := gain_eq (G := G) (wf := wf) hG p n S
  have e2 := gain_eq (G := G) (wf := wf) hG q n S
  unfold ir_joined
  unfold pD at e1 e2 ⊢
  simp -implicitDefEqProofs [at0, at1, e1, e2, jn]
theorem whole_eq (hG : T "gain" = some ir_gain) (hJ : T "joined" = some ir_joined) (hW : T "whole" = some ir_whole) (ps : List (Int × Int)) (n : Nat) (S : Sto) :
    callN T G wf (n + 3) "whole" [.tup (ps.map pD)] S = .ok (.val (pD (whl ps))) S := by
  rw [call_eq hW rfl]
  obtain ⟨sl', S', e, rfl, x, rfl⟩ := loop_inv0 (t := .nm 2) (b := exB ⟨callN T G wf (n + 2), G, wf⟩ b_whole_0) (items := ps.map pD) (sl := [.val (.tup (ps.map pD)), .val (pD (0, 0)), .emp]) (S := S)
    (fun i sl S' => S' = S ∧ ∃ x, sl = [.val (.tup (ps.map pD)), .val (pD ((ps.take i).foldl jn (0, 0))), x]) ⟨rfl, _, rfl⟩ (by
      rintro i y sl S' hy ⟨rfl, x, rfl⟩
      rw [List.getElem?_map] at hy
      obtain ⟨p, hp, rfl⟩ := Option.map_eq_some_iff.mp hy
      refine ⟨_, [.val (.tup (ps.map pD)), .val (pD (jn ((ps.take i).foldl jn (0, 0)) p)), .val (pD p)], _, rfl, ?_, rfl, .val (pD p), ?_⟩
      · unfold b_whole_0
        simp -implicitDefEqProofs [joined_eq (G := G) (wf := wf) hG hJ]
      · rw [List.take_add_one, hp]
        simp)
  rw [List.length_map, List.take_length] at e
  unfold ir_whole
  simp -implicitDefEqProofs
  have e' := e
  unfold pD at e'
  rw [show (List.map (fun p : Int × Int => D.tup [D.int p.fst, D.int p.snd]) ps) = ps.map pD from rfl] at e'
  simp at e'
  simp -implicitDefEqProofs [e']
  rfl
end L
end Px

set_option Elab.async false
set_option linter.all false
set_option maxRecDepth 100000
set_option maxHeartbeats 1000000
/-! Px, part Y: the drawing's start. -/
namespace Px
open PySem L2
namespace L
def c_stream : Ex := .comp [("_law_cell", 1)] (.nm 1) (.val (.sl (.var 0) .no (.yes (.int 63)))) .nop (.bi .abs (.cons (.var 1) .nil))
def ir_stream (z : Int) : Fn := ⟨1, ["_law_script", "_law_cell"], (.cons (.ret (.list (.cons c_stream (.cons (.int 0) (.cons (.int 0) (.cons (.bin .add (.int z) (.bi .len (.cons (.var 0) .nil))) .nil)))))) .nil)⟩
variable {T : String → Option Fn} {G : String → Option D} {wf : Nat}
def absI (i : Int) : Int := if i < 0 then -i else i
def absD : D → D
  | .int i => .int (absI i)
  | d => d
theorem stream_ok {z : Int} (hT : T "_law_stream" = some (ir_stream z)) (hz : 0 ≤ z) (hz2 : z < 1000000) {ns : List Int} (hn : ns.length ≤ 63) (n : Nat) (S : Sto) :
    ∃ c : List D, callN T G wf (n + 1) "_law_stream" [.scr (ns.map .int)] S = .ok (.fresh (.lst c)) S ∧ StOk [.lst c] := by
  have key : evE ⟨callN T G wf n, G, wf⟩ c_stream [.val (.scr (ns.map .int)), .emp] S = .ok (.fresh (.lst ((ns.map absI).map .int))) S := by
    unfold c_stream
    rw [ev_comp_map (items := ns.map D.int) absD ?_ ?_ fun x hx => ?_]
    · rw [List.map_map, List.map_map]; rfl
    · have e : slc (ns.map D.int) none (some 63) = ns.map D.int := by
        rw [show (some (63 : Int)) = some ((63 : Nat) : Int) from rfl, slc_to, List.take_of_length_le (by rw [List.length_map]; exact hn)]
      simp -implicitDefEqProofs [e]
    · rw [List.length_map]
      exact Nat.le_trans hn (by unfold sizeLine; decide)
    · obtain ⟨i, _, rfl⟩ := List.mem_map.mp hx
      refine ⟨_, rfl, rfl, ?_⟩
      simp -implicitDefEqProofs [absD, absI]
  refine ⟨_, ?_, StOk.mk (cs := ns.map absI) (b := 0) (l := 0) (bl := z + (ns.length : Int)) (fun c hc => ?_) (Int.le_refl _) (Int.le_refl _) (by omega) (by omega)⟩
  · rw [call_eq hT rfl]
    unfold ir_stream
    simp -implicitDefEqProofs [key]
  · obtain ⟨i, _, rfl⟩ := List.mem_map.mp hc
    unfold absI
    split <;> omega
end L
end Px

set_option Elab.async false
set_option linter.all false
set_option maxRecDepth 100000
set_option maxHeartbeats 1000000
/-! Px, part Z: the algebra of pairs. -/
namespace Px
open PySem L2 L
theorem whole_one {p : Int × Int} (h : PairOk p) : whl [p] = p := by
  obtain ⟨⟨a, _⟩, _, _⟩ := h
  show jn (0, 0) p = p
  unfold jn gn
  obtain ⟨x, y⟩ := p
  simp only [] at *
  by_cases c : x > 0
  · simp [c]; omega
  · have : x = 0 := by omega
    subst this
    simp
theorem gn_jn (p q : Int × Int) : gn (jn p q) = gn p + gn q := by unfold jn gn; simp; omega
theorem jn_fst (p q : Int × Int) : (jn p q).1 = if q.1 - gn p > p.1 then q.1 - gn p else p.1 := rfl
theorem pair_ext {p q : Int × Int} (h1 : p.1 = q.1) (h2 : gn p = gn q) : p = q := by
  obtain ⟨a, b⟩ := p
  obtain ⟨c, d⟩ := q
  unfold gn at h2
  simp only [] at *
  subst h1
  have : b = d := by omega
  rw [this]
theorem jn_assoc (p q r : Int × Int) : jn (jn p q) r = jn p (jn q r) := by
  refine pair_ext ?_ (by rw [gn_jn, gn_jn, gn_jn, gn_jn]; omega)
  rw [jn_fst, jn_fst, jn_fst, jn_fst, gn_jn]
  split <;> split <;> split <;> (try split) <;> omega
theorem jn_right {p : Int × Int} (h : 0 ≤ p.2) : jn p (0, 0) = p := by
  refine pair_ext ?_ (by rw [gn_jn]; show gn p + 0 = _; omega)
  rw [jn_fst]
  show (if 0 - gn p > p.1 then _ else _) = _
  rw [if_neg]
  unfold gn
  omega
theorem jn_left {p : Int × Int} (h : 0 ≤ p.1) : jn (0, 0) p = p := by
  refine pair_ext ?_ (by rw [gn_jn]; show 0 + gn p = _; omega)
  rw [jn_fst]
  show (if p.1 - 0 > 0 then p.1 - 0 else 0) = _
  split <;> omega
theorem jn_snd (c p : Int × Int) (h : 0 ≤ p.2) : 0 ≤ (jn c p).2 := by
  show 0 ≤ (jn c p).1 + gn c + gn p
  rw [jn_fst]
  unfold gn at *
  split <;> omega
theorem fold_jn : ∀ (ps : List (Int × Int)) (c : Int × Int), 0 ≤ c.2 → (∀ p ∈ ps, 0 ≤ p.2) → ps.foldl jn c = jn c (whl ps)
  | [], c, h, _ => (jn_right h).symm
  | p :: ps, c, h, hp => by
    have c0 := hp p List.mem_cons_self
    have hq : ∀ q ∈ ps, 0 ≤ q.2 := fun q hq => hp q (List.mem_cons_of_mem _ hq)
    show ps.foldl jn (jn c p) = jn c (ps.foldl jn (jn (0, 0) p))
    rw [fold_jn ps (jn c p) (jn_snd _ _ c0) hq, fold_jn ps (jn (0, 0) p) (jn_snd _ _ c0) hq, ← jn_assoc, ← jn_assoc, jn_right h]
theorem row_snd {ps : List (Int × Int)} (h : RowOk ps) : ∀ p ∈ ps, 0 ≤ p.2 := fun p hp => (h p hp).2.1
theorem whl_snd {ps : List (Int × Int)} (h : ∀ p ∈ ps, 0 ≤ p.2) : 0 ≤ (whl ps).2 := by
  rcases List.eq_nil_or_concat ps with rfl | ⟨l, p, rfl⟩
  · exact Int.le_refl _
  · unfold whl
    rw [List.concat_eq_append, List.foldl_append]
    exact jn_snd _ _ (h p (by simp))
theorem whl_app {a b : List (Int × Int)} (ha : RowOk a) (hb : RowOk b) : whl (a ++ b) = jn (whl a) (whl b) := by
  show (a ++ b).foldl jn (0, 0) = _
  rw [List.foldl_append]
  exact fold_jn b _ (whl_snd (row_snd ha)) (row_snd hb)
theorem whl_fst (ps : List (Int × Int)) : 0 ≤ (whl ps).1 := by
  have : ∀ (ps : List (Int × Int)) (c : Int × Int), 0 ≤ c.1 → 0 ≤ (ps.foldl jn c).1 := by
    intro ps
    induction ps with
    | nil => exact fun c h => h
    | cons p ps ih =>
      intro c h
      refine ih (jn c p) ?_
      rw [jn_fst]
      split <;> omega
  exact this ps (0, 0) (Int.le_refl _)
namespace L
variable {T : String → Option Fn} {G : String → Option D} {wf : Nat}
theorem al_pair (hA : T "_law_alike" = some ir_alike) (p : Int × Int) (n : Nat) : Al T G wf (n + 2) (pD p) := al_tup hA (n + 1) (fun x hx => by
  simp only [List.mem_cons, List.not_mem_nil, or_false] at hx
  rcases hx with rfl | rfl
  · exact al_int hA n _
  · exact al_int hA n _) (by simp)
end L
end Px

set_option Elab.async false
set_option linter.all false
set_option maxRecDepth 100000
set_option maxHeartbeats 1000000
/-! Px, part AA: loops that may leave early, whiles; ups, cuts. -/
namespace Px
open PySem L2
theorem loop_rule {t : Tg} {b : Slots → Sto → Res (Fl × Slots)} (I : Nat → Slots → Sto → Prop) (R : Rv → Sto → Prop) : ∀ (items : List D) (k : Nat) (sl : Slots) (S : Sto), I k sl S →
    (∀ i x sl S, items[i]? = some x → I (k + i) sl S → ∃ sl1 p S2, bindT t x sl = some sl1 ∧ b sl1 S = .ok p S2 ∧ ((p.1 = .nx ∧ I (k + i + 1) p.2 S2) ∨ ∃ r, p.1 = .rt r ∧ R r S2)) →
    ∃ p S', loopL t b items sl S = .ok p S' ∧ ((p.1 = .nx ∧ I (k + items.length) p.2 S') ∨ ∃ r, p.1 = .rt r ∧ R r S')
  | [], k, sl, S, h, _ => ⟨(.nx, sl), S, rfl, .inl ⟨rfl, h⟩⟩
  | x :: xs, k, sl, S, h, step => by
    obtain ⟨sl1, p, S2, e1, e2, h2⟩ := step 0 x sl S rfl h
    unfold loopL
    rw [e1]
    show ∃ q S', (b sl1 S).bind _ = _ ∧ _
    rw [e2, Res.bind_ok]
    obtain ⟨fl, sl2⟩ := p
    rcases h2 with ⟨rfl, h2⟩ | ⟨r, rfl, h2⟩
    · obtain ⟨q, S', e3, h3⟩ := loop_rule I R xs (k + 1) sl2 S2 h2 fun i y sl S hy hI => by
        have w := step (i + 1) y sl S (by simpa using hy)
        rw [show k + 1 + i = k + (i + 1) by omega] at hI ⊢
        exact w hI
      rw [show k + 1 + xs.length = k + (xs.length + 1) by omega] at h3
      exact ⟨q, S', e3, h3⟩
    · exact ⟨(.rt r, sl2), S2, rfl, .inr ⟨r, rfl, h2⟩⟩
theorem loop_rule0 {t : Tg} {b : Slots → Sto → Res (Fl × Slots)} (I : Nat → Slots → Sto → Prop) (R : Rv → Sto → Prop) {items : List D} {sl : Slots} {S : Sto} (h : I 0 sl S)
    (step : ∀ i x sl S, items[i]? = some x → I i sl S → ∃ sl1 p S2, bindT t x sl = some sl1 ∧ b sl1 S = .ok p S2 ∧ ((p.1 = .nx ∧ I (i + 1) p.2 S2) ∨ ∃ r, p.1 = .rt r ∧ R r S2)) :
    ∃ p S', loopL t b items sl S = .ok p S' ∧ ((p.1 = .nx ∧ I items.length p.2 S') ∨ ∃ r, p.1 = .rt r ∧ R r S') := by
  have q := loop_rule (t := t) (b := b) I R items 0 sl S h fun i x sl S e hI => by
    rw [Nat.zero_add] at hI ⊢
    exact step i x sl S e hI
  rw [Nat.zero_add] at q
  exact q
/-- a while that never leaves early: a measure, an invariant -/
theorem whl_rule {c : Slots → Sto → Res Bool} {b : Slots → Sto → Res (Fl × Slots)} (I : Nat → Slots → Sto → Prop) (Q : Slots → Sto → Prop)
    (step : ∀ m sl S, I m sl S → ∃ k, c sl S = .ok k S ∧ (k = false → Q sl S) ∧ (k = true → ∃ sl2 S2 m', b sl S = .ok (.nx, sl2) S2 ∧ m' < m ∧ I m' sl2 S2)) :
    ∀ (fuel m : Nat) (sl : Slots) (S : Sto), m < fuel → I m sl S → ∃ sl' S', whlN c b fuel sl S = .ok (.nx, sl') S' ∧ Q sl' S'
  | 0, m, sl, S, h, _ => absurd h (Nat.not_lt_zero _)
  | fuel + 1, m, sl, S, h, hI => by
    obtain ⟨k, e, h1, h2⟩ := step m sl S hI
    unfold whlN
    rw [e, Res.bind_ok]
    cases k with
    | false => exact ⟨sl, S, rfl, h1 rfl⟩
    | true =>
      obtain ⟨sl2, S2, m', e2, hm, hI2⟩ := h2 rfl
      rw [if_pos rfl, e2, Res.bind_ok]
      exact whl_rule I Q step fuel m' sl2 S2 (by omega) hI2
theorem pD_ix0 (p : Int × Int) : opIxD (L.pD p) (.int 0) = some (.val (.int p.1)) := by
  show opIxD (.tup [.int p.1, .int p.2]) _ = _
  rw [oi_tup, at0]; rfl
theorem pD_ix1 (p : Int × Int) : opIxD (L.pD p) (.int 1) = some (.val (.int p.2)) := by
  show opIxD (.tup [.int p.1, .int p.2]) _ = _
  rw [oi_tup, at1]; rfl
def mn (i j : Int) : Int := if j < i then j else i
theorem bi_mn (i j : Int) : opBi .min2 [.val (.int i), .val (.int j)] = some (.val (.int (mn i j))) := rfl
theorem at_lastD (l : List D) (x : D) : atI (l ++ [x]) (-1) = some x := by
  simp only [atI, ixN]
  rw [if_neg (by decide), if_pos (by rw [List.length_append]; simp; omega)]
  show (l ++ [x])[((-1 : Int) + ((l ++ [x]).length : Int)).toNat]? = _
  have : ((-1 : Int) + ((l ++ [x]).length : Int)).toNat = l.length := by rw [List.length_append]; simp; omega
  rw [this]
  simp
namespace L
variable {T : String → Option Fn} {G : String → Option D} {wf : Nat}
theorem up_body (hG : T "gain" = some ir_gain) (ps : List (Int × Int)) (p : Int × Int) (f h d e b0 b1 a : Int) (n : Nat) (S : Sto) (e2 : atI (ps.map pD) a = some (pD p)) :
    exB ⟨callN T G wf (n + 1), G, wf⟩ b_up_end_0 [.val (.tup (ps.map pD)), .val (.int f), .val (.int h), .val (.int d), .val (.int e), .val (.tup [.int b0, .int b1]), .val (.int a)] S =
      if f < e ∧ mn d (h - p.1) < b0 then .ok (.rt (.val (.int e)), [.val (.tup (ps.map pD)), .val (.int f), .val (.int (h + gn p)), .val (.int (mn d (h - p.1))), .val (.int e), .val (.tup [.int b0, .int b1]), .val (.int a)]) S
      else if 0 < h + gn p ∧ (e = f ∨ b1 ≤ h + gn p) then .ok (.nx, [.val (.tup (ps.map pD)), .val (.int f), .val (.int (h + gn p)), .val (.int (mn d (h - p.1))), .val (.int (a + 1)), .val (.tup [.int (mn d (h - p.1)), .int (h + gn p)]), .val (.int a)]) S
      else .ok (.nx, [.val (.tup (ps.map pD)), .val (.int f), .val (.int (h + gn p)), .val (.int (mn d (h - p.1))), .val (.int e), .val (.tup [.int b0, .int b1]), .val (.int a)]) S := by
  have e3 := gain_eq (G := G) (wf := wf) hG p n S
  unfold b_up_end_0
  generalize hh : h + gn p = h'
  generalize hd : mn d (h - p.1) = d'
  by_cases c1 : f < e
  · by_cases c2 : d' < b0
    · simp -implicitDefEqProofs [-bi_min2, bi_mn, e2, e3, pD_ix0, c1, c2, at0, at1, hh, hd]
    · have c3 : ¬ e = f := by omega
      by_cases c4 : 0 < h'
      · by_cases c5 : b1 ≤ h' <;> simp -implicitDefEqProofs [-bi_min2, bi_mn, e2, e3, pD_ix0, c1, c2, c3, c4, c5, at0, at1, hh, hd, eqD_int]
      · simp -implicitDefEqProofs [-bi_min2, bi_mn, e2, e3, pD_ix0, c1, c2, c3, c4, at0, at1, hh, hd, eqD_int]
  · by_cases c4 : 0 < h'
    · by_cases c3 : e = f
      · subst c3
        simp -implicitDefEqProofs [-bi_min2, bi_mn, e2, e3, pD_ix0, c4, at0, at1, hh, hd, eqD_int]
      · by_cases c5 : b1 ≤ h' <;> simp -implicitDefEqProofs [-bi_min2, bi_mn, e2, e3, pD_ix0, c1, c3, c4, c5, at0, at1, hh, hd, eqD_int]
    · simp -implicitDefEqProofs [-bi_min2, bi_mn, e2, e3, pD_ix0, c1, c4, at0, at1, hh, hd, eqD_int]
theorem up_end_ok (hG : T "gain" = some ir_gain) (hU : T "up_end" = some ir_up_end) (ps : List (Int × Int)) (hl : ps.length ≤ 100000) {f : Int} (f0 : 0 ≤ f) (f1 : f ≤ ps.length) (n : Nat) (S : Sto) :
    ∃ e : Int, callN T G wf (n + 2) "up_end" [.tup (ps.map pD), .int f] S = .ok (.val (.int e)) S ∧ f ≤ e ∧ e ≤ ps.length := by
  rw [call_eq hU rfl]
  obtain ⟨p, S', e1, h⟩ := loop_rule0 (t := .nm 6) (b := exB ⟨callN T G wf (n + 1), G, wf⟩ b_up_end_0) (items := rngD f ((ps.length : Int) - f).toNat) (sl := [.val (.tup (ps.map pD)), .val (.int f), .val (.int 0), .val (.int 0), .val (.int f), .val (.tup [.int 0, .int 0]), .emp]) (S := S)
    (fun k sl S' => S' = S ∧ ∃ h d e b0 b1 x, sl = [.val (.tup (ps.map pD)), .val (.int f), .val (.int h), .val (.int d), .val (.int e), .val (.tup [.int b0, .int b1]), x] ∧ f ≤ e ∧ e ≤ ps.length)
    (fun r S' => S' = S ∧ ∃ e : Int, r = .val (.int e) ∧ f ≤ e ∧ e ≤ ps.length) ⟨rfl, _, _, _, _, _, _, rfl, Int.le_refl _, f1⟩ (by
      rintro k y sl S' hy ⟨rfl, h, d, e, b0, b1, x, rfl, g1, g2⟩
      obtain ⟨rfl, hk⟩ := rng_get hy
      obtain ⟨p, _, _, e2⟩ := at_map (f := pD) (l := ps) (i := f + (k : Int)) (by omega) (by omega)
      have ub := up_body (G := G) (wf := wf) hG ps p f h d e b0 b1 (f + k) n S' e2
      by_cases c1 : f < e ∧ mn d (h - p.1) < b0
      · rw [if_pos c1] at ub
        exact ⟨_, _, S', rfl, ub, .inr ⟨_, rfl, rfl, e, rfl, g1, g2⟩⟩
      · rw [if_neg c1] at ub
        by_cases c2 : 0 < h + gn p ∧ (e = f ∨ b1 ≤ h + gn p)
        · rw [if_pos c2] at ub
          exact ⟨_, _, S', rfl, ub, .inl ⟨rfl, rfl, _, _, _, _, _, _, rfl, by omega, by omega⟩⟩
        · rw [if_neg c2] at ub
          exact ⟨_, _, S', rfl, ub, .inl ⟨rfl, rfl, _, _, _, _, _, _, rfl, g1, g2⟩⟩)
  have s1 : small62 f = true := small_of f0 (by omega)
  have s2 : small62 (ps.length : Int) = true := small_of (by omega) (by omega)
  unfold ir_up_end
  obtain ⟨fl, sl⟩ := p
  rcases h with ⟨rfl, rfl, h, d, e, b0, b1, x, rfl, g1, g2⟩ | ⟨r, rfl, rfl, e, rfl, g1, g2⟩
  · refine ⟨e, ?_, g1, g2⟩
    simp -implicitDefEqProofs [s1, s2, e1]
  · refine ⟨e, ?_, g1, g2⟩
    simp -implicitDefEqProofs [s1, s2, e1]
theorem ups_of_ok (hG : T "gain" = some ir_gain) (hU : T "up_end" = some ir_up_end) (hO : T "ups_of" = some ir_ups_of) (ps : List (Int × Int)) (hl : ps.length ≤ 100000) (hw : ps.length + 1 < wf) (n : Nat) (S : Sto) :
    ∃ U : List (Int × Int), callN T G wf (n + 3) "ups_of" [.tup (ps.map pD)] S = .ok (.fresh (.lst (U.map pD))) S ∧ (∀ u ∈ U, 0 ≤ u.1 ∧ u.1 ≤ u.2 ∧ u.2 ≤ ps.length) ∧ U.length ≤ ps.length := by
  rw [call_eq hO rfl]
  obtain ⟨e, e1, g1, g2⟩ := up_end_ok (G := G) (wf := wf) hG hU ps hl (f := 0) (Int.le_refl _) (by omega) n S
  obtain ⟨sl', S', e2, rfl, U, f, e', rfl, hU', hle⟩ := whl_rule (c := fun sl S => (evE ⟨callN T G wf (n + 2), G, wf⟩ (.cmp .gt (.var 3) (.var 2)) sl S).truth) (b := exB ⟨callN T G wf (n + 2), G, wf⟩ b_ups_of_0)
    (fun m sl S' => S' = S ∧ ∃ (U : List (Int × Int)) (f e : Int), sl = [.val (.tup (ps.map pD)), .own (.lst (U.map pD)), .val (.int f), .val (.int e)] ∧ 0 ≤ f ∧ f ≤ e ∧ e ≤ ps.length ∧ m = ((ps.length : Int) - f).toNat ∧ (U.length : Int) ≤ f ∧ ∀ u ∈ U, 0 ≤ u.1 ∧ u.1 ≤ u.2 ∧ u.2 ≤ ps.length)
    (fun sl S' => S' = S ∧ ∃ (U : List (Int × Int)) (f e : Int), sl = [.val (.tup (ps.map pD)), .own (.lst (U.map pD)), .val (.int f), .val (.int e)] ∧ (∀ u ∈ U, 0 ≤ u.1 ∧ u.1 ≤ u.2 ∧ u.2 ≤ ps.length) ∧ U.length ≤ ps.length)
    (by
      rintro m sl S' ⟨rfl, U, f, e, rfl, f0, fe, el, rfl, ul, hu⟩
      refine ⟨decide (f < e), by simp -implicitDefEqProofs, fun _ => ⟨rfl, U, f, e, rfl, hu, by omega⟩, fun hc => ?_⟩
      have hc := of_decide_eq_true hc
      obtain ⟨e', q, g1, g2⟩ := up_end_ok (G := G) (wf := wf) hG hU ps hl (f := e) (by omega) el n S'
      refine ⟨[.val (.tup (ps.map pD)), .own (.lst ((U ++ [(f, e)]).map pD)), .val (.int e), .val (.int e')], S', ((ps.length : Int) - e).toNat, ?_, by omega, rfl, U ++ [(f, e)], e, e', rfl, by omega, g1, g2, rfl, ?_, ?_⟩
      · have hs : U.length < sizeLine := by
          unfold sizeLine
          omega
        unfold b_ups_of_0
        simp -implicitDefEqProofs [lstAt, chg, appD, hs, q, pD]
      · rw [List.length_append]
        show ((U.length + 1 : Nat) : Int) ≤ e
        omega
      · intro u hu'
        rcases List.mem_append.mp hu' with h | h
        · exact hu u h
        · rw [List.mem_singleton] at h
          subst h
          exact ⟨f0, fe, el⟩) wf ps.length [.val (.tup (ps.map pD)), .own (.lst []), .val (.int 0), .val (.int e)] S (by omega) ⟨rfl, [], 0, e, rfl, Int.le_refl _, g1, g2, by omega, Int.le_refl _, fun u h => nomatch h⟩
  refine ⟨U, ?_, hU', hle⟩
  have e3 : exS ⟨callN T G wf (n + 2), G, wf⟩ (.whl (.cmp .gt (.var 3) (.var 2)) b_ups_of_0) [.val (.tup (ps.map pD)), .own (.lst []), .val (.int 0), .val (.int e)] S' = .ok (.nx, [.val (.tup (ps.map pD)), .own (.lst (U.map pD)), .val (.int f), .val (.int e')]) S' := e2
  unfold ir_ups_of
  simp -implicitDefEqProofs [e1, e3, -es_whl]
/-- where the height comes back last -/
def lrS (ps : List (Int × Int)) (f : Nat) : Nat → Int × Int
  | 0 => (0, f)
  | k + 1 => ((lrS ps f k).1 + gn (ps.getD (f + k) (0, 0)), if (lrS ps f k).1 + gn (ps.getD (f + k) (0, 0)) = 0 then ((f : Int) + (k : Int) + 1) else (lrS ps f k).2)
def lrF (ps : List (Int × Int)) (f : Nat) : Int := (lrS ps f (ps.length - f)).2
theorem lrS_le (ps : List (Int × Int)) (f : Nat) : ∀ k, (f : Int) ≤ (lrS ps f k).2 ∧ (lrS ps f k).2 ≤ (f : Int) + (k : Int)
  | 0 => ⟨Int.le_refl _, by show (f : Int) ≤ (f : Int) + ((0 : Nat) : Int); omega⟩
  | k + 1 => by
    obtain ⟨a, b⟩ := lrS_le ps f k
    have r2 : (lrS ps f (k + 1)).2 = if (lrS ps f k).1 + gn (ps.getD (f + k) (0, 0)) = 0 then (f : Int) + (k : Int) + 1 else (lrS ps f k).2 := rfl
    rw [r2]
    split
    · constructor <;> omega
    · constructor <;> omega
theorem at_getD' {α : Type} (f : α → D) (l : List α) (d : α) {k : Nat} (h : k < l.length) : atI (l.map f) (k : Int) = some (f (l.getD k d)) := by
  obtain ⟨x, _, e1, e2⟩ := at_map (f := f) (l := l) (i := (k : Int)) (by omega) (by omega)
  rw [Int.toNat_natCast] at e1
  rw [e2, List.getD_eq_getElem?_getD, e1]
  rfl
theorem last_return_eq (hG : T "gain" = some ir_gain) (hL : T "last_return" = some ir_last_return) (ps : List (Int × Int)) (hl : ps.length ≤ 100000) {f : Nat} (f1 : f ≤ ps.length) (n : Nat) (S : Sto) :
    callN T G wf (n + 2) "last_return" [.tup (ps.map pD), .int f] S = .ok (.val (.int (lrF ps f))) S := by
  rw [call_eq hL rfl]
  have en : ((ps.length : Int) - (f : Int)).toNat = ps.length - f := by omega
  obtain ⟨sl', S', e1, rfl, x, rfl⟩ := loop_inv0 (t := .nm 4) (b := exB ⟨callN T G wf (n + 1), G, wf⟩ b_last_return_0) (items := rngD (f : Int) (ps.length - f)) (sl := [.val (.tup (ps.map pD)), .val (.int f), .val (.int 0), .val (.int f), .emp]) (S := S)
    (fun k sl S' => S' = S ∧ ∃ x, sl = [.val (.tup (ps.map pD)), .val (.int f), .val (.int (lrS ps f k).1), .val (.int (lrS ps f k).2), x]) ⟨rfl, _, rfl⟩ (by
      rintro k y sl S' hy ⟨rfl, x, rfl⟩
      obtain ⟨rfl, hk⟩ := rng_get hy
      have e2 := at_getD' pD ps (0, 0) (k := f + k) (by omega)
      rw [Int.natCast_add] at e2
      have e3 := gain_eq (G := G) (wf := wf) hG (ps.getD (f + k) (0, 0)) n S'
      refine ⟨_, [.val (.tup (ps.map pD)), .val (.int f), .val (.int (lrS ps f (k + 1)).1), .val (.int (lrS ps f (k + 1)).2), .val (.int ((f : Int) + (k : Int)))], S', rfl, ?_, rfl, _, rfl⟩
      unfold b_last_return_0
      have r1 : (lrS ps f (k + 1)).1 = (lrS ps f k).1 + gn (ps.getD (f + k) (0, 0)) := rfl
      have r2 : (lrS ps f (k + 1)).2 = if (lrS ps f k).1 + gn (ps.getD (f + k) (0, 0)) = 0 then (f : Int) + (k : Int) + 1 else (lrS ps f k).2 := rfl
      rw [r1, r2]
      generalize ps.getD (f + k) (0, 0) = p at *
      generalize (lrS ps f k).1 = h at *
      generalize (lrS ps f k).2 = r at *
      by_cases c : h + gn p = 0
      · simp -implicitDefEqProofs [e2, e3, eqD_int, c]
      · simp -implicitDefEqProofs [e2, e3, eqD_int, c])
  rw [rng_len] at e1
  have s1 : small62 (f : Int) = true := small_of (by omega) (by omega)
  have s2 : small62 (ps.length : Int) = true := small_of (by omega) (by omega)
  unfold ir_last_return lrF
  simp -implicitDefEqProofs [s1, s2, en, e1]
end L
def sw (p : Int × Int) : Int × Int := (p.2, p.1)
def tnd (ps : List (Int × Int)) : List (Int × Int) := ps.reverse.map sw
def swD : D → D
  | .tup [a, b] => .tup [b, a]
  | d => d
def offP (z : Int) : D → D
  | .tup [.int b, .int e] => .tup [.int (z - e), .int (z - b)]
  | d => d
@[simp] theorem hide_cons (x : Slot) (l : Slots) : hideS (x :: l) = (match x with | .own _ => .emp | s => s) :: hideS l := rfl
namespace L
variable {T : String → Option Fn} {G : String → Option D} {wf : Nat}
theorem turned_eq (hU : T "turned_row" = some ir_turned_row) (ps : List (Int × Int)) (hl : ps.length ≤ 100000) (n : Nat) (S : Sto) : callN T G wf (n + 1) "turned_row" [.tup (ps.map pD)] S = .ok (.val (.tup ((tnd ps).map pD))) S := by
  rw [call_eq hU rfl]
  have key : evE ⟨callN T G wf n, G, wf⟩ c_turned_row_0 [.val (.tup (ps.map pD)), .emp, .emp] S = .ok (.fresh (.lst ((tnd ps).map pD))) S := by
    unfold c_turned_row_0
    rw [ev_comp_map (items := (ps.map pD).reverse) swD ?_ ?_ fun x hx => ?_]
    · congr 3
      unfold tnd
      rw [← List.map_reverse, List.map_map, List.map_map]
      rfl
    · simp -implicitDefEqProofs
    · rw [List.length_reverse, List.length_map]
      unfold sizeLine
      omega
    · obtain ⟨p, _, rfl⟩ := List.mem_map.mp (List.mem_reverse.mp hx)
      refine ⟨[.val (.tup (ps.map pD)), .val (.int p.1), .val (.int p.2)], rfl, rfl, ?_⟩
      simp -implicitDefEqProofs
      rfl
  unfold ir_turned_row
  simp -implicitDefEqProofs [key]
theorem cut_ok (hG : T "gain" = some ir_gain) (hU : T "up_end" = some ir_up_end) (hO : T "ups_of" = some ir_ups_of) (hL : T "last_return" = some ir_last_return) (hR : T "turned_row" = some ir_turned_row) (hC : T "cut" = some ir_cut)
    (ps : List (Int × Int)) (hl : ps.length ≤ 100000) (hw : ps.length + 1 < wf) (n : Nat) (S : Sto) :
    ∃ (U : List (Int × Int)) (f : Nat) (X : List D), callN T G wf (n + 4) "cut" [.tup (ps.map pD)] S = .ok (.val (.tup [.tup (U.map pD), .tup [.int f, .int (lrF ps f)], .tup X])) S ∧ U.length ≤ ps.length ∧ f ≤ ps.length ∧
      ((U = [] ∧ f = 0) ∨ ∃ (V : List (Int × Int)) (u : Int × Int), U = V ++ [u] ∧ u.2 = (f : Int)) := by
  obtain ⟨U, e1, hU', hUl⟩ := ups_of_ok (G := G) (wf := wf) hG hU hO ps hl hw n S
  obtain ⟨f, f1, hf⟩ : ∃ f : Nat, f ≤ ps.length ∧ ((U = [] ∧ f = 0) ∨ ∃ (V : List (Int × Int)) (u : Int × Int), U = V ++ [u] ∧ u.2 = (f : Int)) := by
    rcases List.eq_nil_or_concat U with rfl | ⟨V, u, rfl⟩
    · exact ⟨0, Nat.zero_le _, .inl ⟨rfl, rfl⟩⟩
    · obtain ⟨a, b, c⟩ := hU' u (by simp)
      exact ⟨u.2.toNat, by omega, .inr ⟨V, u, by rw [List.concat_eq_append], by omega⟩⟩
  have e2 := last_return_eq (G := G) (wf := wf) hG hL ps hl f1 (n + 1) S
  obtain ⟨m, hm⟩ : ∃ m : Nat, lrF ps f = (m : Int) := ⟨(lrF ps f).toNat, by have := lrS_le ps f (ps.length - f); unfold lrF; omega⟩
  have e3 : slc (ps.map pD) (some (m : Int)) none = (ps.drop m).map pD := by rw [slc_map, slc_from]
  have dl : (ps.drop m).length ≤ ps.length := by rw [List.length_drop]; omega
  have tl : (tnd (ps.drop m)).length = (ps.drop m).length := by unfold tnd; rw [List.length_map, List.length_reverse]
  have e4 := turned_eq (G := G) (wf := wf) hR (ps.drop m) (by omega) (n + 2) S
  obtain ⟨B, e5, _, hBl⟩ := ups_of_ok (G := G) (wf := wf) hG hU hO (tnd (ps.drop m)) (by omega) (by omega) n S
  have e6 : ∀ s1 s2 s3 s5 s6 s7 : Slot, evE ⟨callN T G wf (n + 3), G, wf⟩ c_cut_0 [.val (.tup (ps.map pD)), s1, s2, s3, .val (.lst (B.map pD)), s5, s6, s7] S = .ok (.fresh (.lst ((B.map pD).reverse.map (offP ps.length)))) S := fun s1 s2 s3 s5 s6 s7 => by
    unfold c_cut_0
    rw [ev_comp_map (items := (B.map pD).reverse) (offP ps.length) ?_ ?_ fun x hx => ?_]
    · simp -implicitDefEqProofs
    · rw [List.length_reverse, List.length_map]
      unfold sizeLine
      omega
    · obtain ⟨p, _, rfl⟩ := List.mem_map.mp (List.mem_reverse.mp hx)
      refine ⟨_, rfl, rfl, ?_⟩
      simp -implicitDefEqProofs
      rfl
  refine ⟨U, f, (B.map pD).reverse.map (offP ps.length), ?_, hUl, f1, hf⟩
  rw [call_eq hC rfl]
  rw [hm] at e2 ⊢
  unfold ir_cut
  rw [List.map_drop] at e3 e4
  generalize (B.map pD).reverse.map (offP ps.length) = X at *
  rcases hf with ⟨rfl, rfl⟩ | ⟨V, u, rfl, hu⟩
  · simp -implicitDefEqProofs at e1 e2
    simp -implicitDefEqProofs [e1, e2, e3, e4, e5, e6]
  · have e7 := at_lastD (V.map pD) (pD u)
    rw [← hu] at e2 ⊢
    simp -implicitDefEqProofs at e1
    simp -implicitDefEqProofs [e1, e2, e3, e4, e5, e6, e7, pD_ix1]
end L
end Px

set_option Elab.async false
set_option linter.all false
set_option maxRecDepth 100000
set_option maxHeartbeats 1000000
/-! Px, part AB: the first up, exactly. -/
namespace Px
open PySem L2
/-- height, deepest dip, the best end so far (dip, height, end) -/
structure US where
  h : Int
  d : Int
  b : Option (Int × Int × Int)
def usStep (p : Int × Int) (a : Int) (s : US) : US :=
  let d := mn s.d (s.h - p.1)
  let h := s.h + gn p
  ⟨h, d, match s.b with
    | none => if 0 < h then some (d, h, a + 1) else none
    | some (bd, bh, e) => if 0 < h ∧ d = bd ∧ bh ≤ h then some (d, h, a + 1) else some (bd, bh, e)⟩
def usN (ps : List (Int × Int)) (f : Nat) : Nat → US
  | 0 => ⟨0, 0, none⟩
  | k + 1 => usStep (ps.getD (f + k) (0, 0)) ((f : Int) + (k : Int)) (usN ps f k)
/-- where the first up from f ends: f where there is none -/
def upE (ps : List (Int × Int)) (f : Nat) : Int := match (usN ps f (ps.length - f)).b with
  | none => f
  | some (_, _, e) => e
theorem mn_le (a b : Int) : mn a b ≤ a := by unfold mn; split <;> omega
/-- the best dip is never below the present one; its end lies within; its height is above 0 -/
theorem us_inv (ps : List (Int × Int)) (f : Nat) : ∀ k, match (usN ps f k).b with
    | none => True
    | some (bd, bh, e) => (usN ps f k).d ≤ bd ∧ (f : Int) < e ∧ e ≤ (f : Int) + (k : Int) ∧ 0 < bh
  | 0 => trivial
  | k + 1 => by
    have ih := us_inv ps f k
    show match (usStep (ps.getD (f + k) (0, 0)) ((f : Int) + (k : Int)) (usN ps f k)).b with
      | none => True
      | some (bd, bh, e) => (usStep (ps.getD (f + k) (0, 0)) ((f : Int) + (k : Int)) (usN ps f k)).d ≤ bd ∧ (f : Int) < e ∧ e ≤ (f : Int) + ((k + 1 : Nat) : Int) ∧ 0 < bh
    generalize ps.getD (f + k) (0, 0) = p
    generalize usN ps f k = s at *
    obtain ⟨h, d, b⟩ := s
    have hm := mn_le d (h - p.1)
    unfold usStep
    dsimp only at *
    cases b with
    | none =>
      dsimp only
      by_cases c : 0 < h + gn p
      · rw [if_pos c]
        refine ⟨Int.le_refl _, ?_, ?_, c⟩ <;> omega
      · rw [if_neg c]
        trivial
    | some t =>
      obtain ⟨bd, bh, e⟩ := t
      dsimp only at *
      by_cases c : 0 < h + gn p ∧ mn d (h - p.1) = bd ∧ bh ≤ h + gn p
      · rw [if_pos c]
        refine ⟨Int.le_refl _, ?_, ?_, c.1⟩ <;> omega
      · rw [if_neg c]
        refine ⟨?_, ih.2.1, ?_, ih.2.2.2⟩ <;> omega
/-- once the dip is below the best one's, nothing changes any more -/
theorem us_stay (ps : List (Int × Int)) (f : Nat) (k : Nat) {bd bh e : Int} (h : (usN ps f k).b = some (bd, bh, e)) (hd : (usN ps f k).d < bd) : ∀ j, (usN ps f (k + j)).b = some (bd, bh, e) ∧ (usN ps f (k + j)).d < bd
  | 0 => ⟨h, hd⟩
  | j + 1 => by
    obtain ⟨a, c⟩ := us_stay ps f k h hd j
    rw [show k + (j + 1) = (k + j) + 1 from rfl]
    show (usStep _ _ (usN ps f (k + j))).b = _ ∧ (usStep _ _ (usN ps f (k + j))).d < _
    generalize ps.getD (f + (k + j)) (0, 0) = p
    generalize usN ps f (k + j) = s at *
    obtain ⟨h, d, b⟩ := s
    dsimp only at a c
    subst a
    have hm := mn_le d (h - p.1)
    unfold usStep
    dsimp only
    rw [if_neg (by omega)]
    exact ⟨rfl, by omega⟩
/-- the names' values that stand for a state -/
def bestOf (f : Int) : Option (Int × Int × Int) → Int × Int × Int
  | none => (0, 0, f)
  | some t => t
theorem upE_best (ps : List (Int × Int)) (f : Nat) : upE ps f = (bestOf f (usN ps f (ps.length - f)).b).2.2 := by
  unfold upE
  cases (usN ps f (ps.length - f)).b with
  | none => rfl
  | some t => rfl
namespace L
variable {T : String → Option Fn} {G : String → Option D} {wf : Nat}
theorem up_end_eq (hG : T "gain" = some ir_gain) (hU : T "up_end" = some ir_up_end) (ps : List (Int × Int)) (hl : ps.length ≤ 100000) {f : Nat} (f1 : f ≤ ps.length) (n : Nat) (S : Sto) :
    callN T G wf (n + 2) "up_end" [.tup (ps.map pD), .int f] S = .ok (.val (.int (upE ps f))) S := by
  rw [call_eq hU rfl]
  obtain ⟨p, S', e1, h⟩ := loop_rule0 (t := .nm 6) (b := exB ⟨callN T G wf (n + 1), G, wf⟩ b_up_end_0) (items := rngD (f : Int) (ps.length - f)) (sl := [.val (.tup (ps.map pD)), .val (.int f), .val (.int 0), .val (.int 0), .val (.int f), .val (.tup [.int 0, .int 0]), .emp]) (S := S)
    (fun k sl S' => S' = S ∧ ∃ x, sl = [.val (.tup (ps.map pD)), .val (.int f), .val (.int (usN ps f k).h), .val (.int (usN ps f k).d), .val (.int (bestOf f (usN ps f k).b).2.2), .val (.tup [.int (bestOf f (usN ps f k).b).1, .int (bestOf f (usN ps f k).b).2.1]), x])
    (fun r S' => S' = S ∧ r = .val (.int (upE ps f))) ⟨rfl, _, rfl⟩ (by
      rintro k y sl S' hy ⟨rfl, x, rfl⟩
      obtain ⟨rfl, hk⟩ := rng_get hy
      have e2 := at_getD' pD ps (0, 0) (k := f + k) (by omega)
      rw [Int.natCast_add] at e2
      have ub := fun h d e b0 b1 => up_body (G := G) (wf := wf) hG ps (ps.getD (f + k) (0, 0)) f h d e b0 b1 ((f : Int) + (k : Int)) n S' e2
      have inv := us_inv ps f k
      have nxt : usN ps f (k + 1) = usStep (ps.getD (f + k) (0, 0)) ((f : Int) + (k : Int)) (usN ps f k) := rfl
      have stay := fun bd bh e => us_stay ps f (k + 1) (bd := bd) (bh := bh) (e := e)
      have last : ps.length - f = (k + 1) + (ps.length - f - (k + 1)) := by omega
      have fin := upE_best ps f
      rw [nxt]
      rw [nxt] at stay
      generalize ps.getD (f + k) (0, 0) = p at *
      generalize usN ps f k = s at *
      obtain ⟨h, d, b⟩ := s
      have hm := mn_le d (h - p.1)
      cases b with
      | none =>
        have q := ub h d f 0 0
        rw [if_neg (by omega)] at q
        by_cases c : 0 < h + gn p
        · rw [if_pos ⟨c, .inl rfl⟩] at q
          refine ⟨_, _, S', rfl, q, .inl ⟨rfl, rfl, .val (.int ((f : Int) + (k : Int))), ?_⟩⟩
          simp only [usStep, if_pos c, bestOf]
        · rw [if_neg (fun z => c z.1)] at q
          refine ⟨_, _, S', rfl, q, .inl ⟨rfl, rfl, .val (.int ((f : Int) + (k : Int))), ?_⟩⟩
          simp only [usStep, if_neg c, bestOf]
      | some t =>
        obtain ⟨bd, bh, e⟩ := t
        dsimp only at inv
        have q := ub h d e bd bh
        by_cases c1 : mn d (h - p.1) < bd
        · rw [if_pos ⟨inv.2.1, c1⟩] at q
          refine ⟨_, _, S', rfl, q, .inr ⟨_, rfl, rfl, ?_⟩⟩
          have w := stay bd bh e (by simp only [usStep]; rw [if_neg (by omega)]) c1 (ps.length - f - (k + 1))
          rw [← last] at w
          rw [fin, w.1]
          rfl
        · have c2 : mn d (h - p.1) = bd := by omega
          rw [if_neg (fun z => c1 z.2)] at q
          by_cases c : 0 < h + gn p ∧ bh ≤ h + gn p
          · rw [if_pos ⟨c.1, .inr c.2⟩] at q
            refine ⟨_, _, S', rfl, q, .inl ⟨rfl, rfl, .val (.int ((f : Int) + (k : Int))), ?_⟩⟩
            simp only [usStep, if_pos (show 0 < h + gn p ∧ mn d (h - p.1) = bd ∧ bh ≤ h + gn p from ⟨c.1, c2, c.2⟩), bestOf]
          · rw [if_neg (fun z => c ⟨z.1, z.2.elim (fun w => by omega) id⟩)] at q
            refine ⟨_, _, S', rfl, q, .inl ⟨rfl, rfl, .val (.int ((f : Int) + (k : Int))), ?_⟩⟩
            simp only [usStep, if_neg (show ¬ (0 < h + gn p ∧ mn d (h - p.1) = bd ∧ bh ≤ h + gn p) from fun z => c ⟨z.1, z.2.2⟩), bestOf])
  have s1 : small62 (f : Int) = true := small_of (by omega) (by omega)
  have s2 : small62 (ps.length : Int) = true := small_of (by omega) (by omega)
  have en : ((ps.length : Int) - (f : Int)).toNat = ps.length - f := by omega
  unfold ir_up_end
  obtain ⟨fl, sl⟩ := p
  rcases h with ⟨rfl, rfl, x, rfl⟩ | ⟨r, rfl, rfl, rfl⟩
  · rw [rng_len] at e1
    rw [upE_best]
    simp -implicitDefEqProofs [s1, s2, en, e1]
  · simp -implicitDefEqProofs [s1, s2, en, e1]
end L
end Px

set_option Elab.async false
set_option linter.all false
set_option maxRecDepth 100000
set_option maxHeartbeats 1000000
/-! Px, part AC: the laws' own ups. -/
namespace Px
open PySem L2
theorem gtV3 (a b c x y z : Int) : gtV [a, b, c] [x, y, z] = if a = x then (if b = y then decide (z < c) else decide (y < b)) else decide (x < a) := by
  unfold gtV
  show Ob.lexAt _ _ _ 0 3 = _
  simp only [Ob.lexAt_succ, Ob.lexAt_zero]
  simp [List.getD]
  by_cases h : c = z
  · subst h; simp
  · simp [h]
theorem gt_tup3 (a b c x y z : Int) : opCmpD .gt (.tup [.int a, .int b, .int c]) (.tup [.int x, .int y, .int z]) = some (if a = x then (if b = y then decide (z < c) else decide (y < b)) else decide (x < a)) := by
  show some (gtV [a, b, c] [x, y, z]) = _
  rw [gtV3]
def chosD : Option (Int × Int × Int) → D
  | none => .non
  | some (bd, bh, e) => .tup [.int bd, .int bh, .int e]
namespace L
variable {T : String → Option Fn} {G : String → Option D} {wf : Nat}
theorem law_up_eq (hU : T "_law_up" = some ir_up) (ps : List (Int × Int)) (hl : ps.length ≤ 100000) {f : Nat} (f1 : f ≤ ps.length) (n : Nat) (S : Sto) :
    callN T G wf (n + 1) "_law_up" [.tup (ps.map pD), .int f] S = .ok (.val (.int (upE ps f))) S := by
  rw [call_eq hU rfl]
  obtain ⟨sl', S', e1, rfl, x, y, z, rfl⟩ := loop_inv0 (t := .nm 5) (b := exB ⟨callN T G wf n, G, wf⟩ b_up_0) (items := rngD (f : Int) (ps.length - f)) (sl := [.val (.tup (ps.map pD)), .val (.int f), .val .non, .val (.int 0), .val (.int 0), .emp, .emp, .emp]) (S := S)
    (fun k sl S' => S' = S ∧ ∃ x y z, sl = [.val (.tup (ps.map pD)), .val (.int f), .val (chosD (usN ps f k).b), .val (.int (usN ps f k).h), .val (.int (usN ps f k).d), x, y, z]) ⟨rfl, _, _, _, rfl⟩ (by
      rintro k y sl S' hy ⟨rfl, x, y', z, rfl⟩
      obtain ⟨rfl, hk⟩ := rng_get hy
      have e2 := at_getD' pD ps (0, 0) (k := f + k) (by omega)
      rw [Int.natCast_add] at e2
      have inv := us_inv ps f k
      have nxt : usN ps f (k + 1) = usStep (ps.getD (f + k) (0, 0)) ((f : Int) + (k : Int)) (usN ps f k) := rfl
      rw [nxt]
      generalize ps.getD (f + k) (0, 0) = p at *
      generalize usN ps f k = s at *
      obtain ⟨h, d, b⟩ := s
      refine ⟨_, [.val (.tup (ps.map pD)), .val (.int f), .val (chosD (usStep p ((f : Int) + (k : Int)) ⟨h, d, b⟩).b), .val (.int (h + gn p)), .val (.int (mn d (h - p.1))), .val (.int ((f : Int) + (k : Int))), .val (.int p.1), .val (.int p.2)], S', rfl, ?_, rfl, _, _, _, rfl⟩
      have hm := mn_le d (h - p.1)
      have g : h - p.1 + p.2 = h + gn p := by unfold gn; omega
      have pd : pD p = .tup [.int p.1, .int p.2] := rfl
      rw [pd] at e2
      unfold b_up_0
      generalize hd : mn d (h - p.1) = d' at *
      cases b with
      | none =>
        by_cases c : 0 < h + gn p
        · simp -implicitDefEqProofs [-bi_min2, bi_mn, e2, g, hd, c, chosD, usStep]
        · simp -implicitDefEqProofs [-bi_min2, bi_mn, e2, g, hd, c, chosD, usStep]
      | some t =>
        obtain ⟨bd, bh, e⟩ := t
        dsimp only at inv
        have lt : e < (f : Int) + (k : Int) + 1 := by omega
        by_cases c : 0 < h + gn p
        · by_cases c2 : d' = bd
          · by_cases c3 : h + gn p = bh
            · have c4 : 0 < bh := by omega
              have lt' : e < (f : Int) + (k : Int) + 1 := lt
              simp -implicitDefEqProofs [-bi_min2, bi_mn, e2, g, hd, c2, c3, c4, chosD, usStep, gt_tup3, lt']
            · by_cases c4 : bh < h + gn p
              · have c5 : bh ≤ h + gn p := by omega
                simp -implicitDefEqProofs [-bi_min2, bi_mn, e2, g, hd, c, c2, c3, c4, c5, chosD, usStep, gt_tup3, lt]
              · have c5 : ¬ bh ≤ h + gn p := by omega
                simp -implicitDefEqProofs [-bi_min2, bi_mn, e2, g, hd, c, c2, c3, c4, c5, chosD, usStep, gt_tup3, lt]
          · have c6 : ¬ bd < d' := by omega
            simp -implicitDefEqProofs [-bi_min2, bi_mn, e2, g, hd, c, c2, c6, chosD, usStep, gt_tup3, lt]
        · simp -implicitDefEqProofs [-bi_min2, bi_mn, e2, g, hd, c, chosD, usStep])
  have s1 : small62 (f : Int) = true := small_of (by omega) (by omega)
  have s2 : small62 (ps.length : Int) = true := small_of (by omega) (by omega)
  have en : ((ps.length : Int) - (f : Int)).toNat = ps.length - f := by omega
  rw [rng_len] at e1
  unfold ir_up
  unfold upE
  cases hb : (usN ps f (ps.length - f)).b with
  | none =>
    rw [hb] at e1
    simp -implicitDefEqProofs [s1, s2, en, e1, chosD]
  | some t =>
    obtain ⟨bd, bh, e⟩ := t
    rw [hb] at e1
    simp -implicitDefEqProofs [s1, s2, en, e1, chosD, at2]
end L
theorem upE_le (ps : List (Int × Int)) {f : Nat} (h : f ≤ ps.length) : (f : Int) ≤ upE ps f ∧ upE ps f ≤ (ps.length : Int) := by
  have inv := us_inv ps f (ps.length - f)
  unfold upE
  cases hb : (usN ps f (ps.length - f)).b with
  | none => exact ⟨Int.le_refl _, by show (f : Int) ≤ _; omega⟩
  | some t =>
    obtain ⟨bd, bh, e⟩ := t
    rw [hb] at inv
    dsimp only at inv ⊢
    omega
/-- all ups, one behind the other -/
def upsG (ps : List (Int × Int)) : Nat → Nat → List (Int × Int)
  | 0, _ => []
  | m + 1, f => if (f : Int) < upE ps f then ((f : Int), upE ps f) :: upsG ps m (upE ps f).toNat else []
def upsF (ps : List (Int × Int)) : List (Int × Int) := upsG ps (ps.length + 1) 0
namespace L
variable {T : String → Option Fn} {G : String → Option D} {wf : Nat}
theorem ups_of_eq (hG : T "gain" = some ir_gain) (hU : T "up_end" = some ir_up_end) (hO : T "ups_of" = some ir_ups_of) (ps : List (Int × Int)) (hl : ps.length ≤ 100000) (hw : ps.length + 1 < wf) (n : Nat) (S : Sto) :
    callN T G wf (n + 3) "ups_of" [.tup (ps.map pD)] S = .ok (.fresh (.lst ((upsF ps).map pD))) S := by
  rw [call_eq hO rfl]
  have up := fun (f : Nat) (h : f ≤ ps.length) (S : Sto) => up_end_eq (G := G) (wf := wf) hG hU ps hl h n S
  obtain ⟨sl', S', e2, rfl, f, e', rfl⟩ := whl_rule (c := fun sl S => (evE ⟨callN T G wf (n + 2), G, wf⟩ (.cmp .gt (.var 3) (.var 2)) sl S).truth) (b := exB ⟨callN T G wf (n + 2), G, wf⟩ b_ups_of_0)
    (fun m sl S' => S' = S ∧ ∃ (U : List (Int × Int)) (f : Nat), sl = [.val (.tup (ps.map pD)), .own (.lst (U.map pD)), .val (.int f), .val (.int (upE ps f))] ∧ f ≤ ps.length ∧ ps.length ≤ f + m ∧ U.length ≤ f ∧ U ++ upsG ps (m + 1) f = upsF ps)
    (fun sl S' => S' = S ∧ ∃ (f e : Int), sl = [.val (.tup (ps.map pD)), .own (.lst ((upsF ps).map pD)), .val (.int f), .val (.int e)])
    (by
      rintro m sl S' ⟨rfl, U, f, rfl, fl, fm, ul, hu⟩
      have el := upE_le ps fl
      refine ⟨decide ((f : Int) < upE ps f), by simp -implicitDefEqProofs, fun hc => ?_, fun hc => ?_⟩
      · have hc := of_decide_eq_false hc
        unfold upsG at hu
        rw [if_neg hc, List.append_nil] at hu
        rw [hu]
        exact ⟨rfl, _, _, rfl⟩
      · have hc := of_decide_eq_true hc
        unfold upsG at hu
        rw [if_pos hc] at hu
        obtain ⟨e, he⟩ : ∃ e : Nat, upE ps f = (e : Int) := ⟨(upE ps f).toNat, by omega⟩
        rw [he] at hu hc el ⊢
        rw [Int.toNat_natCast] at hu
        obtain ⟨m', rfl⟩ : ∃ m', m = m' + 1 := ⟨m - 1, by omega⟩
        have q := up e (by omega) S'
        have hs : U.length < sizeLine := by
          unfold sizeLine
          omega
        refine ⟨[.val (.tup (ps.map pD)), .own (.lst ((U ++ [((f : Int), (e : Int))]).map pD)), .val (.int e), .val (.int (upE ps e))], S', m', ?_, by omega, rfl, U ++ [((f : Int), (e : Int))], e, rfl, by omega, by omega, ?_, ?_⟩
        · unfold b_ups_of_0
          simp -implicitDefEqProofs [lstAt, chg, appD, hs, q, pD]
        · rw [List.length_append]
          show U.length + 1 ≤ e
          omega
        · rw [List.append_assoc]
          exact hu) wf ps.length [.val (.tup (ps.map pD)), .own (.lst []), .val (.int (0 : Nat)), .val (.int (upE ps 0))] S (by omega) ⟨rfl, [], 0, rfl, Nat.zero_le _, by omega, Nat.le_refl _, rfl⟩
  have e3 : exS ⟨callN T G wf (n + 2), G, wf⟩ (.whl (.cmp .gt (.var 3) (.var 2)) b_ups_of_0) [.val (.tup (ps.map pD)), .own (.lst []), .val (.int (0 : Nat)), .val (.int (upE ps 0))] S' = .ok (.nx, [.val (.tup (ps.map pD)), .own (.lst ((upsF ps).map pD)), .val (.int f), .val (.int e')]) S' := e2
  have e1 := up 0 (Nat.zero_le _) S'
  have z : (((0 : Nat) : Int)) = 0 := rfl
  rw [z] at e3 e1
  unfold ir_ups_of
  simp -implicitDefEqProofs [e1, e3, -es_whl]
theorem law_ups_eq (hU : T "_law_up" = some ir_up) (hO : T "_law_ups" = some ir_ups) (ps : List (Int × Int)) (hl : ps.length ≤ 100000) (hw : ps.length + 1 < wf) (n : Nat) (S : Sto) :
    callN T G wf (n + 3) "_law_ups" [.tup (ps.map pD)] S = .ok (.fresh (.lst ((upsF ps).map pD))) S := by
  rw [call_eq hO rfl]
  have up := fun (f : Nat) (h : f ≤ ps.length) (S : Sto) => law_up_eq (G := G) (wf := wf) hU ps hl h (n + 1) S
  obtain ⟨sl', S', e2, rfl, f, e', rfl⟩ := whl_rule (c := fun sl S => (evE ⟨callN T G wf (n + 2), G, wf⟩ (.cmp .gt (.var 3) (.var 2)) sl S).truth) (b := exB ⟨callN T G wf (n + 2), G, wf⟩ b_ups_0)
    (fun m sl S' => S' = S ∧ ∃ (U : List (Int × Int)) (f : Nat), sl = [.val (.tup (ps.map pD)), .own (.lst (U.map pD)), .val (.int f), .val (.int (upE ps f))] ∧ f ≤ ps.length ∧ ps.length ≤ f + m ∧ U.length ≤ f ∧ U ++ upsG ps (m + 1) f = upsF ps)
    (fun sl S' => S' = S ∧ ∃ (f e : Int), sl = [.val (.tup (ps.map pD)), .own (.lst ((upsF ps).map pD)), .val (.int f), .val (.int e)])
    (by
      rintro m sl S' ⟨rfl, U, f, rfl, fl, fm, ul, hu⟩
      have el := upE_le ps fl
      refine ⟨decide ((f : Int) < upE ps f), by simp -implicitDefEqProofs, fun hc => ?_, fun hc => ?_⟩
      · have hc := of_decide_eq_false hc
        unfold upsG at hu
        rw [if_neg hc, List.append_nil] at hu
        rw [hu]
        exact ⟨rfl, _, _, rfl⟩
      · have hc := of_decide_eq_true hc
        unfold upsG at hu
        rw [if_pos hc] at hu
        obtain ⟨e, he⟩ : ∃ e : Nat, upE ps f = (e : Int) := ⟨(upE ps f).toNat, by omega⟩
        rw [he] at hu hc el ⊢
        rw [Int.toNat_natCast] at hu
        obtain ⟨m', rfl⟩ : ∃ m', m = m' + 1 := ⟨m - 1, by omega⟩
        have q := up e (by omega) S'
        have hs : U.length < sizeLine := by
          unfold sizeLine
          omega
        refine ⟨[.val (.tup (ps.map pD)), .own (.lst ((U ++ [((f : Int), (e : Int))]).map pD)), .val (.int e), .val (.int (upE ps e))], S', m', ?_, by omega, rfl, U ++ [((f : Int), (e : Int))], e, rfl, by omega, by omega, ?_, ?_⟩
        · unfold b_ups_0
          simp -implicitDefEqProofs [lstAt, chg, appD, hs, q, pD]
        · rw [List.length_append]
          show U.length + 1 ≤ e
          omega
        · rw [List.append_assoc]
          exact hu) wf ps.length [.val (.tup (ps.map pD)), .own (.lst []), .val (.int (0 : Nat)), .val (.int (upE ps 0))] S (by omega) ⟨rfl, [], 0, rfl, Nat.zero_le _, by omega, Nat.le_refl _, rfl⟩
  have e3 : exS ⟨callN T G wf (n + 2), G, wf⟩ (.whl (.cmp .gt (.var 3) (.var 2)) b_ups_0) [.val (.tup (ps.map pD)), .own (.lst []), .val (.int (0 : Nat)), .val (.int (upE ps 0))] S' = .ok (.nx, [.val (.tup (ps.map pD)), .own (.lst ((upsF ps).map pD)), .val (.int f), .val (.int e')]) S' := e2
  have e1 := up 0 (Nat.zero_le _) S'
  have z : (((0 : Nat) : Int)) = 0 := rfl
  rw [z] at e3 e1
  unfold ir_ups
  simp -implicitDefEqProofs [e1, e3, -es_whl]
theorem pD_inj : ∀ {a b : List (Int × Int)}, a.map pD = b.map pD → a = b
  | [], [], _ => rfl
  | [], _ :: _, h => by cases h
  | _ :: _, [], h => by cases h
  | x :: a, y :: b, h => by
    rw [List.map_cons, List.map_cons] at h
    injection h with h1 h2
    have hx : D.tup [.int x.1, .int x.2] = .tup [.int y.1, .int y.2] := h1
    injection hx with hx
    injection hx with p q
    injection p with p
    injection q with q _
    injection q with q
    rw [pD_inj h2, Prod.ext p q]
theorem cut_eq (hG : T "gain" = some ir_gain) (hU : T "up_end" = some ir_up_end) (hO : T "ups_of" = some ir_ups_of) (hL : T "last_return" = some ir_last_return) (hR : T "turned_row" = some ir_turned_row) (hC : T "cut" = some ir_cut)
    (ps : List (Int × Int)) (hl : ps.length ≤ 100000) (hw : ps.length + 1 < wf) (n : Nat) (S : Sto) :
    ∃ f m : Nat, callN T G wf (n + 4) "cut" [.tup (ps.map pD)] S = .ok (.val (.tup [.tup ((upsF ps).map pD), .tup [.int f, .int m], .tup (((upsF (tnd (ps.drop m))).map pD).reverse.map (offP ps.length))])) S ∧ f ≤ m ∧ m ≤ ps.length ∧
      lrF ps f = (m : Int) ∧ ((upsF ps = [] ∧ f = 0) ∨ ∃ (V : List (Int × Int)) (u : Int × Int), upsF ps = V ++ [u] ∧ u.2 = (f : Int)) := by
  have e1 := ups_of_eq (G := G) (wf := wf) hG hU hO ps hl hw n S
  obtain ⟨U0, e0, hU', hUl⟩ := ups_of_ok (G := G) (wf := wf) hG hU hO ps hl hw n S
  obtain rfl : U0 = upsF ps := pD_inj (by rw [e1] at e0; injection e0 with e0 _; injection e0 with e0; injection e0 with e0; exact e0.symm)
  obtain ⟨f, f1, hf⟩ : ∃ f : Nat, f ≤ ps.length ∧ ((upsF ps = [] ∧ f = 0) ∨ ∃ (V : List (Int × Int)) (u : Int × Int), upsF ps = V ++ [u] ∧ u.2 = (f : Int)) := by
    rcases List.eq_nil_or_concat (upsF ps) with h | ⟨V, u, h⟩
    · exact ⟨0, Nat.zero_le _, .inl ⟨h, rfl⟩⟩
    · obtain ⟨a, b, c⟩ := hU' u (by rw [h]; simp)
      exact ⟨u.2.toNat, by omega, .inr ⟨V, u, by rw [h, List.concat_eq_append], by omega⟩⟩
  have e2 := last_return_eq (G := G) (wf := wf) hG hL ps hl f1 (n + 1) S
  obtain ⟨m, hm⟩ : ∃ m : Nat, lrF ps f = (m : Int) := ⟨(lrF ps f).toNat, by have := lrS_le ps f (ps.length - f); unfold lrF; omega⟩
  have e3 : slc (ps.map pD) (some (m : Int)) none = (ps.drop m).map pD := by rw [slc_map, slc_from]
  have dl : (ps.drop m).length ≤ ps.length := by rw [List.length_drop]; omega
  have tl : (tnd (ps.drop m)).length = (ps.drop m).length := by unfold tnd; rw [List.length_map, List.length_reverse]
  have e4 := turned_eq (G := G) (wf := wf) hR (ps.drop m) (by omega) (n + 2) S
  have e5 := ups_of_eq (G := G) (wf := wf) hG hU hO (tnd (ps.drop m)) (by omega) (by omega) n S
  obtain ⟨B0, e50, _, hBl⟩ := ups_of_ok (G := G) (wf := wf) hG hU hO (tnd (ps.drop m)) (by omega) (by omega) n S
  obtain rfl : B0 = upsF (tnd (ps.drop m)) := pD_inj (by rw [e5] at e50; injection e50 with e50 _; injection e50 with e50; injection e50 with e50; exact e50.symm)
  obtain ⟨B, hB⟩ : ∃ B, B = upsF (tnd (ps.drop m)) := ⟨_, rfl⟩
  rw [← hB] at e5 hBl
  have e6 : ∀ s1 s2 s3 s5 s6 s7 : Slot, evE ⟨callN T G wf (n + 3), G, wf⟩ c_cut_0 [.val (.tup (ps.map pD)), s1, s2, s3, .val (.lst (B.map pD)), s5, s6, s7] S = .ok (.fresh (.lst ((B.map pD).reverse.map (offP ps.length)))) S := fun s1 s2 s3 s5 s6 s7 => by
    unfold c_cut_0
    rw [ev_comp_map (items := (B.map pD).reverse) (offP ps.length) ?_ ?_ fun x hx => ?_]
    · simp -implicitDefEqProofs
    · rw [List.length_reverse, List.length_map]
      unfold sizeLine
      omega
    · obtain ⟨p, _, rfl⟩ := List.mem_map.mp (List.mem_reverse.mp hx)
      refine ⟨_, rfl, rfl, ?_⟩
      simp -implicitDefEqProofs
      rfl
  have mle : f ≤ m := by have := lrS_le ps f (ps.length - f); unfold lrF at hm; omega
  have mle2 : m ≤ ps.length := by have := lrS_le ps f (ps.length - f); unfold lrF at hm; omega
  refine ⟨f, m, ?_, mle, mle2, hm, hf⟩
  rw [← hB]
  clear hB e50
  rw [call_eq hC rfl]
  rw [hm] at e2
  unfold ir_cut
  rw [List.map_drop] at e3 e4
  generalize (B.map pD).reverse.map (offP ps.length) = X at *
  clear e0 hU' hUl hm
  generalize upsF ps = U at *
  rcases hf with ⟨rfl, rfl⟩ | ⟨V, u, rfl, hu⟩
  · simp -implicitDefEqProofs at e1 e2
    simp -implicitDefEqProofs [e1, e2, e3, e4, e5, e6]
  · have e7 := at_lastD (V.map pD) (pD u)
    rw [← hu] at e2 ⊢
    simp -implicitDefEqProofs at e1
    simp -implicitDefEqProofs [e1, e2, e3, e4, e5, e6, e7, pD_ix1]
theorem about_eq (hA : T "_law_about" = some ir_about) (ps : List (Int × Int)) (hl : ps.length ≤ 100000) (n : Nat) (S : Sto) :
    callN T G wf (n + 1) "_law_about" [.tup (ps.map pD)] S = .ok (.val (.tup ((tnd ps).map pD))) S := by
  rw [call_eq hA rfl]
  obtain ⟨sl', S', e1, rfl, x, y, rfl⟩ := loop_inv0 (t := .tup (.cons (.nm 2) (.cons (.nm 3) .nil))) (b := exB ⟨callN T G wf n, G, wf⟩ b_about_0) (items := ps.map pD) (sl := [.val (.tup (ps.map pD)), .own (.lst []), .emp, .emp]) (S := S)
    (fun k sl S' => S' = S ∧ ∃ x y, sl = [.val (.tup (ps.map pD)), .own (.lst ((tnd (ps.take k)).map pD)), x, y]) ⟨rfl, _, _, rfl⟩ (by
      rintro k v sl S' hy ⟨rfl, x, y, rfl⟩
      rw [List.getElem?_map] at hy
      obtain ⟨p, hp, rfl⟩ := Option.map_eq_some_iff.mp hy
      have hk : k < ps.length := (List.getElem?_eq_some_iff.mp hp).1
      have e2 : tnd (ps.take (k + 1)) = sw p :: tnd (ps.take k) := by
        rw [List.take_add_one, hp, Option.toList_some]
        unfold tnd
        rw [List.reverse_append]
        rfl
      have hs : (tnd (ps.take k)).length < sizeLine := by
        unfold tnd sizeLine
        rw [List.length_map, List.length_reverse, List.length_take]
        omega
      refine ⟨_, [.val (.tup (ps.map pD)), .own (.lst ((tnd (ps.take (k + 1))).map pD)), .val (.int p.1), .val (.int p.2)], S', rfl, ?_, rfl, _, _, rfl⟩
      rw [e2]
      have q : pD (sw p) = .tup [.int p.2, .int p.1] := rfl
      unfold b_about_0
      simp -implicitDefEqProofs [lstAt, chg, insD, hs, q])
  rw [List.length_map, List.take_length] at e1
  unfold ir_about
  simp -implicitDefEqProofs [e1]
end L
end Px

set_option Elab.async false
set_option linter.all false
set_option maxRecDepth 100000
set_option maxHeartbeats 1000000
/-! Px, part AD: what is known of a cut: bounds, its repr, that it is alike itself; the downs cover. -/
namespace Px
open PySem L2
open L (pD lrF lrS PairOk NumOk RowOk)
theorem Shw.mono {d : D} {k w k' w' : Nat} (h : Shw d k w) (hk : k ≤ k') (hw : w ≤ w') : Shw d k' w' := ⟨h.lv, h.sh, h.cl, Nat.le_trans h.dp hk, Nat.le_trans h.wt hw, h.ok⟩
theorem upsG_mem (ps : List (Int × Int)) : ∀ (m f : Nat), f ≤ ps.length → ∀ u ∈ upsG ps m f, (f : Int) ≤ u.1 ∧ u.1 < u.2 ∧ u.2 ≤ (ps.length : Int)
  | 0, f, _, u, hu => nomatch hu
  | m + 1, f, hf, u, hu => by
    unfold upsG at hu
    have el := upE_le ps hf
    by_cases c : (f : Int) < upE ps f
    · rw [if_pos c] at hu
      rcases List.mem_cons.mp hu with rfl | hu
      · exact ⟨Int.le_refl _, c, el.2⟩
      · have q := upsG_mem ps m (upE ps f).toNat (by omega) u hu
        refine ⟨?_, q.2.1, q.2.2⟩
        have := q.1
        omega
    · rw [if_neg c] at hu
      exact nomatch hu
theorem upsG_len (ps : List (Int × Int)) : ∀ (m f : Nat), (upsG ps m f).length ≤ m
  | 0, f => Nat.zero_le _
  | m + 1, f => by
    unfold upsG
    split
    · rw [List.length_cons]; exact Nat.succ_le_succ (upsG_len ps m _)
    · exact Nat.zero_le _
theorem upsF_len (ps : List (Int × Int)) : (upsF ps).length ≤ ps.length + 1 := upsG_len ps _ _
theorem upsF_mem (ps : List (Int × Int)) : ∀ u ∈ upsF ps, 0 ≤ u.1 ∧ u.1 < u.2 ∧ u.2 ≤ (ps.length : Int) := fun u hu => by
  have := upsG_mem ps _ 0 (Nat.zero_le _) u hu
  exact ⟨this.1, this.2⟩
theorem numOk_nat {i : Int} (h : 0 ≤ i) (h2 : i ≤ 1000000) : NumOk i := ⟨h, by omega⟩
theorem upsF_ok (ps : List (Int × Int)) (hl : ps.length ≤ 100000) : RowOk (upsF ps) := fun u hu => by
  obtain ⟨a, b, c⟩ := upsF_mem ps u hu
  exact ⟨numOk_nat a (by omega), numOk_nat (by omega) (by omega)⟩
def offQ (z : Int) (p : Int × Int) : Int × Int := (z - p.2, z - p.1)
theorem off_map (z : Int) (B : List (Int × Int)) : (B.map pD).reverse.map (offP z) = (B.reverse.map (offQ z)).map pD := by
  rw [← List.map_reverse, List.map_map, List.map_map]
  rfl
/-- the downs by places -/
def downsF (ps : List (Int × Int)) (m : Nat) : List (Int × Int) := (upsF (tnd (ps.drop m))).reverse.map (offQ ps.length)
theorem tnd_len (ps : List (Int × Int)) : (tnd ps).length = ps.length := by unfold tnd; rw [List.length_map, List.length_reverse]
theorem downsF_mem (ps : List (Int × Int)) {m : Nat} (hm : m ≤ ps.length) : ∀ u ∈ downsF ps m, (m : Int) ≤ u.1 ∧ u.1 < u.2 ∧ u.2 ≤ (ps.length : Int) := fun u hu => by
  obtain ⟨v, hv, rfl⟩ := List.mem_map.mp hu
  obtain ⟨a, b, c⟩ := upsF_mem _ v (List.mem_reverse.mp hv)
  rw [tnd_len, List.length_drop] at c
  unfold offQ
  refine ⟨?_, ?_, ?_⟩ <;> simp only [] <;> omega
theorem downsF_len (ps : List (Int × Int)) (m : Nat) : (downsF ps m).length ≤ ps.length + 1 := by
  unfold downsF
  rw [List.length_map, List.length_reverse]
  have := upsF_len (tnd (ps.drop m))
  rw [tnd_len, List.length_drop] at this
  omega
theorem downsF_ok (ps : List (Int × Int)) (hl : ps.length ≤ 100000) {m : Nat} (hm : m ≤ ps.length) : RowOk (downsF ps m) := fun u hu => by
  obtain ⟨a, b, c⟩ := downsF_mem ps hm u hu
  exact ⟨numOk_nat (by omega) (by omega), numOk_nat (by omega) (by omega)⟩
/-- a cut as data -/
def cutD (ps : List (Int × Int)) (f m : Nat) : D := .tup [.tup ((upsF ps).map pD), .tup [.int f, .int m], .tup ((downsF ps m).map pD)]
theorem cut_shw (ps : List (Int × Int)) (hl : ps.length ≤ 380) {f m : Nat} (hf : f ≤ m) (hm : m ≤ ps.length) : Shw (cutD ps f m) 3 ((297 * 381 + 1) * 3) := by
  refine shw_tup (k := 2) (w := 297 * 381) (fun x hx => ?_) (Nat.le_refl 3)
  simp only [List.mem_cons, List.not_mem_nil, or_false] at hx
  rcases hx with rfl | rfl | rfl
  · exact (shw_row (upsF_ok ps (by omega)) (n := 381) (by have := upsF_len ps; omega)).mono (Nat.le_refl _) (Nat.le_refl _)
  · exact (shw_pair (p := ((f : Int), (m : Int))) ⟨numOk_nat (by show (0 : Int) ≤ (f : Int); omega) (by show (f : Int) ≤ 1000000; omega), numOk_nat (by show (0 : Int) ≤ (m : Int); omega) (by show (m : Int) ≤ 1000000; omega)⟩).mono (by decide) (by decide)
  · exact (shw_row (downsF_ok ps (by omega) hm) (n := 381) (by have := downsF_len ps m; omega)).mono (Nat.le_refl _) (Nat.le_refl _)
namespace L
variable {T : String → Option Fn} {G : String → Option D} {wf : Nat}
theorem cut_eqD (hG : T "gain" = some ir_gain) (hU : T "up_end" = some ir_up_end) (hO : T "ups_of" = some ir_ups_of) (hL : T "last_return" = some ir_last_return) (hR : T "turned_row" = some ir_turned_row) (hC : T "cut" = some ir_cut)
    (ps : List (Int × Int)) (hl : ps.length ≤ 100000) (hw : ps.length + 1 < wf) (n : Nat) :
    ∃ f m : Nat, (∀ S, callN T G wf (n + 4) "cut" [.tup (ps.map pD)] S = .ok (.val (cutD ps f m)) S) ∧ f ≤ m ∧ m ≤ ps.length ∧
      lrF ps f = (m : Int) ∧ ((upsF ps = [] ∧ f = 0) ∨ ∃ (V : List (Int × Int)) (u : Int × Int), upsF ps = V ++ [u] ∧ u.2 = (f : Int)) := by
  obtain ⟨f, m, e, h1, h2, h3, h4⟩ := cut_eq (G := G) (wf := wf) hG hU hO hL hR hC ps hl hw n []
  refine ⟨f, m, fun S => ?_, h1, h2, h3, h4⟩
  obtain ⟨f', m', e', h1', h2', h3', h4'⟩ := cut_eq (G := G) (wf := wf) hG hU hO hL hR hC ps hl hw n S
  have ff : f' = f := by
    rcases h4 with ⟨a, b⟩ | ⟨V, u, a, b⟩
    · rcases h4' with ⟨a', b'⟩ | ⟨V', u', a', b'⟩
      · rw [b, b']
      · rw [a] at a'; simp at a'
    · rcases h4' with ⟨a', b'⟩ | ⟨V', u', a', b'⟩
      · rw [a] at a'; simp at a'
      · rw [a] at a'
        have := List.append_inj_right' a' rfl
        simp at this
        subst this
        omega
  subst ff
  have mm : m' = m := by rw [h3] at h3'; omega
  subst mm
  rw [e', off_map]
  rfl
theorem al_pairs (hA : T "_law_alike" = some ir_alike) (ps : List (Int × Int)) (hl : ps.length ≤ 100000) (n : Nat) : Al T G wf (n + 3) (.tup (ps.map pD)) :=
  al_tup hA (n + 2) (fun x hx => by
    obtain ⟨p, _, rfl⟩ := List.mem_map.mp hx
    exact al_pair hA p n) (by rw [List.length_map]; unfold sizeLine; omega)
end L
end Px

set_option Elab.async false
set_option linter.all false
set_option maxRecDepth 100000
set_option maxHeartbeats 1000000
/-! Px, part AE: the theory of a row's first up, by heights and dips. -/
namespace Px
open PySem L2
open L (pD lrF lrS)
abbrev Row := List (Int × Int)
/-- the height behind the first k pairs -/
def ht (r : Row) (k : Nat) : Int := ((r.take k).map gn).sum
theorem ht_zero (r : Row) : ht r 0 = 0 := rfl
theorem ht_succ (r : Row) (k : Nat) : ht r (k + 1) = ht r k + gn (r.getD k (0, 0)) := by
  unfold ht
  rw [List.take_add_one, List.map_append, List.sum_append, List.getD_eq_getElem?_getD]
  cases r[k]? <;> simp [gn]
/-- the deepest dip of the first k pairs, 0 at least deep -/
def dp (r : Row) : Nat → Int
  | 0 => 0
  | k + 1 => mn (dp r k) (ht r k - (r.getD k (0, 0)).1)
theorem dp_le (r : Row) {i j : Nat} (h : i ≤ j) : dp r j ≤ dp r i := by
  induction h with
  | refl => exact Int.le_refl _
  | step _ ih => exact Int.le_trans (mn_le _ _) ih
theorem getD_drop (r : Row) (f k : Nat) : (r.drop f).getD k (0, 0) = r.getD (f + k) (0, 0) := by
  rw [List.getD_eq_getElem?_getD, List.getElem?_drop, List.getD_eq_getElem?_getD]
theorem us_shift (r : Row) (f : Nat) : ∀ k, (usN r f k).h = ht (r.drop f) k ∧ (usN r f k).d = dp (r.drop f) k ∧ (usN r f k).b = (usN (r.drop f) 0 k).b.map fun t => (t.1, t.2.1, t.2.2 + (f : Int))
  | 0 => ⟨rfl, rfl, rfl⟩
  | k + 1 => by
    obtain ⟨a, b, c⟩ := us_shift r f k
    have z : ∀ k, (usN (r.drop f) 0 k).h = ht (r.drop f) k ∧ (usN (r.drop f) 0 k).d = dp (r.drop f) k := by
      intro k
      induction k with
      | zero => exact ⟨rfl, rfl⟩
      | succ k ih =>
        refine ⟨?_, ?_⟩
        · show (usN (r.drop f) 0 k).h + gn ((r.drop f).getD (0 + k) (0, 0)) = _
          rw [ih.1, ht_succ, Nat.zero_add]
        · show mn (usN (r.drop f) 0 k).d ((usN (r.drop f) 0 k).h - ((r.drop f).getD (0 + k) (0, 0)).1) = _
          rw [ih.1, ih.2, Nat.zero_add]
          rfl
    refine ⟨?_, ?_, ?_⟩
    · show (usN r f k).h + gn (r.getD (f + k) (0, 0)) = _
      rw [a, ht_succ, getD_drop]
    · show mn (usN r f k).d ((usN r f k).h - (r.getD (f + k) (0, 0)).1) = _
      rw [a, b, ← getD_drop]
      rfl
    · show (usStep (r.getD (f + k) (0, 0)) ((f : Int) + (k : Int)) (usN r f k)).b = (usStep ((r.drop f).getD (0 + k) (0, 0)) (((0 : Nat) : Int) + (k : Int)) (usN (r.drop f) 0 k)).b.map _
      rw [Nat.zero_add, getD_drop]
      obtain ⟨z1, z2⟩ := z k
      rw [← z1] at a
      rw [← z2] at b
      generalize usN r f k = s at *
      generalize usN (r.drop f) 0 k = s' at *
      obtain ⟨h, d, bb⟩ := s
      obtain ⟨h', d', bb'⟩ := s'
      dsimp only at a b c
      subst a b c
      unfold usStep
      dsimp only
      cases bb' with
      | none =>
        dsimp only [Option.map_none]
        split
        · simp only [Option.map_some]; congr 3; omega
        · rfl
      | some t =>
        obtain ⟨x, y, e⟩ := t
        dsimp only [Option.map_some]
        split
        · simp only [Option.map_some]; congr 3; omega
        · rfl
theorem us_h (r : Row) (k : Nat) : (usN r 0 k).h = ht r k := (us_shift r 0 k).1
theorem us_d (r : Row) (k : Nat) : (usN r 0 k).d = dp r k := (us_shift r 0 k).2.1
/-- how many pairs the first up has -/
def fu (r : Row) : Nat := (upE r 0).toNat
theorem fu_eq (r : Row) : upE r 0 = (fu r : Int) := by
  have := upE_le r (f := 0) (Nat.zero_le _)
  unfold fu
  omega
theorem fu_le (r : Row) : fu r ≤ r.length := by
  have := (upE_le r (f := 0) (Nat.zero_le _)).2
  rw [fu_eq] at this
  omega
theorem upE_drop (r : Row) {f : Nat} (hf : f ≤ r.length) : upE r f = (f : Int) + (fu (r.drop f) : Int) := by
  rw [← fu_eq]
  unfold upE
  rw [(us_shift r f (r.length - f)).2.2, List.length_drop, Nat.sub_zero]
  cases (usN (r.drop f) 0 (r.length - f)).b with
  | none => show (f : Int) = f + ((0 : Nat) : Int); omega
  | some t => obtain ⟨x, y, e⟩ := t; show e + (f : Int) = f + e; omega
/-- the best end so far is the best of all -/
theorem us_best (r : Row) : ∀ k, match (usN r 0 k).b with
    | none => ∀ j, j ≤ k → ht r j ≤ 0
    | some (bd, bh, e) => ∃ n : Nat, e = (n : Int) ∧ n ≤ k ∧ bd = dp r n ∧ bh = ht r n ∧ 0 < ht r n ∧ ∀ j, j ≤ k → 0 < ht r j → dp r j < dp r n ∨ (dp r j = dp r n ∧ (ht r j < ht r n ∨ (ht r j = ht r n ∧ j ≤ n)))
  | 0 => fun j hj => by
    obtain rfl : j = 0 := by omega
    exact Int.le_refl _
  | k + 1 => by
    have ih := us_best r k
    have nxt : usN r 0 (k + 1) = usStep (r.getD k (0, 0)) (k : Int) (usN r 0 k) := by
      show usStep (r.getD (0 + k) (0, 0)) (((0 : Nat) : Int) + (k : Int)) (usN r 0 k) = _
      rw [Nat.zero_add]
      congr 1
      omega
    have e1 := us_h r (k + 1)
    have e2 := us_d r (k + 1)
    have e3 := us_d r k
    rw [nxt] at e1 e2 ⊢
    have mono := fun i => dp_le r (i := i) (j := k)
    have mono1 := fun i => dp_le r (i := i) (j := k + 1)
    generalize usN r 0 k = s at *
    generalize r.getD k (0, 0) = p at *
    obtain ⟨h, d, b⟩ := s
    unfold usStep at *
    dsimp only at *
    cases b with
    | none =>
      dsimp only at *
      by_cases c : 0 < h + gn p
      · rw [if_pos c]
        refine ⟨k + 1, by omega, Nat.le_refl _, e2, e1, by omega, fun j hj h0 => ?_⟩
        by_cases hk : j = k + 1
        · subst hk; exact .inr ⟨rfl, .inr ⟨rfl, Nat.le_refl _⟩⟩
        · have := ih j (by omega); omega
      · rw [if_neg c]
        intro j hj
        by_cases hk : j = k + 1
        · subst hk; omega
        · exact ih j (by omega)
    | some t =>
      obtain ⟨bd, bh, e⟩ := t
      dsimp only at *
      obtain ⟨n, rfl, hn, rfl, rfl, h0, ih⟩ := ih
      have m1 := mono n hn
      have m2 := mono1 n (by omega)
      by_cases c : 0 < h + gn p ∧ mn d (h - p.1) = dp r n ∧ ht r n ≤ h + gn p
      · rw [if_pos c]
        refine ⟨k + 1, by omega, Nat.le_refl _, e2, e1, by omega, fun j hj hj0 => ?_⟩
        by_cases hk : j = k + 1
        · subst hk; exact .inr ⟨rfl, .inr ⟨rfl, Nat.le_refl _⟩⟩
        · rcases ih j (by omega) hj0 with q | ⟨q1, q2⟩
          · exact .inl (by omega)
          · refine .inr ⟨by omega, ?_⟩
            by_cases hh : ht r j < ht r (k + 1)
            · exact .inl hh
            · exact .inr ⟨by omega, by omega⟩
      · rw [if_neg c]
        refine ⟨n, rfl, by omega, rfl, rfl, h0, fun j hj hj0 => ?_⟩
        by_cases hk : j = k + 1
        · subst hk
          by_cases c2 : dp r (k + 1) = dp r n
          · refine .inr ⟨c2, .inl ?_⟩
            by_cases c3 : ht r n ≤ h + gn p
            · exact absurd ⟨by omega, by omega, c3⟩ c
            · omega
          · exact .inl (by omega)
        · exact ih j (by omega) hj0
theorem fu_zero {r : Row} (h : fu r = 0) : ∀ j, j ≤ r.length → ht r j ≤ 0 := by
  have q := us_best r r.length
  have e := fu_eq r
  have inv := us_inv r 0 r.length
  unfold upE at e
  rw [Nat.sub_zero] at e
  cases hb : (usN r 0 r.length).b with
  | none => rw [hb] at q; exact q
  | some t =>
    obtain ⟨bd, bh, x⟩ := t
    rw [hb] at e inv
    dsimp only at e inv
    omega
theorem fu_best {r : Row} (h : 0 < fu r) : 0 < ht r (fu r) ∧ ∀ j, j ≤ r.length → 0 < ht r j → dp r j < dp r (fu r) ∨ (dp r j = dp r (fu r) ∧ (ht r j < ht r (fu r) ∨ (ht r j = ht r (fu r) ∧ j ≤ fu r))) := by
  have q := us_best r r.length
  have e := fu_eq r
  unfold upE at e
  rw [Nat.sub_zero] at e
  cases hb : (usN r 0 r.length).b with
  | none =>
    rw [hb] at e
    have : ((0 : Nat) : Int) = (fu r : Int) := e
    omega
  | some t =>
    obtain ⟨bd, bh, x⟩ := t
    rw [hb] at q e
    obtain ⟨n, rfl, hn, _, _, h0, ih⟩ := q
    have e' : (n : Int) = (fu r : Int) := e
    obtain rfl : n = fu r := by omega
    exact ⟨h0, ih⟩
theorem fu_pos {r : Row} {k : Nat} (hk : k ≤ r.length) (h : 0 < ht r k) : 0 < fu r := by
  rcases Nat.eq_zero_or_pos (fu r) with z | z
  · have := fu_zero z k hk; omega
  · exact z
theorem ht_drop (r : Row) (n k : Nat) : ht (r.drop n) k = ht r (n + k) - ht r n := by
  induction k with
  | zero => show (0 : Int) = _; rw [Nat.add_zero]; omega
  | succ k ih => rw [ht_succ, ih, getD_drop, show n + (k + 1) = (n + k) + 1 from rfl, ht_succ r (n + k)]; omega
theorem ht_all (r : Row) {k : Nat} (h : r.length ≤ k) : ht r k = ht r r.length := by unfold ht; rw [List.take_of_length_le h, List.take_length]
/-! ### the last return -/
theorem lr_h (r : Row) (f : Nat) : ∀ k, (lrS r f k).1 = ht (r.drop f) k
  | 0 => rfl
  | k + 1 => by
    show (lrS r f k).1 + gn (r.getD (f + k) (0, 0)) = _
    rw [lr_h r f k, ht_succ, getD_drop]
theorem lr_spec (r : Row) (f : Nat) : ∀ k, ∃ m : Nat, (lrS r f k).2 = ((f + m : Nat) : Int) ∧ m ≤ k ∧ ht (r.drop f) m = 0 ∧ ∀ j, m < j → j ≤ k → ht (r.drop f) j ≠ 0
  | 0 => ⟨0, rfl, Nat.le_refl _, rfl, fun j h1 h2 => by omega⟩
  | k + 1 => by
    obtain ⟨m, e, hm, h0, hj⟩ := lr_spec r f k
    have r2 : (lrS r f (k + 1)).2 = if (lrS r f k).1 + gn (r.getD (f + k) (0, 0)) = 0 then (f : Int) + (k : Int) + 1 else (lrS r f k).2 := rfl
    have hh := lr_h r f (k + 1)
    have r1 : (lrS r f (k + 1)).1 = (lrS r f k).1 + gn (r.getD (f + k) (0, 0)) := rfl
    rw [r1] at hh
    rw [r2, hh]
    by_cases c : ht (r.drop f) (k + 1) = 0
    · rw [if_pos c]
      exact ⟨k + 1, by omega, Nat.le_refl _, c, fun j h1 h2 => by omega⟩
    · rw [if_neg c]
      refine ⟨m, e, by omega, h0, fun j h1 h2 => ?_⟩
      by_cases hk : j = k + 1
      · subst hk; exact c
      · exact hj j h1 (by omega)
/-- how many pairs the middle of a rest has -/
theorem lrF_spec (r : Row) {f m : Nat} (hf : f ≤ r.length) (h : lrF r f = (m : Int)) : f ≤ m ∧ m ≤ r.length ∧ ht (r.drop f) (m - f) = 0 ∧ ∀ j, m - f < j → j ≤ r.length - f → ht (r.drop f) j ≠ 0 := by
  obtain ⟨k, e, hk, h0, hj⟩ := lr_spec r f (r.length - f)
  unfold lrF at h
  have : m = f + k := by omega
  subst this
  rw [Nat.add_sub_cancel_left]
  exact ⟨by omega, by omega, h0, hj⟩
/-! ### a row turned about -/
theorem gn_sw (p : Int × Int) : gn (sw p) = - gn p := by unfold gn sw; simp only []; omega
theorem sum_sw (l : Row) : ((l.map sw).map gn).sum = - (l.map gn).sum := by
  induction l with
  | nil => rfl
  | cons p l ih => simp only [List.map_cons, List.sum_cons, ih, gn_sw]; omega
theorem sum_rev (l : Row) : ((l.reverse).map gn).sum = (l.map gn).sum := by
  induction l with
  | nil => rfl
  | cons p l ih => simp only [List.reverse_cons, List.map_append, List.sum_append, ih, List.map_cons, List.map_nil, List.sum_cons, List.sum_nil]; omega
theorem tnd_take (r : Row) {k : Nat} (h : k ≤ r.length) : (tnd r).take k = tnd (r.drop (r.length - k)) := by
  unfold tnd
  rw [← List.map_take, List.take_reverse]
theorem tnd_drop (r : Row) {k : Nat} (h : k ≤ r.length) : (tnd r).drop k = tnd (r.take (r.length - k)) := by
  unfold tnd
  rw [← List.map_drop, List.drop_reverse]
theorem sum_tnd (r : Row) : ((tnd r).map gn).sum = - (r.map gn).sum := by
  unfold tnd
  rw [sum_sw, sum_rev]
theorem ht_len (r : Row) : ht r r.length = (r.map gn).sum := by unfold ht; rw [List.take_length]
theorem sum_drop (r : Row) (k : Nat) : ((r.drop k).map gn).sum = ht r r.length - ht r k := by
  rw [ht_len]
  unfold ht
  have := congrArg (fun l : Row => (l.map gn).sum) (List.take_append_drop k r)
  simp only [List.map_append, List.sum_append] at this
  omega
theorem ht_tnd (r : Row) {k : Nat} (h : k ≤ r.length) : ht (tnd r) k = ht r (r.length - k) - ht r r.length := by
  unfold ht
  rw [tnd_take r h, sum_tnd, sum_drop]
  unfold ht
  omega
/-- stretches one behind another, to an end -/
def Cov (e : Int) : Int → List (Int × Int) → Prop
  | a, [] => a = e
  | a, u :: us => u.1 = a ∧ u.1 < u.2 ∧ Cov e u.2 us
/-- where what is left never comes to its beginning again, the ups of it turned about cover it -/
theorem ups_cover {r : Row} (h : ∀ j, 0 < j → j ≤ r.length → ht r j < 0) : ∀ (m f : Nat), f ≤ r.length → r.length < f + m → Cov r.length f (upsG (tnd r) m f)
  | 0, f, hf, hm => by omega
  | m + 1, f, hf, hm => by
    unfold upsG
    have hf' : f ≤ (tnd r).length := by rw [tnd_len]; exact hf
    have e := upE_drop (tnd r) hf'
    by_cases c : f = r.length
    · have z : fu ((tnd r).drop f) = 0 := by
        have q := fu_le ((tnd r).drop f)
        rw [List.length_drop, tnd_len] at q
        omega
      rw [e, z, if_neg (by omega)]
      exact congrArg Int.ofNat c
    · have pos : 0 < fu ((tnd r).drop f) := by
        refine fu_pos (k := r.length - f) (by rw [List.length_drop, tnd_len]; exact Nat.le_refl _) ?_
        rw [ht_drop, show f + (r.length - f) = r.length by omega, ht_tnd r (Nat.le_refl _), ht_tnd r hf, Nat.sub_self, ht_zero]
        have := h (r.length - f) (by omega) (by omega)
        omega
      have le := fu_le ((tnd r).drop f)
      rw [List.length_drop, tnd_len] at le
      rw [e, if_pos (by omega)]
      refine ⟨rfl, by omega, ?_⟩
      rw [show ((f : Int) + (fu ((tnd r).drop f) : Int)).toNat = f + fu ((tnd r).drop f) by omega]
      have q := ups_cover h m (f + fu ((tnd r).drop f)) (by omega) (by omega)
      rw [show ((f : Int) + (fu ((tnd r).drop f) : Int)) = ((f + fu ((tnd r).drop f) : Nat) : Int) by omega]
      exact q
/-- stretches that stand one behind another turned about -/
theorem cov_app {e x : Int} : ∀ (l k : List (Int × Int)) (a : Int), Cov x a l → Cov e x k → Cov e a (l ++ k)
  | [], k, a, h, hk => by cases h; exact hk
  | u :: l, k, a, h, hk => ⟨h.1, h.2.1, cov_app l k u.2 h.2.2 hk⟩
theorem cov_rev (z e : Int) : ∀ (l : List (Int × Int)) (a : Int), Cov e a l → Cov (z - a) (z - e) (l.reverse.map (offQ z))
  | [], a, h => by cases h; rfl
  | u :: l, a, h => by
    obtain ⟨h1, h2, h3⟩ := h
    rw [List.reverse_cons, List.map_append]
    refine cov_app _ _ _ (cov_rev z e l u.2 h3) ⟨rfl, ?_, ?_⟩
    · show z - u.2 < z - u.1
      omega
    · show z - u.1 = z - a
      omega
theorem downs_cover (r : Row) {f m : Nat} (hf : f ≤ r.length) (hu : ∀ j, j ≤ r.length - f → ht (r.drop f) j ≤ 0) (h : lrF r f = (m : Int)) : Cov r.length m (downsF r m) := by
  obtain ⟨h1, h2, h3, h4⟩ := lrF_spec r hf h
  have q : ∀ j, 0 < j → j ≤ (r.drop m).length → ht (r.drop m) j < 0 := fun j j0 j1 => by
    rw [List.length_drop] at j1
    have a := h4 (m - f + j) (by omega) (by omega)
    have b := hu (m - f + j) (by omega)
    have c := ht_drop (r.drop f) (m - f) j
    rw [List.drop_drop, show f + (m - f) = m by omega] at c
    omega
  have w := ups_cover q ((tnd (r.drop m)).length + 1) 0 (Nat.zero_le _) (by rw [tnd_len]; omega)
  have w2 := cov_rev (r.length : Int) ((r.drop m).length : Int) _ _ w
  rw [List.length_drop] at w2
  have e1 : ((r.length : Int) - ((0 : Nat) : Int)) = (r.length : Int) := by omega
  have e2 : ((r.length : Int) - ((r.length - m : Nat) : Int)) = (m : Int) := by omega
  rw [e1, e2] at w2
  exact w2
/-- the ups cover from the beginning on; what is left never comes above its beginning -/
theorem upsG_cov (r : Row) : ∀ (m f : Nat), f ≤ r.length → r.length < f + m → ∃ e : Nat, e ≤ r.length ∧ Cov e f (upsG r m f) ∧ fu (r.drop e) = 0
  | 0, f, hf, hm => by omega
  | m + 1, f, hf, hm => by
    unfold upsG
    have e := upE_drop r hf
    have le := fu_le (r.drop f)
    rw [List.length_drop] at le
    by_cases c : fu (r.drop f) = 0
    · rw [e, c, if_neg (by omega)]
      exact ⟨f, hf, rfl, c⟩
    · rw [e, if_pos (by omega), show ((f : Int) + (fu (r.drop f) : Int)).toNat = f + fu (r.drop f) by omega]
      obtain ⟨x, hx, h1, h2⟩ := upsG_cov r m (f + fu (r.drop f)) (by omega) (by omega)
      refine ⟨x, hx, ⟨rfl, by omega, ?_⟩, h2⟩
      rw [show ((f : Int) + (fu (r.drop f) : Int)) = ((f + fu (r.drop f) : Nat) : Int) by omega]
      exact h1
theorem cov_last {e : Int} : ∀ (l : List (Int × Int)) (a : Int), Cov e a l → (l = [] ∧ a = e) ∨ ∃ V u, l = V ++ [u] ∧ u.2 = e
  | [], a, h => .inl ⟨rfl, h⟩
  | u :: l, a, h => by
    rcases cov_last l u.2 h.2.2 with ⟨rfl, q⟩ | ⟨V, v, rfl, q⟩
    · exact .inr ⟨[], u, rfl, q⟩
    · exact .inr ⟨u :: V, v, rfl, q⟩
theorem upsF_cov (r : Row) {f : Nat} (h : (upsF r = [] ∧ f = 0) ∨ ∃ (V : List (Int × Int)) (u : Int × Int), upsF r = V ++ [u] ∧ u.2 = (f : Int)) : f ≤ r.length ∧ Cov f 0 (upsF r) ∧ fu (r.drop f) = 0 := by
  obtain ⟨e, he, h1, h2⟩ := upsG_cov r (r.length + 1) 0 (Nat.zero_le _) (by omega)
  have h1' : Cov e 0 (upsF r) := h1
  have ef : e = f := by
    rcases cov_last _ _ h1' with ⟨a, b⟩ | ⟨V, u, a, b⟩
    · rcases h with ⟨_, q⟩ | ⟨V', u', a', _⟩
      · omega
      · rw [a] at a'; simp at a'
    · rcases h with ⟨a', _⟩ | ⟨V', u', a', b'⟩
      · rw [a] at a'; simp at a'
      · rw [a] at a'
        have := List.append_inj_right' a' rfl
        simp at this
        subst this
        omega
  subst ef
  exact ⟨he, h1', h2⟩
theorem flat_of {r : Row} {f : Nat} (h : fu (r.drop f) = 0) : ∀ j, j ≤ r.length - f → ht (r.drop f) j ≤ 0 := fun j hj => fu_zero h j (by rw [List.length_drop]; exact hj)
end Px

set_option Elab.async false
set_option linter.all false
set_option maxRecDepth 100000
set_option maxHeartbeats 1000000
/-! Px, part BA: the laws' deck. -/
namespace Px
open PySem L2
open L (pD)
theorem ints_shaped : ∀ ns : List Int, PyData.canLayAll0 (D.toPs (ns.map D.int)) = true ∧ PyData.depthAll (D.toPs (ns.map D.int)) = 0
  | [] => ⟨rfl, rfl⟩
  | n :: ns => by
    obtain ⟨a, b⟩ := ints_shaped ns
    refine ⟨?_, ?_⟩
    · simp only [List.map_cons, D.toPs, D.toP, PyData.canLayAll0, PyData.canLay0, a, Bool.and_self]
    · simp only [List.map_cons, D.toPs, D.toP, PyData.depthAll, PyData.depth, b]
      rfl
theorem shaped_lst {xs : List D} {k : Nat} (h1 : PyData.canLayAll0 (D.toPs xs) = true) (h2 : PyData.depthAll (D.toPs xs) ≤ k) (hk : k ≤ 60) : SeqAt.shaped (D.lst xs).toP = true := by
  unfold SeqAt.shaped
  rw [Bool.and_eq_true]
  exact ⟨by simpa [D.toP, PyData.canLay0] using h1, decide_eq_true (by simp only [D.toP, PyData.depth]; omega)⟩
theorem shaped_tup {xs : List D} {k : Nat} (h1 : PyData.canLayAll0 (D.toPs xs) = true) (h2 : PyData.depthAll (D.toPs xs) ≤ k) (hk : k ≤ 60) : SeqAt.shaped (D.tup xs).toP = true := by
  unfold SeqAt.shaped
  rw [Bool.and_eq_true]
  exact ⟨by simpa [D.toP, PyData.canLay0] using h1, decide_eq_true (by simp only [D.toP, PyData.depth]; omega)⟩
theorem eqD_intsNil (ns : List Int) : eqD (.lst (ns.map .int)) (.lst []) = some ns.isEmpty := by
  obtain ⟨a, b⟩ := ints_shaped ns
  unfold eqD
  rw [if_pos ⟨shaped_lst a (Nat.le_of_eq b) (by decide), by decide⟩]
  cases ns <;> rfl
/-- the deck's state -/
def DkS (gs cs : List Int) (n bl : Int) : Sto := [.lst (gs.map .int), .lst [.ref 0, .lst (cs.map .int), .int n, .int bl]]
/-- .. with so many draws left that its count stays small -/
def DkOk (c : Nat) (S : Sto) : Prop := ∃ (gs cs : List Int) (n bl : Int), S = DkS gs cs n bl ∧ (∀ z ∈ gs, 0 ≤ z) ∧ (∀ z ∈ cs, 0 ≤ z) ∧ cs ≠ [] ∧ gs.length ≤ 64 ∧ cs.length ≤ 64 ∧ 0 ≤ n ∧ n + (c : Int) ≤ 2 ^ 100 ∧ 0 ≤ bl ∧ bl < 2147483647
theorem DkOk.less {c c' : Nat} {S : Sto} (h : DkOk c S) (hc : c' ≤ c) : DkOk c' S := by
  obtain ⟨gs, cs, n, bl, e, h1, h2, h3, h4, h5, h6, h7, h8⟩ := h
  exact ⟨gs, cs, n, bl, e, h1, h2, h3, h4, h5, h6, by omega, h8⟩
namespace M
variable {T : String → Option Fn} {G : String → Option D} {wf : Nat}
/-- the great cells, one after the other -/
theorem great_loop {F : Cf} {m : Int} (h0 : 0 < m) (hm : m.natAbs.log2 < 9000) (cs : List Int) (n bl : Int) : ∀ (gs : List Int) (fuel : Nat) (x : Slot), gs.length < fuel → (∀ z ∈ gs, 0 ≤ z) →
    (∃ x', whlN (fun sl S => (evE F (.cmpr .ne (.ixr (.var 0) (.int 0)) (.list .nil)) sl S).truth) (exB F b_next_0) fuel [.val (.ref 1), .val (.int m), x] (DkS gs cs n bl) = .ok (.nx, [.val (.ref 1), .val (.int m), x']) (DkS [] cs n bl)) ∨
    ∃ (z : Int) (gs' : List Int) (sl : Slots), whlN (fun sl S => (evE F (.cmpr .ne (.ixr (.var 0) (.int 0)) (.list .nil)) sl S).truth) (exB F b_next_0) fuel [.val (.ref 1), .val (.int m), x] (DkS gs cs n bl) = .ok (.rt (.val (.int (z % m))), sl) (DkS gs' cs n bl) ∧ (∀ z ∈ gs', 0 ≤ z) ∧ gs'.length ≤ gs.length
  | [], fuel + 1, x, hf, _ => by
    refine .inl ⟨x, ?_⟩
    unfold whlN
    have e := eqD_intsNil []
    simp only [List.map_nil, List.isEmpty_nil] at e
    simp -implicitDefEqProofs [DkS, at0, e]
  | z :: gs, fuel + 1, x, hf, hz => by
    have e := eqD_intsNil (z :: gs)
    simp only [List.map_cons, List.isEmpty_cons] at e
    have z0 := hz z List.mem_cons_self
    have i0 : ixN (gs.length + 1) 0 = some 0 := ixN_in (by omega) (by omega)
    by_cases c : 0 < z
    · refine .inr ⟨z, z / m :: gs, [.val (.ref 1), .val (.int m), .val (.int z)], ?_, ?_, Nat.le_refl _⟩
      · unfold whlN b_next_0
        simp -implicitDefEqProofs [DkS, at0, e, c, h0, hm, setD, i0]
      · intro y hy
        rcases List.mem_cons.mp hy with rfl | hy
        · exact Int.ediv_nonneg z0 (by omega)
        · exact hz y (List.mem_cons_of_mem _ hy)
    · have step : whlN (fun sl S => (evE F (.cmpr .ne (.ixr (.var 0) (.int 0)) (.list .nil)) sl S).truth) (exB F b_next_0) (fuel + 1) [.val (.ref 1), .val (.int m), x] (DkS (z :: gs) cs n bl) =
          whlN (fun sl S => (evE F (.cmpr .ne (.ixr (.var 0) (.int 0)) (.list .nil)) sl S).truth) (exB F b_next_0) fuel [.val (.ref 1), .val (.int m), .val (.int z)] (DkS gs cs n bl) := by
        conv => lhs; unfold whlN
        unfold b_next_0
        simp -implicitDefEqProofs [DkS, at0, e, c, popD, i0]
      rcases great_loop h0 hm cs n bl gs fuel (.val (.int z)) (by simp at hf; omega) (fun y hy => hz y (List.mem_cons_of_mem _ hy)) with ⟨x', q⟩ | ⟨y, gs', sl, q, q2, q3⟩
      · exact .inl ⟨x', step.trans q⟩
      · exact .inr ⟨y, gs', sl, step.trans q, q2, by rw [List.length_cons]; omega⟩
theorem next_ok (hT : T "_law_next" = some ir_next) (hw : 70 < wf) {c : Nat} {S : Sto} (h : DkOk (c + 1) S) {m : Int} (h0 : 0 < m) (h1 : m ≤ 2 ^ 62) (n : Nat) :
    ∃ k S', callN T G wf (n + 1) "_law_next" [.ref 1, .int m] S = .ok (.val (.int k)) S' ∧ 0 ≤ k ∧ k < m ∧ DkOk c S' := by
  obtain ⟨gs, cs, q, bl, rfl, hg, hc, hn, hgl, hcl, hq, hq2, hb, hb2⟩ := h
  have hm : m.natAbs.log2 < 9000 := by
    have := log2_lt (n := m.natAbs) (k := 62) (by omega)
    omega
  have modm : ∀ x : Int, 0 ≤ x % m ∧ x % m < m := fun x => ⟨Int.emod_nonneg _ (by omega), Int.emod_lt_of_pos _ h0⟩
  rw [call_eq hT rfl]
  have lp := great_loop (F := ⟨callN T G wf n, G, wf⟩) h0 hm cs q bl gs wf .emp (by omega) hg
  unfold ir_next
  rcases lp with ⟨x', e⟩ | ⟨z, gs', sl, e, hg', hgl'⟩
  · have e' : exS ⟨callN T G wf n, G, wf⟩ (.whl (.cmpr .ne (.ixr (.var 0) (.int 0)) (.list .nil)) b_next_0) [.val (.ref 1), .val (.int m), .emp] (DkS gs cs q bl) = .ok (.nx, [.val (.ref 1), .val (.int m), x']) (DkS [] cs q bl) := e
    have lpos : 0 < cs.length := List.length_pos_iff.mpr hn
    have i2 : ixN 4 2 = some 2 := ixN_in (by omega) (by omega)
    have i3 : ixN 4 3 = some 3 := ixN_in (by omega) (by omega)
    have r0 : 0 ≤ (q + 1) % (cs.length : Int) := Int.emod_nonneg _ (by omega)
    have r1 : (q + 1) % (cs.length : Int) < cs.length := Int.emod_lt_of_pos _ (by omega)
    obtain ⟨w, hw', _, e2⟩ := at_map (f := D.int) (l := cs) r0 r1
    have w0 := hc w hw'
    have m1 : opBinD .mul (.int bl) (.int 48271) = some (.val (.int (bl * 48271))) := mul_small (by omega) (by omega)
    have m2 : opBinD .mul (.int 30011) (.int (q + 1)) = some (.val (.int (30011 * (q + 1)))) := mul_small (by omega) (by omega)
    have s0 : 0 ≤ (bl * 48271 + w % 2147483629 + 30011 * (q + 1)) % 2147483647 := Int.emod_nonneg _ (by omega)
    have s1 : (bl * 48271 + w % 2147483629 + 30011 * (q + 1)) % 2147483647 < 2147483647 := Int.emod_lt_of_pos _ (by omega)
    generalize hs : (bl * 48271 + w % 2147483629 + 30011 * (q + 1)) % 2147483647 = s at *
    have m3 : opBinD .mul (.int s) (.int s) = some (.val (.int (s * s))) := mul_small (by omega) (by omega)
    have l16 : Nat.log2 16 < 9000 := by decide
    have hcs : (0 : Int) < (cs.length : Int) := by omega
    refine ⟨s * s % 2147483629 / 16 % m, DkS [] cs (q + 1) s, ?_, (modm _).1, (modm _).2, [], cs, q + 1, s, rfl, fun _ h => (by cases h), hc, hn, by simp, hcl, by omega, by omega, s0, s1⟩
    simp -implicitDefEqProofs [-es_whl, e']
    simp -implicitDefEqProofs [DkS, at0, at1, at2, at3, lstAt, chg, setD, i2, i3, e2, m1, m2, m3, hs, l16, h0, hm, hcs, lpos]
  · have e' : exS ⟨callN T G wf n, G, wf⟩ (.whl (.cmpr .ne (.ixr (.var 0) (.int 0)) (.list .nil)) b_next_0) [.val (.ref 1), .val (.int m), .emp] (DkS gs cs q bl) = .ok (.rt (.val (.int (z % m))), sl) (DkS gs' cs q bl) := e
    refine ⟨z % m, DkS gs' cs q bl, ?_, (modm _).1, (modm _).2, gs', cs, q, bl, rfl, hg', hc, hn, by omega, hcl, hq, by omega, hb, hb2⟩
    simp -implicitDefEqProofs [-es_whl, e']
end M
end Px

set_option Elab.async false
set_option linter.all false
set_option maxRecDepth 100000
set_option maxHeartbeats 1000000
/-! Px, part BB: what the deck draws: numbers, rows, forms. -/
namespace Px
open PySem L2
open L (pD NumOk PairOk RowOk)
theorem bi_max (i j : Int) : opBi .max2 [.val (.int i), .val (.int j)] = some (.val (.int (max i j))) := by
  rw [bi_max2]
  congr 3
  by_cases h : j > i
  · rw [if_pos h]; omega
  · rw [if_neg h]; omega
theorem atI_ints {ns : List Int} {k : Int} (h0 : 0 ≤ k) (h1 : k < ns.length) : ∃ v ∈ ns, atI (ns.map D.int) k = some (.int v) := by
  obtain ⟨v, hv, _, e⟩ := at_map (f := D.int) (l := ns) h0 h1
  exact ⟨v, hv, e⟩
/-- a row of numbers from 0 to a bound -/
def RowLe (B : Int) (r : List (Int × Int)) : Prop := ∀ p ∈ r, 0 ≤ p.1 ∧ p.1 ≤ B ∧ 0 ≤ p.2 ∧ p.2 ≤ B
namespace M
variable {T : String → Option Fn} {G : String → Option D} {wf : Nat}
theorem number_ok (hT : T "_law_next" = some ir_next) (hN : T "_law_number" = some ir_number) (hw : 70 < wf) {c : Nat} {S : Sto} (h : DkOk (c + 2) S) (n : Nat) :
    ∃ k S', callN T G wf (n + 2) "_law_number" [.ref 1] S = .ok (.val (.int k)) S' ∧ 0 ≤ k ∧ k ≤ 1000000000000 ∧ DkOk c S' := by
  rw [call_eq hN rfl]
  unfold ir_number
  obtain ⟨w, S1, e1, w0, w1, h1⟩ := next_ok (G := G) (wf := wf) hT hw (c := c + 1) h (m := 14) (by decide) (by decide) n
  by_cases c1 : w = 0
  · subst c1
    obtain ⟨k, S2, e2, k0, k1, h2⟩ := next_ok (G := G) (wf := wf) hT hw h1 (m := 3) (by decide) (by decide) n
    refine ⟨1000000000000 - k, S2, ?_, by omega, by omega, h2⟩
    simp -implicitDefEqProofs [e1, eqD_int, e2, ob_pow]
  · obtain ⟨v, hv, e3⟩ := atI_ints (ns := [1, 3, 6, 10]) (k := w % 4) (by omega) (by show _ < (4 : Int); omega)
    have hv2 : 0 < v ∧ v ≤ 10 := by simp at hv; omega
    obtain ⟨k, S2, e2, k0, k1, h2⟩ := next_ok (G := G) (wf := wf) hT hw h1 (m := v) hv2.1 (by omega) n
    refine ⟨k, S2, ?_, k0, by omega, h2⟩
    simp only [List.map_cons, List.map_nil] at e3
    simp -implicitDefEqProofs [e1, eqD_int, c1, e2, e3]

theorem path_ok (hT : T "_law_next" = some ir_next) (hP : T "_law_path" = some ir_path) (hw : 70 < wf) {c : Nat} {S : Sto} (h : DkOk (c + 200) S) {m : Int} (m0 : 0 ≤ m) (m1 : m ≤ 50) (n : Nat) :
    ∃ ps S', callN T G wf (n + 2) "_law_path" [.ref 1, .int m] S = .ok (.val (.tup (ps.map pD))) S' ∧ RowLe 10000000000000000 ps ∧ (ps.length : Int) ≤ m ∧ DkOk c S' := by
  rw [call_eq hP rfl]
  unfold ir_path
  obtain ⟨k, S1, e1, k0, k1, h1⟩ := next_ok (G := G) (wf := wf) hT hw (c := c + 199) h (m := m + 1) (by omega) (by omega) n
  have sk : small62 k = true := small_of k0 (by omega)
  obtain ⟨sl', S', e2, ps, at', x, y, z, rfl, hps, hl, ha1, ha2, h2⟩ := loop_inv0 (t := .nm 4) (b := exB ⟨callN T G wf (n + 1), G, wf⟩ b_path_0) (items := rngD 0 k.toNat) (sl := [.val (.ref 1), .val (.int m), .own (.lst []), .val (.int 0), .emp, .emp, .emp]) (S := S1)
    (fun i sl S => ∃ (ps : List (Int × Int)) (a : Int) (x y z : Slot), sl = [.val (.ref 1), .val (.int m), .own (.lst (ps.map pD)), .val (.int a), x, y, z] ∧ RowLe 10000000000000000 ps ∧ ps.length = i ∧ -(4 * (i : Int)) ≤ a ∧ a ≤ 4 * (i : Int) ∧ DkOk (c + 199 - 3 * i) S)
    ⟨[], 0, .emp, .emp, .emp, rfl, (fun p hp => nomatch hp), rfl, by omega, by omega, h1⟩ (by
      rintro i v sl S hy ⟨ps, a, x, y, z, rfl, hps, hl, ha1, ha2, hS⟩
      obtain ⟨rfl, hi⟩ := rng_get hy
      have hi' : i ≤ 50 := by omega
      obtain ⟨w, S2, e2, w0, w1, h2⟩ := next_ok (G := G) (wf := wf) hT hw (c := c + 199 - 3 * i - 1) (hS.less (by omega)) (m := 3) (by decide) (by decide) n
      obtain ⟨u, hu, e3⟩ := atI_ints (ns := [3, 8, 20]) (k := w) w0 (by show _ < (3 : Int); omega)
      have hu2 : 0 < u ∧ u ≤ 20 := by simp at hu; omega
      obtain ⟨d, S3, e4, d0, d1, h3⟩ := next_ok (G := G) (wf := wf) hT hw (c := c + 199 - 3 * i - 2) (h2.less (by omega)) (m := u) hu2.1 (by omega) n
      obtain ⟨q, S4, e5, q0, q1, h4⟩ := next_ok (G := G) (wf := wf) hT hw (c := c + 199 - 3 * i - 3) (h3.less (by omega)) (m := 9) (by decide) (by decide) n
      simp only [List.map_cons, List.map_nil] at e3
      have hsz : ps.length < sizeLine := by rw [hl]; unfold sizeLine; omega
      refine ⟨_, [.val (.ref 1), .val (.int m), .own (.lst ((ps ++ [(max 0 (a + d), max 0 (max 0 (a + d) + q - 4))]).map pD)), .val (.int (a + max 0 (max 0 (a + d) + q - 4) - max 0 (a + d))), .val (.int (0 + (i : Int))), .val (.int (max 0 (a + d))), .val (.int (max 0 (max 0 (a + d) + q - 4)))], S4, rfl, ?_, _, _, _, _, _, rfl, ?_, ?_, ?_, ?_, ?_⟩
      · unfold b_path_0
        simp -implicitDefEqProofs [-bi_max2, bi_max, e2, e3, e4, e5, lstAt, chg, appD, hsz, pD]
      · intro p hp
        rcases List.mem_append.mp hp with hp | hp
        · exact hps p hp
        · rw [List.mem_singleton] at hp
          subst hp
          exact ⟨by show 0 ≤ max 0 (a + d); omega, by show max 0 (a + d) ≤ _; omega, by show 0 ≤ max 0 (max 0 (a + d) + q - 4); omega, by show max 0 (max 0 (a + d) + q - 4) ≤ _; omega⟩
      · rw [List.length_append, hl]; rfl
      · omega
      · omega
      · exact h4.less (by omega))
  rw [rng_len] at hl h2
  refine ⟨ps, S', ?_, hps, by omega, h2.less (by omega)⟩
  simp -implicitDefEqProofs [e1, sk, e2]
theorem row_ok (hT : T "_law_next" = some ir_next) (hP : T "_law_path" = some ir_path) (hN : T "_law_number" = some ir_number) (hR : T "_law_row" = some ir_row) (hw : 70 < wf) {c : Nat} {S : Sto} (h : DkOk (c + 300) S) {m : Int} (m0 : 0 ≤ m) (m1 : m ≤ 50) (n : Nat) :
    ∃ ps S', callN T G wf (n + 3) "_law_row" [.ref 1, .int m] S = .ok (.val (.tup (ps.map pD))) S' ∧ RowLe 10000000000000000 ps ∧ (ps.length : Int) ≤ m ∧ DkOk c S' := by
  rw [call_eq hR rfl]
  unfold ir_row
  obtain ⟨w, S1, e1, w0, w1, h1⟩ := next_ok (G := G) (wf := wf) hT hw (c := c + 299) h (m := 3) (by decide) (by decide) (n + 1)
  by_cases c0 : w = 0
  · subst c0
    obtain ⟨ps, S2, e2, hps, hl, h2⟩ := path_ok (G := G) (wf := wf) hT hP hw (c := c + 99) h1 m0 m1 n
    refine ⟨ps, S2, ?_, hps, hl, h2.less (by omega)⟩
    generalize ps.map pD = P at *
    simp -implicitDefEqProofs [e1, eqD_int, e2]
  · by_cases c1 : w = 1
    · subst c1
      have l2 : Nat.log2 2 < 9000 := by decide
      obtain ⟨ps, S2, e2, hps, hl, h2⟩ := path_ok (G := G) (wf := wf) hT hP hw (c := c + 99) h1 (m := m / 2) (by omega) (by omega) n
      have sz : (ps.map pD).length + (ps.map pD).length ≤ sizeLine := by rw [List.length_map]; unfold sizeLine; omega
      refine ⟨ps ++ ps, S2, ?_, fun p hp => (List.mem_append.mp hp).elim (hps p) (hps p), by rw [List.length_append]; omega, h2.less (by omega)⟩
      rw [List.map_append]
      generalize ps.map pD = P at *
      simp -implicitDefEqProofs [e1, eqD_int, e2, l2, sz]
    · obtain ⟨k, S2, e2, k0, k1, h2⟩ := next_ok (G := G) (wf := wf) hT hw (c := c + 298) h1 (m := m + 1) (by omega) (by omega) (n + 1)
      have sk : small62 k = true := small_of k0 (by omega)
      obtain ⟨sl', S', e3, ps, x, rfl, hps, hl, h3⟩ := loop_inv0 (t := .nm 5) (b := exB ⟨callN T G wf (n + 2), G, wf⟩ b_row_0) (items := rngD 0 k.toNat) (sl := [.val (.ref 1), .val (.int m), .val (.int w), .emp, .own (.lst []), .emp]) (S := S2)
        (fun i sl S => ∃ (ps : List (Int × Int)) (x : Slot), sl = [.val (.ref 1), .val (.int m), .val (.int w), .emp, .own (.lst (ps.map pD)), x] ∧ RowLe 10000000000000000 ps ∧ ps.length = i ∧ DkOk (c + 298 - 4 * i) S)
        ⟨[], .emp, rfl, (fun p hp => nomatch hp), rfl, h2⟩ (by
          rintro i v sl S hy ⟨ps, x, rfl, hps, hl, hS⟩
          obtain ⟨rfl, hi⟩ := rng_get hy
          have hi' : i ≤ 50 := by omega
          obtain ⟨a, S3, e4, a0, a1, h3⟩ := number_ok (G := G) (wf := wf) hT hN hw (c := c + 298 - 4 * i - 2) (hS.less (by omega)) n
          obtain ⟨b, S4, e5, b0, b1, h4⟩ := number_ok (G := G) (wf := wf) hT hN hw (c := c + 298 - 4 * i - 4) (h3.less (by omega)) n
          have hsz : ps.length < sizeLine := by rw [hl]; unfold sizeLine; omega
          refine ⟨_, [.val (.ref 1), .val (.int m), .val (.int w), .emp, .own (.lst ((ps ++ [(a, b)]).map pD)), .val (.int (0 + (i : Int)))], S4, rfl, ?_, _, _, rfl, ?_, ?_, ?_⟩
          · unfold b_row_0
            simp -implicitDefEqProofs [e4, e5, lstAt, chg, appD, hsz, pD]
          · intro p hp
            rcases List.mem_append.mp hp with hp | hp
            · exact hps p hp
            · rw [List.mem_singleton] at hp
              subst hp
              exact ⟨a0, by show a ≤ _; omega, b0, by show b ≤ _; omega⟩
          · rw [List.length_append, hl]; rfl
          · exact h4.less (by omega))
      rw [rng_len] at hl h3
      refine ⟨ps, S', ?_, hps, by omega, h3.less (by omega)⟩
      simp -implicitDefEqProofs [e1, eqD_int, c0, c1, e2, sk, e3]
end M
end Px

set_option Elab.async false
set_option linter.all false
set_option maxRecDepth 100000
set_option maxHeartbeats 1000000
/-! Px, part BC: forms, in plain Lean. -/
namespace Px
open PySem L2
open L (pD lrF lrS NumOk PairOk RowOk)
/-- a row of numbers from 0 on -/
def Nn (r : Row) : Prop := ∀ p ∈ r, 0 ≤ p.1 ∧ 0 ≤ p.2
theorem RowOk.nn {r : Row} (h : RowOk r) : Nn r := fun p hp => ⟨(h p hp).1.1, (h p hp).2.1⟩
theorem RowLe.nn {B : Int} {r : Row} (h : RowLe B r) : Nn r := fun p hp => ⟨(h p hp).1, (h p hp).2.2.1⟩
theorem Nn.app {a b : Row} (ha : Nn a) (hb : Nn b) : Nn (a ++ b) := fun p hp => (List.mem_append.mp hp).elim (ha p) (hb p)
theorem Nn.take {a : Row} (h : Nn a) (k : Nat) : Nn (a.take k) := fun p hp => h p (List.mem_of_mem_take hp)
theorem Nn.drop {a : Row} (h : Nn a) (k : Nat) : Nn (a.drop k) := fun p hp => h p (List.mem_of_mem_drop hp)
theorem Nn.tnd {a : Row} (h : Nn a) : Nn (tnd a) := fun p hp => by
  obtain ⟨q, hq, rfl⟩ := List.mem_map.mp hp
  have := h q (List.mem_reverse.mp hq)
  exact ⟨this.2, this.1⟩
theorem tnd_app (a b : Row) : tnd (a ++ b) = tnd b ++ tnd a := by unfold tnd; rw [List.reverse_append, List.map_append]
theorem sw_sw (p : Int × Int) : sw (sw p) = p := rfl
theorem tnd_tnd (a : Row) : tnd (tnd a) = a := by
  unfold tnd
  rw [← List.map_reverse, List.reverse_reverse, List.map_map]
  exact List.map_id'' (fun p => rfl) a
theorem tnd_nil : tnd [] = [] := rfl
theorem tnd_one (p : Int × Int) : tnd [p] = [sw p] := rfl
theorem tnd_cons (p : Int × Int) (r : Row) : tnd (p :: r) = tnd r ++ [sw p] := by
  unfold tnd; rw [List.reverse_cons, List.map_append]; rfl
/-! ### wholes -/
theorem whl_one {p : Int × Int} (h1 : 0 ≤ p.1) : whl [p] = p := jn_left h1
theorem whl_appN {a b : Row} (ha : Nn a) (hb : Nn b) : whl (a ++ b) = jn (whl a) (whl b) := by
  show (a ++ b).foldl jn (0, 0) = _
  rw [List.foldl_append]
  exact fold_jn b _ (whl_snd fun p hp => (ha p hp).2) fun p hp => (hb p hp).2
theorem gn_whl (r : Row) : gn (whl r) = ht r r.length := by
  rw [ht_len]
  have : ∀ (r : Row) (c : Int × Int), gn (r.foldl jn c) = gn c + (r.map gn).sum := by
    intro r
    induction r with
    | nil => intro c; simp
    | cons p r ih => intro c; rw [List.foldl_cons, ih, gn_jn, List.map_cons, List.sum_cons]; omega
  show gn (r.foldl jn (0, 0)) = _
  rw [this]
  show (0 : Int) - 0 + _ = _
  omega
theorem sw_jn {p q : Int × Int} : sw (jn p q) = jn (sw q) (sw p) := by
  refine pair_ext ?_ ?_
  · show (jn p q).2 = _
    rw [jn_fst, gn_sw]
    have e : (jn p q).2 = (jn p q).1 + gn p + gn q := rfl
    rw [e, jn_fst]
    show _ = (if p.2 - -gn q > q.2 then p.2 - -gn q else q.2)
    unfold gn
    split <;> split <;> omega
  · rw [gn_sw, gn_jn, gn_jn, gn_sw, gn_sw]; omega
theorem whl_tnd {r : Row} (h : Nn r) : whl (tnd r) = sw (whl r) := by
  induction r with
  | nil => rfl
  | cons p r ih =>
    have hp := h p List.mem_cons_self
    have hr : Nn r := fun q hq => h q (List.mem_cons_of_mem _ hq)
    have h1 : Nn [p] := fun q hq => by rw [List.mem_singleton] at hq; subst hq; exact hp
    have e1 : p :: r = [p] ++ r := rfl
    rw [tnd_cons, whl_appN hr.tnd (fun q hq => by rw [List.mem_singleton] at hq; subst hq; exact ⟨hp.2, hp.1⟩), ih hr, e1, whl_appN h1 hr, sw_jn, whl_one hp.1]
    congr 1
    exact whl_one (p := sw p) hp.2
theorem whl_nn {r : Row} (h : Nn r) : 0 ≤ (whl r).1 ∧ 0 ≤ (whl r).2 := ⟨whl_fst r, whl_snd fun p hp => (h p hp).2⟩
/-! ### the ups as rows -/
def cutU : Nat → Row → List Row × Row
  | 0, r => ([], r)
  | n + 1, r => if fu r = 0 then ([], r) else (r.take (fu r) :: (cutU n (r.drop (fu r))).1, (cutU n (r.drop (fu r))).2)
def seg (r : Row) (u : Int × Int) : Row := (r.drop u.1.toNat).take (u.2.toNat - u.1.toNat)
theorem upsG_seg (r : Row) : ∀ (m f : Nat), f ≤ r.length → r.length < f + m → (upsG r m f).map (seg r) = (cutU m (r.drop f)).1 ∧ ∃ e : Nat, e ≤ r.length ∧ Cov e f (upsG r m f) ∧ fu (r.drop e) = 0 ∧ (cutU m (r.drop f)).2 = r.drop e
  | 0, f, hf, hm => by omega
  | m + 1, f, hf, hm => by
    unfold upsG cutU
    have e := upE_drop r hf
    have le := fu_le (r.drop f)
    rw [List.length_drop] at le
    by_cases c : fu (r.drop f) = 0
    · rw [e, c, if_neg (by omega), if_pos rfl]
      exact ⟨rfl, f, hf, rfl, c, rfl⟩
    · rw [e, if_pos (by omega), if_neg c, show ((f : Int) + (fu (r.drop f) : Int)).toNat = f + fu (r.drop f) by omega]
      obtain ⟨q, x, hx, h1, h2, h3⟩ := upsG_seg r m (f + fu (r.drop f)) (by omega) (by omega)
      rw [List.drop_drop]
      refine ⟨?_, x, hx, ⟨rfl, by omega, ?_⟩, h2, h3⟩
      · rw [List.map_cons, q]
        congr 1
        unfold seg
        show (r.drop (f : Int).toNat).take (((f : Int) + (fu (r.drop f) : Int)).toNat - (f : Int).toNat) = _
        rw [show (f : Int).toNat = f by omega, show ((f : Int) + (fu (r.drop f) : Int)).toNat - f = fu (r.drop f) by omega]
      · rw [show ((f : Int) + (fu (r.drop f) : Int)) = ((f + fu (r.drop f) : Nat) : Int) by omega]
        exact h1
def upsR (r : Row) : List Row := (cutU (r.length + 1) r).1
def restR (r : Row) : Row := (cutU (r.length + 1) r).2
/-- the ups as pairs -/
def upsW (r : Row) : Row := (upsR r).map whl
theorem upsF_seg (r : Row) {f : Nat} (h : (upsF r = [] ∧ f = 0) ∨ ∃ (V : List (Int × Int)) (u : Int × Int), upsF r = V ++ [u] ∧ u.2 = (f : Int)) :
    (upsF r).map (seg r) = upsR r ∧ restR r = r.drop f := by
  obtain ⟨q, e, he, h1, h2, h3⟩ := upsG_seg r (r.length + 1) 0 (Nat.zero_le _) (by omega)
  refine ⟨q, ?_⟩
  have h1' : Cov e 0 (upsF r) := h1
  have ef : e = f := by
    rcases cov_last _ _ h1' with ⟨a, b⟩ | ⟨V, u, a, b⟩
    · rcases h with ⟨_, q⟩ | ⟨V', u', a', _⟩
      · omega
      · rw [a] at a'; simp at a'
    · rcases h with ⟨a', _⟩ | ⟨V', u', a', b'⟩
      · rw [a] at a'; simp at a'
      · rw [a] at a'
        have := List.append_inj_right' a' rfl
        simp at this
        subst this
        omega
  subst ef
  exact h3
theorem upsF_segs (r : Row) : (upsF r).map (seg r) = upsR r := (upsG_seg r (r.length + 1) 0 (Nat.zero_le _) (by omega)).1
/-- how many pairs stand up to the last return -/
def mdl (r : Row) : Nat := (lrF r 0).toNat
theorem lrS_shift (r : Row) (f : Nat) : ∀ k, (lrS r f k).1 = (lrS (r.drop f) 0 k).1 ∧ (lrS r f k).2 = (lrS (r.drop f) 0 k).2 + (f : Int)
  | 0 => ⟨rfl, by show (f : Int) = ((0 : Nat) : Int) + f; omega⟩
  | k + 1 => by
    obtain ⟨a, b⟩ := lrS_shift r f k
    have e : ∀ (r : Row) (f k : Nat), (lrS r f (k + 1)).2 = if (lrS r f k).1 + gn (r.getD (f + k) (0, 0)) = 0 then (f : Int) + (k : Int) + 1 else (lrS r f k).2 := fun _ _ _ => rfl
    have e' : ∀ (r : Row) (f k : Nat), (lrS r f (k + 1)).1 = (lrS r f k).1 + gn (r.getD (f + k) (0, 0)) := fun _ _ _ => rfl
    refine ⟨by rw [e', e', a, getD_drop, Nat.zero_add], ?_⟩
    rw [e, e, a, b, getD_drop, Nat.zero_add]
    split <;> omega
theorem lrF_shift (r : Row) {f : Nat} (hf : f ≤ r.length) : lrF r f = (f : Int) + (mdl (r.drop f) : Int) := by
  have h := (lrS_shift r f (r.length - f)).2
  have q := L.lrS_le (r.drop f) 0 (r.length - f)
  unfold mdl lrF
  rw [h, List.length_drop, Nat.sub_zero]
  omega
theorem mdl_le (r : Row) : mdl r ≤ r.length := by
  have q := L.lrS_le r 0 r.length
  unfold mdl lrF
  rw [Nat.sub_zero]
  omega
theorem mdl_spec (r : Row) : ht r (mdl r) = 0 ∧ ∀ j, mdl r < j → j ≤ r.length → ht r j ≠ 0 := by
  have e : lrF r 0 = (mdl r : Int) := by have := lrF_shift r (f := 0) (Nat.zero_le _); simpa using this
  obtain ⟨_, _, h3, h4⟩ := lrF_spec r (Nat.zero_le _) e
  simp only [List.drop_zero, Nat.sub_zero] at h3 h4
  exact ⟨h3, h4⟩
abbrev Form := Row × Int × Row
def lastM (up : Row) : Int := (up.getLast?.map (·.2)).getD 0
def firstN (down : Row) : Int := (down.head?.map (·.1)).getD 0
def gend (up down : Row) : Int := max (max 0 (lastM up)) (firstN down)
/-- a row's form -/
def formOf (r : Row) : Form :=
  (upsW r, max (gend (upsW r) (tnd (upsW (tnd ((restR r).drop (mdl (restR r))))))) (whl ((restR r).take (mdl (restR r)))).1, tnd (upsW (tnd ((restR r).drop (mdl (restR r))))))
/-- a form as data -/
def fD (f : Form) : D := .tup [.tup (f.1.map pD), .int f.2.1, .tup (f.2.2.map pD)]
/-! ### the downs -/
theorem seg_off {r : Row} {m : Nat} (hm : m ≤ r.length) {u : Int × Int} (h0 : 0 ≤ u.1) (h1 : u.1 ≤ u.2) (h2 : u.2 ≤ ((r.drop m).length : Int)) : seg r (offQ r.length u) = tnd (seg (tnd (r.drop m)) u) := by
  rw [List.length_drop] at h2
  obtain ⟨x, y⟩ := u
  dsimp only at h0 h1 h2
  obtain ⟨a, rfl⟩ : ∃ a : Nat, x = (a : Int) := ⟨x.toNat, by omega⟩
  obtain ⟨b, rfl⟩ : ∃ b : Nat, y = (b : Int) := ⟨y.toNat, by omega⟩
  unfold seg offQ
  dsimp only
  have ql : (r.drop m).length = r.length - m := List.length_drop
  rw [show (a : Int).toNat = a by omega, show (b : Int).toNat = b by omega, show ((r.length : Int) - (b : Int)).toNat = r.length - b by omega, show ((r.length : Int) - (a : Int)).toNat = r.length - a by omega]
  rw [tnd_drop _ (by omega), tnd_take _ (by rw [List.length_take]; omega), tnd_tnd]
  rw [List.length_take, ql, List.drop_take, List.drop_drop]
  congr 1
  · omega
  · congr 1
    omega
theorem seg_nn {r : Row} (h : Nn r) (u : Int × Int) : Nn (seg r u) := (h.drop _).take _
theorem downs_seg {r : Row} (hr : Nn r) {m : Nat} (hm : m ≤ r.length) : (downsF r m).map (fun u => whl (seg r u)) = tnd (upsW (tnd (r.drop m))) := by
  unfold downsF upsW tnd
  rw [List.map_map]
  show ((upsF (tnd (r.drop m))).reverse.map _) = ((upsR (tnd (r.drop m))).map whl).reverse.map sw
  rw [← upsF_segs, List.map_map, ← List.map_reverse, List.map_map]
  refine List.map_congr_left fun u hu => ?_
  obtain ⟨a, b, c⟩ := upsF_mem _ u (List.mem_reverse.mp hu)
  rw [tnd_len] at c
  show whl (seg r (offQ r.length u)) = sw (whl (seg (tnd (r.drop m)) u))
  rw [seg_off hm a (by omega) c, whl_tnd (seg_nn (hr.drop m).tnd u)]
end Px

set_option Elab.async false
set_option linter.all false
set_option maxRecDepth 100000
set_option maxHeartbeats 1000000
/-! Px, part BD: the program's forms. -/
namespace Px
open PySem L2
open L (pD lrF lrS NumOk PairOk RowOk)
theorem dInts_map : ∀ ns : List Int, dInts (ns.map D.int) = some ns
  | [] => rfl
  | n :: ns => by show (dInts (ns.map D.int)).map (n :: ·) = _; rw [dInts_map ns]; rfl
theorem bi_maxF {ns : List Int} (h : ns ≠ []) : opBi .maxL [.fresh (.lst (ns.map D.int))] = some (.val (.int (greatest ns))) := by
  show (match dInts (ns.map D.int) with | some ns => if ns = [] then none else some (Rv.val (.int (greatest ns))) | none => none) = _
  rw [dInts_map]
  show (if ns = [] then none else some (Rv.val (.int (greatest ns)))) = _
  rw [if_neg h]
theorem bi_sumF (ns : List Int) : opBi .sum [.fresh (.lst (ns.map D.int))] = some (.val (.int ns.sum)) := by
  show ((dInts (ns.map D.int)).map fun ns => Rv.val (.int ns.sum)) = _
  rw [dInts_map]; rfl
theorem slc_seg {α : Type} (l : List α) {a b : Nat} (h1 : a ≤ b) (h2 : b ≤ l.length) : slc l (some (a : Int)) (some (b : Int)) = (l.drop a).take (b - a) := by
  unfold slc
  rw [HT.sIx_nat, HT.sIx_nat, Nat.min_eq_left h2, Nat.min_eq_left (Nat.le_trans h1 h2)]
theorem slc_last {α : Type} (l : List α) : slc l (some (-1)) none = l.getLast?.toList := by
  unfold slc
  have e : HT.sIx l.length 0 (some (-1)) = l.length - 1 := by
    show (if (-1 : Int) < 0 then ((-1 : Int) + (l.length : Int)).toNat else min (-1 : Int).toNat l.length) = _
    rw [if_pos (by decide)]
    omega
  rw [e, HT.sIx_none, List.take_of_length_le (by rw [List.length_drop]; exact Nat.le_refl _)]
  rcases List.eq_nil_or_concat l with rfl | ⟨k, x, rfl⟩
  · rfl
  · rw [List.concat_eq_append]
    simp
theorem slc_first {α : Type} (l : List α) : slc l none (some 1) = l.head?.toList := by
  rw [show (some (1 : Int)) = some ((1 : Nat) : Int) from rfl, slc_to]
  cases l <;> simp
def fstD : D → D
  | .tup [a, _] => a
  | d => d
def sndD : D → D
  | .tup [_, b] => b
  | d => d
def segD (r : Row) : D → D
  | .tup [.int a, .int b] => pD (whl (seg r (a, b)))
  | d => d
theorem gend_list (up down : Row) : greatest (0 :: (up.getLast?.toList.map (·.2) ++ down.head?.toList.map (·.1))) = gend up down := by
  unfold gend lastM firstN
  cases up.getLast? with
  | none =>
    cases down.head? with
    | none => rfl
    | some y =>
      show (if y.1 > 0 then y.1 else 0) = max (max 0 0) y.1
      split <;> omega
  | some x =>
    cases down.head? with
    | none =>
      show (if x.2 > 0 then x.2 else 0) = max (max 0 x.2) 0
      split <;> omega
    | some y =>
      show (if (if y.1 > x.2 then y.1 else x.2) > 0 then (if y.1 > x.2 then y.1 else x.2) else 0) = max (max 0 x.2) y.1
      split <;> split <;> omega
/-- the defs that cut is made of -/
structure CutT (T : String → Option Fn) : Prop where
  g : T "gain" = some L.ir_gain
  j : T "joined" = some L.ir_joined
  w : T "whole" = some L.ir_whole
  ue : T "up_end" = some L.ir_up_end
  uo : T "ups_of" = some L.ir_ups_of
  lr : T "last_return" = some L.ir_last_return
  tr : T "turned_row" = some L.ir_turned_row
  c : T "cut" = some L.ir_cut
  ge : T "greatest_end" = some M.ir_greatest_end
  fo : T "form_of" = some M.ir_form_of
namespace M
variable {T : String → Option Fn} {G : String → Option D} {wf : Nat}
theorem greatest_end_eq (hT : T "greatest_end" = some ir_greatest_end) (up down : Row) (n : Nat) (S : Sto) :
    callN T G wf (n + 1) "greatest_end" [.tup (up.map pD), .tup (down.map pD)] S = .ok (.val (.int (gend up down))) S := by
  rw [call_eq hT rfl]
  have k1 : ∀ a b : Slot, evE ⟨callN T G wf n, G, wf⟩ c_greatest_end_0 [.val (.tup (up.map pD)), .val (.tup (down.map pD)), a, b] S = .ok (.fresh (.lst ((up.getLast?.toList.map (·.2)).map D.int))) S := fun a b => by
    unfold c_greatest_end_0
    rw [ev_comp_map (items := up.getLast?.toList.map pD) sndD ?_ ?_ fun x hx => ?_]
    · rw [List.map_map, List.map_map]; rfl
    · have e : slc (up.map pD) (some (-1)) none = up.getLast?.toList.map pD := by rw [slc_map, slc_last]
      simp -implicitDefEqProofs [e]
    · rw [List.length_map]
      unfold sizeLine
      cases up.getLast? <;> simp
    · obtain ⟨p, _, rfl⟩ := List.mem_map.mp hx
      exact ⟨_, rfl, rfl, rfl⟩
  have k2 : ∀ a b : Slot, evE ⟨callN T G wf n, G, wf⟩ c_greatest_end_1 [.val (.tup (up.map pD)), .val (.tup (down.map pD)), a, b] S = .ok (.fresh (.lst ((down.head?.toList.map (·.1)).map D.int))) S := fun a b => by
    unfold c_greatest_end_1
    rw [ev_comp_map (items := down.head?.toList.map pD) fstD ?_ ?_ fun x hx => ?_]
    · rw [List.map_map, List.map_map]; rfl
    · have e : slc (down.map pD) none (some 1) = down.head?.toList.map pD := by rw [slc_map, slc_first]
      simp -implicitDefEqProofs [e]
    · rw [List.length_map]
      unfold sizeLine
      cases down.head? <;> simp
    · obtain ⟨p, _, rfl⟩ := List.mem_map.mp hx
      exact ⟨_, rfl, rfl, rfl⟩
  have k3 := bi_maxF (ns := 0 :: (up.getLast?.toList.map (·.2) ++ down.head?.toList.map (·.1))) (by simp)
  rw [gend_list, List.map_cons, List.map_append] at k3
  have l1 : up.getLast?.toList.length ≤ 1 := by cases up.getLast? <;> simp
  have l2 : down.head?.toList.length ≤ 1 := by cases down.head? <;> simp
  have s1 : opBinD .add (.lst [.int 0]) (.lst ((up.getLast?.toList.map (·.2)).map D.int)) = some (.fresh (.lst (.int 0 :: (up.getLast?.toList.map (·.2)).map D.int))) := by
    rw [ob_addL, if_pos]
    · rfl
    simp only [List.length_cons, List.length_map, List.length_nil]
    unfold sizeLine
    omega
  have s2 : opBinD .add (.lst (.int 0 :: (up.getLast?.toList.map (·.2)).map D.int)) (.lst ((down.head?.toList.map (·.1)).map D.int)) = some (.fresh (.lst (.int 0 :: ((up.getLast?.toList.map (·.2)).map D.int ++ (down.head?.toList.map (·.1)).map D.int)))) := by
    rw [ob_addL, if_pos]
    · rfl
    simp only [List.length_cons, List.length_map, List.length_nil]
    unfold sizeLine
    omega
  unfold ir_greatest_end
  generalize (up.getLast?.toList.map (·.2)).map D.int = A at *
  generalize (down.head?.toList.map (·.1)).map D.int = B at *
  simp -implicitDefEqProofs [-ob_addL, k1, k2, k3, s1, s2]
theorem whole_seg (C : CutT T) (r : Row) (hr : r.length ≤ 100000) {a b : Nat} (h1 : a ≤ b) (h2 : b ≤ r.length) (n : Nat) (S : Sto) :
    slc (r.map pD) (some (a : Int)) (some (b : Int)) = (seg r ((a : Int), (b : Int))).map pD ∧ callN T G wf (n + 3) "whole" [.tup ((seg r ((a : Int), (b : Int))).map pD)] S = .ok (.val (pD (whl (seg r ((a : Int), (b : Int)))))) S := by
  refine ⟨?_, L.whole_eq C.g C.j C.w _ n S⟩
  rw [slc_map, slc_seg r h1 h2]
  unfold seg
  rfl
theorem form_of_eq (C : CutT T) (r : Row) (hr : Nn r) (hl : r.length ≤ 100000) (hw : r.length + 1 < wf) (n : Nat) (S : Sto) :
    callN T G wf (n + 5) "form_of" [.tup (r.map pD)] S = .ok (.val (fD (formOf r))) S := by
  obtain ⟨f, m, e1, hfm, hm, hlr, hf⟩ := L.cut_eqD (G := G) (wf := wf) C.g C.ue C.uo C.lr C.tr C.c r hl hw n
  have e1 := e1 S
  obtain ⟨f1, _, fz⟩ := upsF_cov r hf
  obtain ⟨sg, rs⟩ := upsF_seg r hf
  have ms := lrF_shift r f1
  rw [hlr] at ms
  have ul := upsF_len r
  have dl := downsF_len r m
  have k1 : ∀ s1 s2 s3 s4 s5 s6 : Slot, evE ⟨callN T G wf (n + 4), G, wf⟩ c_form_of_0 [.val (.tup (r.map pD)), .val (.tup ((upsF r).map pD)), s1, s2, s3, s4, s5, s6] S = .ok (.fresh (.lst ((upsW r).map pD))) S := fun s1 s2 s3 s4 s5 s6 => by
    unfold c_form_of_0
    rw [ev_comp_map (items := (upsF r).map pD) (segD r) ?_ ?_ fun x hx => ?_]
    · unfold upsW
      rw [← sg, List.map_map, List.map_map, List.map_map]; rfl
    · simp -implicitDefEqProofs
    · rw [List.length_map]
      unfold sizeLine
      omega
    · obtain ⟨u, hu, rfl⟩ := List.mem_map.mp hx
      obtain ⟨a1, a2, a3⟩ := upsF_mem r u hu
      obtain ⟨x, y⟩ := u
      dsimp only at a1 a2 a3
      obtain ⟨a, rfl⟩ : ∃ a : Nat, x = (a : Int) := ⟨x.toNat, by omega⟩
      obtain ⟨b, rfl⟩ : ∃ b : Nat, y = (b : Int) := ⟨y.toNat, by omega⟩
      obtain ⟨q1, q2⟩ := whole_seg (G := G) (wf := wf) C r hl (a := a) (b := b) (by omega) (by omega) (n + 1) S
      refine ⟨_, rfl, rfl, ?_⟩
      simp -implicitDefEqProofs [q1, q2]
      rfl
  have k2 : ∀ s1 s2 s3 s4 s5 s6 : Slot, evE ⟨callN T G wf (n + 4), G, wf⟩ c_form_of_1 [.val (.tup (r.map pD)), s1, s2, .val (.tup ((downsF r m).map pD)), s3, s4, s5, s6] S = .ok (.fresh (.lst ((tnd (upsW (tnd (r.drop m)))).map pD))) S := fun s1 s2 s3 s4 s5 s6 => by
    unfold c_form_of_1
    rw [ev_comp_map (items := (downsF r m).map pD) (segD r) ?_ ?_ fun x hx => ?_]
    · rw [← downs_seg hr hm, List.map_map, List.map_map]; rfl
    · simp -implicitDefEqProofs
    · rw [List.length_map]
      unfold sizeLine
      omega
    · obtain ⟨u, hu, rfl⟩ := List.mem_map.mp hx
      obtain ⟨a1, a2, a3⟩ := downsF_mem r hm u hu
      obtain ⟨x, y⟩ := u
      dsimp only at a1 a2 a3
      obtain ⟨a, rfl⟩ : ∃ a : Nat, x = (a : Int) := ⟨x.toNat, by omega⟩
      obtain ⟨b, rfl⟩ : ∃ b : Nat, y = (b : Int) := ⟨y.toNat, by omega⟩
      obtain ⟨q1, q2⟩ := whole_seg (G := G) (wf := wf) C r hl (a := a) (b := b) (by omega) (by omega) (n + 1) S
      refine ⟨_, rfl, rfl, ?_⟩
      simp -implicitDefEqProofs [q1, q2]
      rfl
  have em : restR r = r.drop f := rs
  have hmid : (restR r).take (mdl (restR r)) = seg r ((f : Int), (m : Int)) := by
    rw [em]
    unfold seg
    show _ = (r.drop (f : Int).toNat).take ((m : Int).toNat - (f : Int).toNat)
    rw [show (f : Int).toNat = f by omega, show (m : Int).toNat - f = mdl (r.drop f) by omega]
  have hdr : (restR r).drop (mdl (restR r)) = r.drop m := by
    rw [em, List.drop_drop]
    congr 1
    omega
  obtain ⟨q1, q2⟩ := whole_seg (G := G) (wf := wf) C r hl (a := f) (b := m) hfm hm (n + 1) S
  have wl : (upsW r).length ≤ 100000 + 1 := by
    unfold upsW
    rw [← sg, List.length_map, List.length_map]; omega
  have z1 : cutD r f m = .tup [.tup ((upsF r).map pD), .tup [.int f, .int m], .tup ((downsF r m).map pD)] := rfl
  rw [z1] at e1
  have fo : formOf r = (upsW r, max (gend (upsW r) (tnd (upsW (tnd (r.drop m))))) (whl (seg r ((f : Int), (m : Int)))).1, tnd (upsW (tnd (r.drop m)))) := by
    unfold formOf
    rw [hmid, hdr]
  rw [fo]
  have e5 : ∀ u d : Row, callN T G wf (n + 4) "greatest_end" [.tup (u.map pD), .tup (d.map pD)] S = .ok (.val (.int (gend u d))) S := fun u d => greatest_end_eq C.ge u d (n + 3) S
  have e6 := e5 (upsW r) (tnd (upsW (tnd (r.drop m))))
  rw [call_eq C.fo rfl]
  unfold ir_form_of fD
  generalize gend (upsW r) (tnd (upsW (tnd (r.drop m)))) = gg at *
  generalize (tnd (upsW (tnd (r.drop m)))).map pD = w1 at *
  generalize (upsW r).map pD = w2 at *
  generalize whl (seg r ((f : Int), (m : Int))) = w3 at *
  generalize (seg r ((f : Int), (m : Int))).map pD = w4 at *
  generalize (downsF r m).map pD = w5 at *
  generalize (upsF r).map pD = w6 at *
  generalize r.map pD = w7 at *
  simp -implicitDefEqProofs [-bi_max2, bi_max, e1, k1, k2, q1, q2, e6, at0, at1, pD_ix0]
end M
end Px

set_option Elab.async false
set_option linter.all false
set_option maxRecDepth 100000
set_option maxHeartbeats 1000000
/-! Px, part BE: the laws' own forms. -/
namespace Px
open PySem L2
open L (pD lrF lrS NumOk PairOk RowOk)
theorem enum_at {xs : List D} {i : Nat} {x : D} (h : (enumD xs)[i]? = some x) : ∃ d, xs[i]? = some d ∧ x = .tup [.int i, d] := by
  unfold enumD at h
  rw [List.getElem?_map, List.getElem?_zipIdx] at h
  cases e : xs[i]? with
  | none => rw [e] at h; simp at h
  | some d =>
    rw [e] at h
    simp at h
    exact ⟨d, rfl, h.symm⟩
theorem enum_len (xs : List D) : (enumD xs).length = xs.length := by simp [enumD]
def chos2 : Option (Int × Int × Int) → D
  | none => .non
  | some (bd, bh, _) => .tup [.int bd, .int bh]
def end0 : Option (Int × Int × Int) → Int
  | none => 0
  | some (_, _, e) => e
theorem mn_min (i j : Int) : mn i j = min i j := by unfold mn; split <;> omega
/-- the defs of a law's own form -/
structure LawT (T : String → Option Fn) : Prop where
  w : T "_law_whole" = some M.ir_lw_whole
  fu : T "_law_first_up" = some M.ir_first_up
  uo : T "_law_ups_of" = some M.ir_lw_ups_of
  fo : T "_law_form_of" = some M.ir_lw_form_of
  tu : T "_law_turned" = some M.ir_turned
namespace M
variable {T : String → Option Fn} {G : String → Option D} {wf : Nat}
theorem law_turned_eqN {d : Fn} (hT : T "_law_turned" = some d) (ha : d.ar = 1) (hn : d.names.length = 3) (hb : d.body = ir_turned.body) (r : Row) (hl : r.length ≤ 2000000) (n : Nat) (S : Sto) : callN T G wf (n + 1) "_law_turned" [.tup (r.map pD)] S = .ok (.val (.tup ((tnd r).map pD))) S := by
  obtain ⟨ar, ns, bd⟩ := d
  obtain rfl : ar = 1 := ha
  rw [call_eq hT rfl]
  dsimp only at hn hb ⊢
  rw [hn, hb]
  have key : evE ⟨callN T G wf n, G, wf⟩ c_turned_0 [.val (.tup (r.map pD)), .emp, .emp] S = .ok (.fresh (.lst ((tnd r).map pD))) S := by
    unfold c_turned_0
    rw [ev_comp_map (items := (r.map pD).reverse) swD ?_ ?_ fun x hx => ?_]
    · congr 3
      unfold tnd
      rw [← List.map_reverse, List.map_map, List.map_map]
      rfl
    · simp -implicitDefEqProofs
    · rw [List.length_reverse, List.length_map]
      unfold sizeLine
      omega
    · obtain ⟨p, _, rfl⟩ := List.mem_map.mp (List.mem_reverse.mp hx)
      refine ⟨[.val (.tup (r.map pD)), .val (.int p.1), .val (.int p.2)], rfl, rfl, ?_⟩
      simp -implicitDefEqProofs
      rfl
  unfold ir_turned
  simp -implicitDefEqProofs [key]
theorem law_turned_eq (hT : T "_law_turned" = some ir_turned) (r : Row) (hl : r.length ≤ 2000000) (n : Nat) (S : Sto) : callN T G wf (n + 1) "_law_turned" [.tup (r.map pD)] S = .ok (.val (.tup ((tnd r).map pD))) S :=
  law_turned_eqN hT rfl rfl rfl r hl n S
theorem law_whole_eqN {d : Fn} (hT : T "_law_whole" = some d) (ha : d.ar = 1) (hn : d.names.length = 4) (hb : d.body = ir_lw_whole.body) (r : Row) (n : Nat) (S : Sto) : callN T G wf (n + 1) "_law_whole" [.tup (r.map pD)] S = .ok (.val (pD (whl r))) S := by
  obtain ⟨ar, ns, bd⟩ := d
  obtain rfl : ar = 1 := ha
  rw [call_eq hT rfl]
  dsimp only at hn hb ⊢
  rw [hn, hb]
  obtain ⟨sl', S', e, rfl, x, rfl⟩ := loop_inv0 (t := .nm 3) (b := exB ⟨callN T G wf n, G, wf⟩ b_lw_whole_0) (items := r.map pD) (sl := [.val (.tup (r.map pD)), .val (.int 0), .val (.int 0), .emp]) (S := S)
    (fun i sl S' => S' = S ∧ ∃ x, sl = [.val (.tup (r.map pD)), .val (.int (whl (r.take i)).1), .val (.int (gn (whl (r.take i)))), x]) ⟨rfl, _, rfl⟩ (by
      rintro i y sl S' hy ⟨rfl, x, rfl⟩
      rw [List.getElem?_map] at hy
      obtain ⟨p, hp, rfl⟩ := Option.map_eq_some_iff.mp hy
      have e1 : whl (r.take (i + 1)) = jn (whl (r.take i)) p := by
        rw [List.take_add_one, hp]
        unfold whl
        rw [List.foldl_append]
        rfl
      refine ⟨_, [.val (.tup (r.map pD)), .val (.int (whl (r.take (i + 1))).1), .val (.int (gn (whl (r.take (i + 1))))), .val (pD p)], S', rfl, ?_, rfl, _, rfl⟩
      rw [e1, jn_fst, gn_jn]
      generalize whl (r.take i) = c at *
      have g : gn c + p.2 - p.1 = gn c + gn p := by unfold gn; omega
      unfold b_lw_whole_0
      simp -implicitDefEqProofs [pD_ix0, pD_ix1, g])
  rw [List.length_map, List.take_length] at e
  have g : (whl r).1 + gn (whl r) = (whl r).2 := by unfold gn; omega
  unfold ir_lw_whole
  simp -implicitDefEqProofs [e, g]
  rfl
theorem law_whole_eq (hT : T "_law_whole" = some ir_lw_whole) (r : Row) (n : Nat) (S : Sto) : callN T G wf (n + 1) "_law_whole" [.tup (r.map pD)] S = .ok (.val (pD (whl r))) S :=
  law_whole_eqN hT rfl rfl rfl r n S
theorem law_first_up_eq (hT : T "_law_first_up" = some ir_first_up) (r : Row) (n : Nat) (S : Sto) : callN T G wf (n + 1) "_law_first_up" [.tup (r.map pD)] S = .ok (.val (.int (fu r))) S := by
  rw [call_eq hT rfl]
  obtain ⟨sl', S', e, rfl, x, y, z, rfl⟩ := loop_inv0 (t := .tup (.cons (.nm 5) (.cons (.tup (.cons (.nm 6) (.cons (.nm 7) .nil))) .nil))) (b := exB ⟨callN T G wf n, G, wf⟩ b_first_up_0) (items := enumD (r.map pD)) (sl := [.val (.tup (r.map pD)), .val (.int 0), .val (.int 0), .val .non, .val (.int 0), .emp, .emp, .emp]) (S := S)
    (fun i sl S' => S' = S ∧ ∃ x y z, sl = [.val (.tup (r.map pD)), .val (.int (usN r 0 i).d), .val (.int (usN r 0 i).h), .val (chos2 (usN r 0 i).b), .val (.int (end0 (usN r 0 i).b)), x, y, z]) ⟨rfl, _, _, _, rfl⟩ (by
      rintro i v sl S' hv ⟨rfl, x, y, z, rfl⟩
      obtain ⟨d, hd, rfl⟩ := enum_at hv
      rw [List.getElem?_map] at hd
      obtain ⟨p, hp, rfl⟩ := Option.map_eq_some_iff.mp hd
      have nxt : usN r 0 (i + 1) = usStep p (i : Int) (usN r 0 i) := by
        show usStep (r.getD (0 + i) (0, 0)) (((0 : Nat) : Int) + (i : Int)) (usN r 0 i) = _
        rw [Nat.zero_add, List.getD_eq_getElem?_getD, hp]
        congr 1
        omega
      have inv := us_inv r 0 i
      rw [nxt]
      generalize usN r 0 i = s at *
      obtain ⟨h, d, b⟩ := s
      refine ⟨_, [.val (.tup (r.map pD)), .val (.int (mn d (h - p.1))), .val (.int (h + gn p)), .val (chos2 (usStep p (i : Int) ⟨h, d, b⟩).b), .val (.int (end0 (usStep p (i : Int) ⟨h, d, b⟩).b)), .val (.int (i : Int)), .val (.int p.1), .val (.int p.2)], S', rfl, ?_, rfl, _, _, _, rfl⟩
      have hm := mn_le d (h - p.1)
      have g : h + p.2 - p.1 = h + gn p := by unfold gn; omega
      unfold b_first_up_0
      cases b with
      | none =>
        by_cases c : 0 < h + gn p
        · simp -implicitDefEqProofs [-bi_min2, bi_mn, g, c, chos2, end0, usStep]
        · simp -implicitDefEqProofs [-bi_min2, bi_mn, g, c, chos2, end0, usStep]
      | some t =>
        obtain ⟨bd, bh, e⟩ := t
        dsimp only at inv
        generalize hd : mn d (h - p.1) = d' at *
        by_cases c : 0 < h + gn p
        · by_cases c2 : d' = bd
          · by_cases c3 : bh ≤ h + gn p
            · simp -implicitDefEqProofs [-bi_min2, bi_mn, g, hd, c, c2, c3, chos2, end0, usStep, ge_tup2]
            · simp -implicitDefEqProofs [-bi_min2, bi_mn, g, hd, c, c2, c3, chos2, end0, usStep, ge_tup2]
          · have c4 : ¬ bd ≤ d' := by omega
            simp -implicitDefEqProofs [-bi_min2, bi_mn, g, hd, c, c2, c4, chos2, end0, usStep, ge_tup2]
        · simp -implicitDefEqProofs [-bi_min2, bi_mn, g, hd, c, chos2, end0, usStep])
  rw [enum_len, List.length_map] at e
  have e2 : end0 (usN r 0 r.length).b = (fu r : Int) := by
    rw [← fu_eq]
    unfold upE
    rw [Nat.sub_zero]
    cases (usN r 0 r.length).b <;> rfl
  rw [e2] at e
  unfold ir_first_up
  simp -implicitDefEqProofs [e]
end M
theorem greatest_max (t : Int) (up down : Row) (ht : 0 ≤ t) : greatest (0 :: t :: (up.getLast?.toList.map (·.2) ++ down.head?.toList.map (·.1))) = max (gend up down) t := by
  have e := gend_list up down
  unfold gend lastM firstN at *
  cases up.getLast? with
  | none =>
    cases down.head? with
    | none => show (if t > 0 then t else 0) = max (max (max 0 0) 0) t; split <;> omega
    | some y =>
      show (if (if y.1 > t then y.1 else t) > 0 then (if y.1 > t then y.1 else t) else 0) = max (max (max 0 0) y.1) t
      split <;> split <;> omega
  | some x =>
    cases down.head? with
    | none =>
      show (if (if x.2 > t then x.2 else t) > 0 then (if x.2 > t then x.2 else t) else 0) = max (max (max 0 x.2) 0) t
      split <;> split <;> omega
    | some y =>
      show (if (if (if y.1 > x.2 then y.1 else x.2) > t then (if y.1 > x.2 then y.1 else x.2) else t) > 0 then (if (if y.1 > x.2 then y.1 else x.2) > t then (if y.1 > x.2 then y.1 else x.2) else t) else 0) = max (max (max 0 x.2) y.1) t
      split <;> split <;> (try split) <;> omega
theorem bi_maxF2 (t : Int) (up down : Row) (ht : 0 ≤ t) : opBi .maxL [.val (.lst (.int 0 :: .int t :: ((up.getLast?.toList.map (·.2)).map D.int ++ (down.head?.toList.map (·.1)).map D.int)))] = some (.val (.int (max (gend up down) t))) := by
  have k := bi_maxF (ns := 0 :: t :: (up.getLast?.toList.map (·.2) ++ down.head?.toList.map (·.1))) (by simp)
  rw [greatest_max t up down ht, List.map_cons, List.map_cons, List.map_append] at k
  exact k
theorem cutU_succ (n : Nat) (r : Row) : cutU (n + 1) r = if fu r = 0 then ([], r) else (r.take (fu r) :: (cutU n (r.drop (fu r))).1, (cutU n (r.drop (fu r))).2) := rfl
theorem cutU_more : ∀ (n : Nat) (r : Row), r.length < n → cutU (n + 1) r = cutU n r
  | 0, r, h => by omega
  | n + 1, r, h => by
    by_cases c : fu r = 0
    · rw [cutU_succ (n + 1), if_pos c, cutU_succ n, if_pos c]
    · have le := fu_le r
      rw [cutU_succ (n + 1), if_neg c, cutU_more n (r.drop (fu r)) (by rw [List.length_drop]; omega), cutU_succ n, if_neg c]
theorem cutU_fuel (r : Row) : ∀ (k n : Nat), r.length < n → cutU (n + k) r = cutU n r
  | 0, n, h => rfl
  | k + 1, n, h => by rw [show n + (k + 1) = (n + k) + 1 from rfl, cutU_more _ r (by omega), cutU_fuel r k n h]
theorem upsR_cons {r : Row} (h : 0 < fu r) : upsR r = r.take (fu r) :: upsR (r.drop (fu r)) ∧ restR r = restR (r.drop (fu r)) := by
  have le := fu_le r
  have e := cutU_fuel (r.drop (fu r)) (fu r - 1) (r.length - fu r + 1) (by rw [List.length_drop]; omega)
  rw [show r.length - fu r + 1 + (fu r - 1) = r.length by omega] at e
  unfold upsR restR
  rw [cutU, if_neg (by omega), e, List.length_drop]
  exact ⟨rfl, rfl⟩
theorem upsR_nil {r : Row} (h : fu r = 0) : upsR r = [] ∧ restR r = r := by
  unfold upsR restR
  rw [cutU, if_pos h]
  exact ⟨rfl, rfl⟩
namespace M
variable {T : String → Option Fn} {G : String → Option D} {wf : Nat}
theorem law_ups_of_eq (L : LawT T) (r : Row) (hl : r.length ≤ 1000000) (hw : r.length + 1 < wf) (n : Nat) (S : Sto) :
    callN T G wf (n + 2) "_law_ups_of" [.tup (r.map pD)] S = .ok (.val (.tup [.tup ((upsW r).map pD), .tup ((restR r).map pD)])) S := by
  rw [call_eq L.uo rfl]
  have fu_ := fun (q : Row) (S : Sto) => law_first_up_eq (G := G) (wf := wf) L.fu q n S
  have wh := fun (q : Row) (S : Sto) => law_whole_eq (G := G) (wf := wf) L.w q n S
  obtain ⟨sl', S', e2, rfl, rfl⟩ := whl_rule (c := fun sl S => (evE ⟨callN T G wf (n + 1), G, wf⟩ (.cmp .gt (.var 2) (.int 0)) sl S).truth) (b := exB ⟨callN T G wf (n + 1), G, wf⟩ b_lw_ups_of_0)
    (fun m sl S' => S' = S ∧ ∃ (U q : Row), sl = [.val (.tup (q.map pD)), .own (.lst (U.map pD)), .val (.int (fu q))] ∧ q.length = m ∧ U.length + q.length ≤ r.length ∧ U ++ upsW q = upsW r ∧ restR q = restR r)
    (fun sl S' => S' = S ∧ sl = [.val (.tup ((restR r).map pD)), .own (.lst ((upsW r).map pD)), .val (.int 0)])
    (by
      rintro m sl S' ⟨rfl, U, q, rfl, hm, hq, hu, hr⟩
      refine ⟨decide (0 < (fu q : Int)), by simp -implicitDefEqProofs, fun hc => ?_, fun hc => ?_⟩
      · have hc := of_decide_eq_false hc
        have z : fu q = 0 := by omega
        obtain ⟨h1, h2⟩ := upsR_nil z
        unfold upsW at hu
        rw [h1, List.map_nil, List.append_nil] at hu
        rw [z, ← hr, h2, hu]
        exact ⟨rfl, rfl⟩
      · have hc := of_decide_eq_true hc
        have z : 0 < fu q := by omega
        obtain ⟨h1, h2⟩ := upsR_cons z
        have le := fu_le q
        have t1 : slc (q.map pD) none (some (fu q : Int)) = (q.take (fu q)).map pD := by rw [slc_map, slc_to]
        have t2 : slc (q.map pD) (some (fu q : Int)) none = (q.drop (fu q)).map pD := by rw [slc_map, slc_from]
        have w1 := wh (q.take (fu q)) S'
        have f1 := fu_ (q.drop (fu q)) S'
        have hs : U.length < sizeLine := by unfold sizeLine; omega
        refine ⟨[.val (.tup ((q.drop (fu q)).map pD)), .own (.lst ((U ++ [whl (q.take (fu q))]).map pD)), .val (.int (fu (q.drop (fu q))))], S', (q.drop (fu q)).length, ?_, by rw [List.length_drop]; omega, rfl, U ++ [whl (q.take (fu q))], q.drop (fu q), rfl, rfl, ?_, ?_, ?_⟩
        · rw [List.map_append, List.map_cons, List.map_nil]
          generalize (q.take (fu q)).map pD = w2 at *
          generalize (q.drop (fu q)).map pD = w3 at *
          generalize q.map pD = w4 at *
          unfold b_lw_ups_of_0
          simp -implicitDefEqProofs [lstAt, chg, appD, hs, t1, t2, w1, f1]
        · rw [List.length_append, List.length_drop]
          show U.length + 1 + _ ≤ _
          omega
        · rw [← hu]
          unfold upsW
          rw [h1, List.map_cons, List.append_assoc]
          rfl
        · rw [← hr, h2]) wf r.length [.val (.tup (r.map pD)), .own (.lst []), .val (.int (fu r))] S (by omega) ⟨rfl, [], r, rfl, rfl, by simp, rfl, rfl⟩
  have e3 : exS ⟨callN T G wf (n + 1), G, wf⟩ (.whl (.cmp .gt (.var 2) (.int 0)) b_lw_ups_of_0) [.val (.tup (r.map pD)), .own (.lst []), .val (.int (fu r))] S' = .ok (.nx, [.val (.tup ((restR r).map pD)), .own (.lst ((upsW r).map pD)), .val (.int 0)]) S' := e2
  have f0 := fu_ r S'
  unfold ir_lw_ups_of
  simp -implicitDefEqProofs [f0, e3, -es_whl]
theorem law_form_of_eq (L : LawT T) (r : Row) (hl : r.length ≤ 1000000) (hw : r.length + 1 < wf) (n : Nat) (S : Sto) :
    callN T G wf (n + 3) "_law_form_of" [.tup (r.map pD)] S = .ok (.val (fD (formOf r))) S := by
  rw [call_eq L.fo rfl]
  have rl : (restR r).length ≤ r.length := by
    obtain ⟨_, e, _, _, _, h⟩ := upsG_seg r (r.length + 1) 0 (Nat.zero_le _) (by omega)
    unfold restR
    rw [List.drop_zero] at h
    rw [h, List.length_drop]
    omega
  have e1 := law_ups_of_eq (G := G) (wf := wf) L r hl hw n S
  unfold formOf
  generalize restR r = q at *
  obtain ⟨sl', S', e2, rfl, x, y, z, rfl⟩ := loop_inv0 (t := .tup (.cons (.nm 5) (.cons (.tup (.cons (.nm 6) (.cons (.nm 7) .nil))) .nil))) (b := exB ⟨callN T G wf (n + 2), G, wf⟩ b_lw_form_of_0) (items := enumD (q.map pD)) (sl := [.val (.tup (r.map pD)), .val (.tup ((upsW r).map pD)), .val (.tup (q.map pD)), .val (.int 0), .val (.int 0), .emp, .emp, .emp, .emp, .emp, .emp]) (S := S)
    (fun i sl S' => S' = S ∧ ∃ x y z, sl = [.val (.tup (r.map pD)), .val (.tup ((upsW r).map pD)), .val (.tup (q.map pD)), .val (.int (lrS q 0 i).1), .val (.int (lrS q 0 i).2), x, y, z, .emp, .emp, .emp]) ⟨rfl, _, _, _, rfl⟩ (by
      rintro i v sl S' hv ⟨rfl, x, y, z, rfl⟩
      obtain ⟨d, hd, rfl⟩ := enum_at hv
      rw [List.getElem?_map] at hd
      obtain ⟨p, hp, rfl⟩ := Option.map_eq_some_iff.mp hd
      have hp' : q.getD (0 + i) (0, 0) = p := by rw [Nat.zero_add, List.getD_eq_getElem?_getD, hp]; rfl
      refine ⟨_, [.val (.tup (r.map pD)), .val (.tup ((upsW r).map pD)), .val (.tup (q.map pD)), .val (.int (lrS q 0 (i + 1)).1), .val (.int (lrS q 0 (i + 1)).2), .val (.int (i : Int)), .val (.int p.1), .val (.int p.2), .emp, .emp, .emp], S', rfl, ?_, rfl, _, _, _, rfl⟩
      have r1 : (lrS q 0 (i + 1)).1 = (lrS q 0 i).1 + gn (q.getD (0 + i) (0, 0)) := rfl
      have r2 : (lrS q 0 (i + 1)).2 = if (lrS q 0 i).1 + gn (q.getD (0 + i) (0, 0)) = 0 then (((0 : Nat) : Int) + (i : Int) + 1) else (lrS q 0 i).2 := rfl
      rw [r1, r2, hp']
      generalize (lrS q 0 i).1 = h at *
      generalize (lrS q 0 i).2 = m at *
      have g : h + p.2 - p.1 = h + gn p := by unfold gn; omega
      unfold b_lw_form_of_0
      by_cases c : h + gn p = 0
      · simp -implicitDefEqProofs [g, c, eqD_int]
      · simp -implicitDefEqProofs [g, c, eqD_int])
  rw [enum_len, List.length_map] at e2
  have e3 : (lrS q 0 q.length).2 = (mdl q : Int) := by
    have := lrF_shift q (f := 0) (Nat.zero_le _)
    unfold lrF at this
    simpa using this
  rw [e3] at e2
  have t1 : slc (q.map pD) none (some (mdl q : Int)) = (q.take (mdl q)).map pD := by rw [slc_map, slc_to]
  have t2 : slc (q.map pD) (some (mdl q : Int)) none = (q.drop (mdl q)).map pD := by rw [slc_map, slc_from]
  have ql : (q.drop (mdl q)).length ≤ q.length := by rw [List.length_drop]; omega
  have e4 := law_turned_eq (G := G) (wf := wf) L.tu (q.drop (mdl q)) (by omega) (n + 1) S'
  have e5 := law_ups_of_eq (G := G) (wf := wf) L (tnd (q.drop (mdl q))) (by rw [tnd_len]; omega) (by rw [tnd_len]; exact Nat.lt_of_le_of_lt (Nat.succ_le_succ (Nat.le_trans ql rl)) hw) n S'
  have ul : (upsW (tnd (q.drop (mdl q)))).length ≤ 1000000 + 1 := by
    unfold upsW
    rw [← upsF_segs, List.length_map, List.length_map]
    have := upsF_len (tnd (q.drop (mdl q)))
    rw [tnd_len] at this
    omega
  have e6 := law_turned_eq (G := G) (wf := wf) L.tu (upsW (tnd (q.drop (mdl q)))) (by omega) (n + 1) S'
  have e7 := law_whole_eq (G := G) (wf := wf) L.w (q.take (mdl q)) (n + 1) S'
  have k1 : ∀ a b c d e f g h i j : Slot, evE ⟨callN T G wf (n + 2), G, wf⟩ c_lw_form_of_0 [a, .val (.tup ((upsW r).map pD)), b, c, d, e, f, g, h, i, j] S' = .ok (.fresh (.lst (((upsW r).getLast?.toList.map (·.2)).map D.int))) S' := fun a b c d e f g h i j => by
    unfold c_lw_form_of_0
    rw [ev_comp_map (items := (upsW r).getLast?.toList.map pD) sndD ?_ ?_ fun x hx => ?_]
    · rw [List.map_map, List.map_map]; rfl
    · have e : slc ((upsW r).map pD) (some (-1)) none = (upsW r).getLast?.toList.map pD := by rw [slc_map, slc_last]
      simp -implicitDefEqProofs [e]
    · rw [List.length_map]
      unfold sizeLine
      cases (upsW r).getLast? <;> simp
    · obtain ⟨p, _, rfl⟩ := List.mem_map.mp hx
      refine ⟨_, rfl, rfl, ?_⟩
      simp -implicitDefEqProofs [pD_ix1]
      rfl
  generalize hdn : tnd (upsW (tnd (q.drop (mdl q)))) = dn at *
  have k2 : ∀ a b c d e f g h i j : Slot, evE ⟨callN T G wf (n + 2), G, wf⟩ c_lw_form_of_1 [a, b, c, d, e, f, g, h, .val (.tup (dn.map pD)), i, j] S' = .ok (.fresh (.lst ((dn.head?.toList.map (·.1)).map D.int))) S' := fun a b c d e f g h i j => by
    unfold c_lw_form_of_1
    rw [ev_comp_map (items := dn.head?.toList.map pD) fstD ?_ ?_ fun x hx => ?_]
    · rw [List.map_map, List.map_map]; rfl
    · have e : slc (dn.map pD) none (some 1) = dn.head?.toList.map pD := by rw [slc_map, slc_first]
      simp -implicitDefEqProofs [e]
    · rw [List.length_map]
      unfold sizeLine
      cases dn.head? <;> simp
    · obtain ⟨p, _, rfl⟩ := List.mem_map.mp hx
      refine ⟨_, rfl, rfl, ?_⟩
      simp -implicitDefEqProofs [pD_ix0]
      rfl
  have l1 : (upsW r).getLast?.toList.length ≤ 1 := by cases (upsW r).getLast? <;> simp
  have l2 : dn.head?.toList.length ≤ 1 := by cases dn.head? <;> simp
  have k3 := bi_maxF2 (whl (q.take (mdl q))).1 (upsW r) dn (whl_fst _)
  have s1 : opBinD .add (.lst [.int 0, .int (whl (q.take (mdl q))).1]) (.lst (((upsW r).getLast?.toList.map (·.2)).map D.int)) = some (.fresh (.lst (.int 0 :: .int (whl (q.take (mdl q))).1 :: ((upsW r).getLast?.toList.map (·.2)).map D.int))) := by
    rw [ob_addL, if_pos]
    · rfl
    simp only [List.length_cons, List.length_map, List.length_nil]
    unfold sizeLine
    omega
  have s2 : opBinD .add (.lst (.int 0 :: .int (whl (q.take (mdl q))).1 :: ((upsW r).getLast?.toList.map (·.2)).map D.int)) (.lst ((dn.head?.toList.map (·.1)).map D.int)) = some (.fresh (.lst (.int 0 :: .int (whl (q.take (mdl q))).1 :: (((upsW r).getLast?.toList.map (·.2)).map D.int ++ (dn.head?.toList.map (·.1)).map D.int)))) := by
    rw [ob_addL, if_pos]
    · rfl
    simp only [List.length_cons, List.length_map, List.length_nil]
    unfold sizeLine
    omega
  unfold ir_lw_form_of fD
  dsimp only
  clear hdn ul e3 hl hw rl ql l1 l2
  generalize ((upsW r).getLast?.toList.map (·.2)).map D.int = A at *
  generalize (dn.head?.toList.map (·.1)).map D.int = B at *
  generalize gend (upsW r) dn = gg at *
  generalize whl (q.take (mdl q)) = ww at *
  generalize (upsW (tnd (q.drop (mdl q)))).map pD = w1 at *
  generalize (tnd (q.drop (mdl q))).map pD = w2 at *
  generalize (q.drop (mdl q)).map pD = w3 at *
  generalize (q.take (mdl q)).map pD = w4 at *
  generalize (upsW r).map pD = w5 at *
  generalize dn.map pD = w6 at *
  generalize r.map pD = w8 at *
  simp -implicitDefEqProofs [-ob_addL, e1, e2, e4, e5, e6, e7, k1, k2, k3, s1, s2, t1, t2, at0, pD_ix0]
end M
end Px

set_option Elab.async false
set_option linter.all false
set_option maxRecDepth 100000
set_option maxHeartbeats 1000000
/-! Px, part BF: bounds of forms; their repr. -/
namespace Px
open PySem L2
open L (pD lrF lrS NumOk PairOk RowOk)
theorem RowLe.app {B : Int} {a b : Row} (ha : RowLe B a) (hb : RowLe B b) : RowLe B (a ++ b) := fun p hp => (List.mem_append.mp hp).elim (ha p) (hb p)
theorem RowLe.take {B : Int} {a : Row} (h : RowLe B a) (k : Nat) : RowLe B (a.take k) := fun p hp => h p (List.mem_of_mem_take hp)
theorem RowLe.drop {B : Int} {a : Row} (h : RowLe B a) (k : Nat) : RowLe B (a.drop k) := fun p hp => h p (List.mem_of_mem_drop hp)
theorem RowLe.tnd {B : Int} {a : Row} (h : RowLe B a) : RowLe B (tnd a) := fun p hp => by
  obtain ⟨q, hq, rfl⟩ := List.mem_map.mp hp
  have := h q (List.mem_reverse.mp hq)
  exact ⟨this.2.2.1, this.2.2.2, this.1, this.2.1⟩
theorem RowLe.mono {B C : Int} {a : Row} (h : RowLe B a) (hc : B ≤ C) : RowLe C a := fun p hp => by
  obtain ⟨h1, h2, h3, h4⟩ := h p hp
  exact ⟨h1, by omega, h3, by omega⟩
theorem mul_step (B : Int) (n : Nat) : B * ((n + 1 : Nat) : Int) = B * (n : Int) + B := by
  rw [Int.natCast_succ, Int.mul_add, Int.mul_one]
theorem whl_le {B : Int} {r : Row} (h : RowLe B r) : (whl r).1 ≤ B * (r.length : Int) ∧ (whl r).2 ≤ B * (r.length : Int) := by
  have key : ∀ (r : Row) (c : Int × Int), RowLe B r → 0 ≤ c.1 → 0 ≤ c.2 → (r.foldl jn c).1 ≤ c.1 + B * (r.length : Int) ∧ (r.foldl jn c).2 ≤ c.2 + B * (r.length : Int) := by
    intro r
    induction r with
    | nil =>
      intro c _ _ _
      rw [List.length_nil, Int.natCast_zero, Int.mul_zero]
      exact ⟨by rw [List.foldl_nil]; omega, by rw [List.foldl_nil]; omega⟩
    | cons p r ih =>
      intro c hr h1 h2
      obtain ⟨a1, a2, a3, a4⟩ := hr p List.mem_cons_self
      have e1 : (jn c p).1 = if p.1 - gn c > c.1 then p.1 - gn c else c.1 := rfl
      have e2 : (jn c p).2 = (jn c p).1 + gn c + gn p := rfl
      unfold gn at e1 e2
      have b1 : 0 ≤ (jn c p).1 := by rw [e1]; split <;> omega
      have b2 : 0 ≤ (jn c p).2 := by rw [e2, e1]; split <;> omega
      obtain ⟨q1, q2⟩ := ih (jn c p) (fun q hq => hr q (List.mem_cons_of_mem _ hq)) b1 b2
      have c1 : (jn c p).1 ≤ c.1 + B := by rw [e1]; split <;> omega
      have c2 : (jn c p).2 ≤ c.2 + B := by rw [e2, e1]; split <;> omega
      rw [List.foldl_cons, List.length_cons, mul_step]
      constructor <;> omega
  have := key r (0, 0) h (Int.le_refl _) (Int.le_refl _)
  unfold whl
  simp only [Int.zero_add] at this
  exact this
theorem cov_len {e : Int} : ∀ (l : List (Int × Int)) (a : Int), Cov e a l → (l.length : Int) ≤ e - a
  | [], a, h => by cases h; simp
  | u :: l, a, h => by
    have := cov_len l u.2 h.2.2
    have h1 := h.1
    have h2 := h.2.1
    rw [List.length_cons]
    omega
theorem seg_le {B : Int} {r : Row} (h : RowLe B r) (u : Int × Int) : RowLe B (seg r u) := (h.drop _).take _
theorem seg_len (r : Row) (u : Int × Int) : (seg r u).length ≤ r.length := by
  unfold seg
  rw [List.length_take, List.length_drop]
  omega
theorem mul_mono {B : Int} (hB : 0 ≤ B) {m n : Nat} (h : m ≤ n) : B * (m : Int) ≤ B * (n : Int) := Int.mul_le_mul_of_nonneg_left (by omega) hB
theorem upsW_le {B : Int} (hB : 0 ≤ B) {r : Row} (h : RowLe B r) : RowLe (B * (r.length : Int)) (upsW r) := fun p hp => by
  unfold upsW at hp
  rw [← upsF_segs, List.map_map] at hp
  obtain ⟨u, _, rfl⟩ := List.mem_map.mp hp
  have h1 := whl_le (seg_le h u)
  have h2 := whl_nn (seg_le h u).nn
  have h3 := mul_mono hB (seg_len r u)
  exact ⟨h2.1, Int.le_trans h1.1 h3, h2.2, Int.le_trans h1.2 h3⟩
theorem upsW_len (r : Row) : (upsW r).length + (restR r).length ≤ r.length := by
  obtain ⟨q, e, he, h1, _, h3⟩ := upsG_seg r (r.length + 1) 0 (Nat.zero_le _) (by omega)
  have c := cov_len _ _ h1
  unfold upsW upsR restR
  rw [List.drop_zero] at q h3
  rw [h3, ← q, List.length_map, List.length_map, List.length_drop]
  omega
theorem restR_le {B : Int} {r : Row} (h : RowLe B r) : RowLe B (restR r) := by
  obtain ⟨q, e, he, h1, _, h3⟩ := upsG_seg r (r.length + 1) 0 (Nat.zero_le _) (by omega)
  unfold restR
  rw [List.drop_zero] at h3
  rw [h3]
  exact h.drop e
theorem restR_nn {r : Row} (h : Nn r) : Nn (restR r) := by
  obtain ⟨q, e, he, h1, _, h3⟩ := upsG_seg r (r.length + 1) 0 (Nat.zero_le _) (by omega)
  unfold restR
  rw [List.drop_zero] at h3
  rw [h3]
  exact h.drop e
/-- a form of numbers from 0 to a bound, of so many pairs -/
structure FormLe (B : Int) (n : Nat) (f : Form) : Prop where
  up : RowLe B f.1
  down : RowLe B f.2.2
  t0 : 0 ≤ f.2.1
  t1 : f.2.1 ≤ B
  len : f.1.length + f.2.2.length ≤ n
theorem gend_le {B : Int} (hB : 0 ≤ B) {u d : Row} (hu : RowLe B u) (hd : RowLe B d) : 0 ≤ gend u d ∧ gend u d ≤ B := by
  have h1 : lastM u ≤ B := by
    unfold lastM
    cases e : u.getLast? with
    | none => exact hB
    | some p => exact (hu p (List.mem_of_getLast? e)).2.2.2
  have h2 : firstN d ≤ B := by
    unfold firstN
    cases e : d.head? with
    | none => exact hB
    | some p => exact (hd p (List.mem_of_head? e)).2.1
  unfold gend
  omega
theorem formOf_le {B : Int} (hB : 0 ≤ B) {r : Row} (h : RowLe B r) : FormLe (B * (r.length : Int)) r.length (formOf r) := by
  have rr := restR_le h
  have l1 := upsW_len r
  have hB2 : 0 ≤ B * (r.length : Int) := Int.mul_nonneg hB (by omega)
  have d1 : RowLe (B * (r.length : Int)) (tnd (upsW (tnd ((restR r).drop (mdl (restR r)))))) := by
    have q := (upsW_le hB (rr.drop (mdl (restR r))).tnd).tnd
    rw [tnd_len, List.length_drop] at q
    exact q.mono (mul_mono hB (by omega))
  have u1 := upsW_le hB h
  have l2 := upsW_len (tnd ((restR r).drop (mdl (restR r))))
  rw [tnd_len, List.length_drop] at l2
  have g := gend_le hB2 u1 d1
  have w := whl_le (rr.take (mdl (restR r)))
  have w0 := whl_fst ((restR r).take (mdl (restR r)))
  have wl : ((restR r).take (mdl (restR r))).length ≤ r.length := by rw [List.length_take]; omega
  have w2 := mul_mono hB wl
  refine ⟨u1, d1, ?_, ?_, ?_⟩
  · show 0 ≤ max _ _
    omega
  · show max _ _ ≤ _
    omega
  · show (upsW r).length + (tnd _).length ≤ _
    rw [tnd_len]
    omega
/-! ### repr -/
theorem shw_pairB {B : Int} (hB : B < 10 ^ 44) {p : Int × Int} (h : 0 ≤ p.1 ∧ p.1 ≤ B ∧ 0 ≤ p.2 ∧ p.2 ≤ B) : Shw (pD p) 1 296 := by
  have q : ∀ x ∈ [D.int p.1, D.int p.2], Shw x 0 147 := fun x hx => by
    obtain ⟨a, b, c, d⟩ := h
    simp only [List.mem_cons, List.not_mem_nil, or_false] at hx
    rcases hx with rfl | rfl
    · exact shw_int (by omega)
    · exact shw_int (by omega)
  exact shw_tup q (Nat.le_refl 2)
theorem shw_rowB {B : Int} (hB : B < 10 ^ 44) {ps : Row} (h : RowLe B ps) : Shw (.tup (ps.map pD)) 2 (297 * ps.length) :=
  shw_tup (k := 1) (w := 296) (fun x hx => by
    obtain ⟨p, hp, rfl⟩ := List.mem_map.mp hx
    exact shw_pairB hB (h p hp)) (by rw [List.length_map]; exact Nat.le_refl _)
theorem shw_tup3 {a b c : D} {k w1 w2 w3 : Nat} (ha : Shw a k w1) (hb : Shw b k w2) (hc : Shw c k w3) : Shw (.tup [a, b, c]) (k + 1) (w1 + w2 + w3 + 3) := by
  have q := shw_tup (xs := [a, b, c]) (k := k) (w := w1 + w2 + w3) (n := 3) (fun x hx => by
    simp only [List.mem_cons, List.not_mem_nil, or_false] at hx
    rcases hx with rfl | rfl | rfl
    · exact ha.mono (Nat.le_refl _) (by omega)
    · exact hb.mono (Nat.le_refl _) (by omega)
    · exact hc.mono (Nat.le_refl _) (by omega)) (Nat.le_refl 3)
  refine ⟨q.lv, q.sh, q.cl, q.dp, ?_, q.ok⟩
  have h1 := ha.wt
  have h2 := hb.wt
  have h3 := hc.wt
  simp only [D.toP, D.toPs, PyData.weight, PyData.weightAll]
  omega
theorem shw_form {B : Int} (hB : B < 10 ^ 44) {n : Nat} {f : Form} (h : FormLe B n f) : Shw (fD f) 3 (297 * n + 150) := by
  have t0 := h.t0
  have t1 := h.t1
  have q := shw_tup3 (shw_rowB hB h.up) ((shw_int (i := f.2.1) (by omega)).mono (k' := 2) (by decide) (Nat.le_refl _)) (shw_rowB hB h.down)
  refine q.mono (Nat.le_refl _) ?_
  have := h.len
  omega
end Px

set_option Elab.async false
set_option linter.all false
set_option maxRecDepth 100000
set_option maxHeartbeats 1000000
/-! Px, part BG: the deck is made. -/
namespace Px
open PySem L2
open L (pD absI absD)
namespace M
variable {T : String → Option Fn} {G : String → Option D} {wf : Nat}
def bigD : D → Bool
  | .int i => decide (1000000000000000000 ≤ i)
  | _ => false
theorem big_filter : ∀ cs : List Int, ((cs.map D.int).filter bigD).map id = (cs.filter fun i => decide (1000000000000000000 ≤ i)).map D.int
  | [] => rfl
  | c :: cs => by
    have ih := big_filter cs
    rw [List.map_id] at ih ⊢
    rw [List.map_cons]
    by_cases h : 1000000000000000000 ≤ c
    · rw [List.filter_cons_of_pos (by show bigD (.int c) = true; exact decide_eq_true h), List.filter_cons_of_pos (by exact decide_eq_true h), List.map_cons, ih]
    · rw [List.filter_cons_of_neg (by show ¬ bigD (.int c) = true; simp [bigD, h]), List.filter_cons_of_neg (by simp [h]), ih]
theorem deck_ok (hT : T "_law_deck" = some ir_deck) {ns : List Int} (hn : ns.length ≤ 63) (n : Nat) :
    ∃ gs cs : List Int, callN T G wf (n + 1) "_law_deck" [.scr (ns.map .int)] [] = .ok (.fresh (.lst [.ref 0, .lst (cs.map .int), .int 0, .int 62])) [.lst (gs.map .int)] ∧ DkOk (2 ^ 99) [.lst (gs.map .int), .lst [.ref 0, .lst (cs.map .int), .int 0, .int 62]] := by
  have k0 : evE ⟨callN T G wf n, G, wf⟩ c_deck_0 [.val (.scr (ns.map .int)), .emp, .emp] [] = .ok (.fresh (.lst ((ns.map absI).map .int))) [] := by
    unfold c_deck_0
    rw [ev_comp_map (items := ns.map D.int) absD ?_ ?_ fun x hx => ?_]
    · rw [List.map_map, List.map_map]; rfl
    · have e : slc (ns.map D.int) none (some 63) = ns.map D.int := by
        rw [show (some (63 : Int)) = some ((63 : Nat) : Int) from rfl, slc_to, List.take_of_length_le (by rw [List.length_map]; exact hn)]
      simp -implicitDefEqProofs [e]
    · rw [List.length_map]
      exact Nat.le_trans hn (by unfold sizeLine; decide)
    · obtain ⟨i, _, rfl⟩ := List.mem_map.mp hx
      refine ⟨_, rfl, rfl, ?_⟩
      simp -implicitDefEqProofs [absD, absI]
  have ca : ∀ c ∈ ns.map absI ++ [11], 0 ≤ c := fun c hc => by
    rcases List.mem_append.mp hc with hc | hc
    · obtain ⟨i, _, rfl⟩ := List.mem_map.mp hc
      unfold absI
      split <;> omega
    · rw [List.mem_singleton] at hc
      omega
  have cne : ns.map absI ++ [11] ≠ [] := by simp
  have cl : (ns.map absI ++ [11]).length ≤ 64 := by rw [List.length_append, List.length_map]; show _ + 1 ≤ _; omega
  have s1 : opBinD .add (.lst ((ns.map absI).map .int)) (.lst [.int 11]) = some (.fresh (.lst ((ns.map absI ++ [11]).map .int))) := by
    rw [ob_addL, if_pos, List.map_append]
    · rfl
    · simp only [List.length_cons, List.length_map, List.length_nil]
      unfold sizeLine
      omega
  generalize (ns.map absI).map D.int = A at *
  generalize ns.map absI ++ [11] = cs at *
  have k1 : evE ⟨callN T G wf n, G, wf⟩ c_deck_1 [.val (.scr (ns.map .int)), .val (.lst (cs.map .int)), .emp] [] = .ok (.fresh (.lst ((cs.filter fun i => decide (1000000000000000000 ≤ i)).map .int))) [] := by
    unfold c_deck_1
    rw [ev_comp_filter (items := cs.map D.int) bigD id ?_ ?_ fun x hx => ?_]
    · rw [big_filter]
    · simp -implicitDefEqProofs
    · rw [List.length_map]
      exact Nat.le_trans cl (by unfold sizeLine; decide)
    · obtain ⟨i, _, rfl⟩ := List.mem_map.mp hx
      refine ⟨_, rfl, ?_, fun _ => rfl⟩
      simp -implicitDefEqProofs [bigD, ob_pow]
  refine ⟨cs.filter fun i => decide (1000000000000000000 ≤ i), cs, ?_, _, cs, 0, 62, rfl, fun z hz => ca z ((List.mem_filter.mp hz).1), ca, ?_, Nat.le_trans (List.length_filter_le _ _) cl, cl, Int.le_refl _, ?_, by decide, by decide⟩
  · rw [call_eq hT rfl]
    unfold ir_deck
    generalize (cs.filter fun i => decide (1000000000000000000 ≤ i)).map D.int = B at *
    generalize cs.map D.int = C at *
    simp -implicitDefEqProofs [-ob_addL, k0, k1, s1]
  · exact cne
  · rw [show (2 : Int) ^ 100 = 2 ^ 99 * 2 by decide]
    show (0 : Int) + ((2 ^ 99 : Nat) : Int) ≤ _
    decide
end M
end Px

set_option Elab.async false
set_option linter.all false
set_option maxRecDepth 100000
set_option maxHeartbeats 1000000
/-! Px, part BH: what a row brings; a form is all that is to be seen of a row. -/
namespace Px
open PySem L2
open L (pD)
/-- the greatest purse that a beginning of a row comes to -/
def rch : Row → Int → Int
  | [], p => p
  | q :: r, p => if p < q.1 then p else max p (rch r (p + gn q))
theorem rch_cons (q : Int × Int) (r : Row) (p : Int) : rch (q :: r) p = if p < q.1 then p else max p (rch r (p + gn q)) := rfl
theorem rch_ge : ∀ (r : Row) (p : Int), p ≤ rch r p
  | [], p => Int.le_refl _
  | q :: r, p => by
    unfold rch
    split <;> omega
theorem ht_cons (q : Int × Int) (r : Row) (j : Nat) : ht (q :: r) (j + 1) = gn q + ht r j := by
  unfold ht
  rw [List.take_succ_cons, List.map_cons, List.sum_cons]
theorem dp_cons (q : Int × Int) (r : Row) (h : 0 ≤ q.2) : ∀ j, dp (q :: r) (j + 1) = min (min 0 (- q.1)) (gn q + dp r j)
  | 0 => by
    show mn 0 (ht (q :: r) 0 - q.1) = min (min 0 (-q.1)) (gn q + 0)
    rw [mn_min, ht_zero]
    unfold gn
    omega
  | j + 1 => by
    show mn (dp (q :: r) (j + 1)) (ht (q :: r) (j + 1) - ((q :: r).getD (j + 1) (0, 0)).1) = _
    rw [dp_cons q r h j, ht_cons, mn_min]
    show min _ (gn q + ht r j - (r.getD j (0, 0)).1) = min _ (gn q + mn (dp r j) (ht r j - (r.getD j (0, 0)).1))
    rw [mn_min]
    omega
theorem dp_nonpos (r : Row) (j : Nat) : dp r j ≤ 0 := dp_le r (Nat.zero_le j)
theorem Nn.cons {q : Int × Int} {r : Row} (h : Nn (q :: r)) : (0 ≤ q.1 ∧ 0 ≤ q.2) ∧ Nn r := ⟨h q List.mem_cons_self, fun p hp => h p (List.mem_cons_of_mem _ hp)⟩
theorem dp_add {r : Row} (hr : Nn r) : ∀ (n k : Nat), n ≤ r.length → dp r (n + k) = min (dp r n) (ht r n + dp (r.drop n) k) := by
  induction r with
  | nil =>
    intro n k hn
    have : n = 0 := by simpa using hn
    subst this
    rw [Nat.zero_add, List.drop_nil, ht_zero]
    have := dp_nonpos [] k
    show dp [] k = min 0 (0 + dp [] k)
    omega
  | cons q r ih =>
    intro n k hn
    obtain ⟨hq, hr'⟩ := hr.cons
    cases n with
    | zero =>
      rw [Nat.zero_add, List.drop_zero, ht_zero]
      have := dp_nonpos (q :: r) k
      show _ = min 0 _
      omega
    | succ n =>
      rw [show n + 1 + k = (n + k) + 1 by omega, dp_cons q r hq.2, dp_cons q r hq.2, ht_cons, ih hr' n k (by simpa using hn), List.drop_succ_cons]
      omega
/-- nothing above K is come to -/
theorem rch_le : ∀ {r : Row} {p K : Int}, Nn r → 0 ≤ p → p ≤ K → (∀ j, j ≤ r.length → 0 ≤ p + dp r j → p + ht r j ≤ K) → rch r p ≤ K
  | [], p, K, _, _, hK, _ => hK
  | q :: r, p, K, hr, h0, hK, h => by
    obtain ⟨hq, hr'⟩ := hr.cons
    unfold rch
    by_cases c : p < q.1
    · rw [if_pos c]; exact hK
    · rw [if_neg c]
      have h1 : p + gn q ≤ K := by
        have := h 1 (by simp) (by rw [dp_cons q r hq.2 0]; show 0 ≤ p + min (min 0 (-q.1)) (gn q + 0); unfold gn; omega)
        rw [ht_cons, ht_zero] at this
        omega
      have := rch_le (r := r) (p := p + gn q) (K := K) hr' (by unfold gn; omega) h1 fun j hj hd => by
        have := h (j + 1) (by simpa using hj) (by rw [dp_cons q r hq.2]; unfold gn at *; omega)
        rw [ht_cons] at this
        omega
      omega
theorem rch_at : ∀ {r : Row} {p : Int} {j : Nat}, Nn r → j ≤ r.length → 0 ≤ p + dp r j → p + ht r j ≤ rch r p
  | r, p, 0, _, _, _ => by rw [ht_zero]; have := rch_ge r p; omega
  | [], p, j + 1, _, hj, _ => by simp at hj
  | q :: r, p, j + 1, hr, hj, hd => by
    obtain ⟨hq, hr'⟩ := hr.cons
    rw [dp_cons q r hq.2] at hd
    have := rch_at (r := r) (p := p + gn q) (j := j) hr' (by simpa using hj) (by omega)
    unfold rch
    rw [if_neg (by omega), ht_cons]
    omega
theorem whl_take (r : Row) : ∀ k, k ≤ r.length → (whl (r.take k)).1 = - dp r k ∧ gn (whl (r.take k)) = ht r k
  | 0, _ => ⟨rfl, rfl⟩
  | k + 1, hk => by
    obtain ⟨a, b⟩ := whl_take r k (by omega)
    have hg : gn (whl (r.take (k + 1))) = ht r (k + 1) := by
      rw [gn_whl, List.length_take, Nat.min_eq_left hk]
      unfold ht
      rw [List.take_take, Nat.min_self]
    refine ⟨?_, hg⟩
    show _ = - mn (dp r k) (ht r k - (r.getD k (0, 0)).1)
    rw [List.take_add_one, List.getD_eq_getElem?_getD, List.getElem?_eq_getElem (by omega)]
    rw [Option.toList_some]
    have e1 : ∀ q, whl (r.take k ++ [q]) = jn (whl (r.take k)) q := fun q => by unfold whl; rw [List.foldl_append]; rfl
    rw [e1, jn_fst, a, b, mn_min]
    show _ = - min (dp r k) (ht r k - (r[k]).1)
    split <;> omega
theorem whl_need (r : Row) : (whl r).1 = - dp r r.length := by
  have := (whl_take r r.length (Nat.le_refl _)).1
  rwa [List.take_length] at this
/-! ### the first up -/
theorem fu_low {r : Row} (h : 0 < fu r) {j : Nat} (hj : j ≤ r.length) (hd : dp r (fu r) < dp r j) : ht r j ≤ 0 := by
  rcases Int.lt_or_le 0 (ht r j) with c | c
  · rcases (fu_best h).2 j hj c with q | q <;> omega
  · exact c
theorem fu_high {r : Row} (h : 0 < fu r) {j : Nat} (hj : j ≤ fu r) : ht r j ≤ ht r (fu r) := by
  have p := fu_best h
  have le := dp_le r hj
  have l := fu_le r
  rcases Int.lt_or_le 0 (ht r j) with c | c
  · rcases p.2 j (by omega) c with q | ⟨_, q | q⟩ <;> omega
  · omega
/-- what a row brings is what its first up brings, then what is left -/
theorem rch_fu {r : Row} (hr : Nn r) (h : 0 < fu r) {p : Int} (hp : 0 ≤ p) : rch r p = if p < - dp r (fu r) then p else rch (r.drop (fu r)) (p + ht r (fu r)) := by
  have l := fu_le r
  have best := fu_best h
  split
  · rename_i c
    refine Int.le_antisymm (rch_le hr hp (Int.le_refl _) fun j hj hd => ?_) (rch_ge r p)
    have := fu_low h hj (by omega)
    omega
  · rename_i c
    have hn : p + ht r (fu r) ≤ rch r p := rch_at hr l (by omega)
    have h2 : 0 ≤ p + ht r (fu r) := by omega
    refine Int.le_antisymm (rch_le hr hp ?_ fun j hj hd => ?_) (rch_le (hr.drop _) h2 hn fun j hj hd => ?_)
    · have := rch_ge (r.drop (fu r)) (p + ht r (fu r)); omega
    · by_cases cj : j ≤ fu r
      · have := fu_high h cj
        have := rch_ge (r.drop (fu r)) (p + ht r (fu r))
        omega
      · obtain ⟨k, rfl⟩ : ∃ k, j = fu r + k := ⟨j - fu r, by omega⟩
        rw [dp_add hr _ _ l] at hd
        have := rch_at (r := r.drop (fu r)) (p := p + ht r (fu r)) (j := k) (hr.drop _) (by rw [List.length_drop]; omega) (by omega)
        rw [ht_drop] at this
        omega
    · rw [List.length_drop] at hj
      have := rch_at (r := r) (p := p) (j := fu r + j) hr (by omega) (by rw [dp_add hr _ _ l]; omega)
      rw [ht_drop]
      omega
theorem rch_flat {r : Row} (hr : Nn r) (h : fu r = 0) {p : Int} (hp : 0 ≤ p) : rch r p = p :=
  Int.le_antisymm (rch_le hr hp (Int.le_refl _) fun j hj _ => by have := fu_zero h j hj; omega) (rch_ge r p)
/-- pairs, each number above the one ahead, from a on -/
def Rise : Int → Row → Prop
  | _, [] => True
  | a, q :: u => a ≤ q.1 ∧ q.1 < q.2 ∧ Rise (q.2 + 1) u
theorem upsW_cons {r : Row} (h : 0 < fu r) : upsW r = whl (r.take (fu r)) :: upsW (r.drop (fu r)) := by
  unfold upsW
  rw [(upsR_cons h).1]
  rfl
theorem upsW_nil {r : Row} (h : fu r = 0) : upsW r = [] := by
  unfold upsW
  rw [(upsR_nil h).1]
  rfl
theorem whl_fu (r : Row) : (whl (r.take (fu r))).1 = - dp r (fu r) ∧ (whl (r.take (fu r))).2 = ht r (fu r) - dp r (fu r) := by
  obtain ⟨a, b⟩ := whl_take r (fu r) (fu_le r)
  unfold gn at b
  exact ⟨a, by omega⟩
theorem upsW_riseA : ∀ (n : Nat) (r : Row), r.length ≤ n → Nn r → ∀ a : Int, (0 < fu r → a ≤ - dp r (fu r)) → Rise a (upsW r)
  | n, r, hl, hr, a, ha => by
    rcases Nat.eq_zero_or_pos (fu r) with z | z
    · rw [upsW_nil z]; trivial
    · obtain ⟨e1, e2⟩ := whl_fu r
      have best := fu_best z
      have l := fu_le r
      rw [upsW_cons z]
      refine ⟨by rw [e1]; exact ha z, by rw [e1, e2]; omega, ?_⟩
      cases n with
      | zero => omega
      | succ n =>
        refine upsW_riseA n (r.drop (fu r)) (by rw [List.length_drop]; omega) (hr.drop _) _ fun z2 => ?_
        have best2 := fu_best z2
        have l2 := fu_le (r.drop (fu r))
        rw [List.length_drop] at l2
        rw [ht_drop] at best2
        have q := best.2 (fu r + fu (r.drop (fu r))) (by omega) (by omega)
        rw [dp_add hr _ _ l] at q
        rw [e2]
        omega
theorem upsW_rise {r : Row} (hr : Nn r) : Rise 0 (upsW r) := upsW_riseA r.length r (Nat.le_refl _) hr 0 fun _ => by have := dp_nonpos r (fu r); omega
theorem rch_upsA : ∀ (n : Nat) (r : Row), r.length ≤ n → Nn r → ∀ p : Int, 0 ≤ p → rch (upsW r) p = rch r p
  | n, r, hl, hr, p, hp => by
    rcases Nat.eq_zero_or_pos (fu r) with z | z
    · rw [upsW_nil z, rch_flat hr z hp]; rfl
    · obtain ⟨e1, e2⟩ := whl_fu r
      have best := fu_best z
      have l := fu_le r
      rw [upsW_cons z, rch_fu hr z hp]
      show (if p < (whl (r.take (fu r))).1 then p else max p (rch (upsW (r.drop (fu r))) (p + gn (whl (r.take (fu r)))))) = _
      have eg : gn (whl (r.take (fu r))) = ht r (fu r) := (whl_take r (fu r) l).2
      rw [e1, eg]
      split
      · rfl
      · cases n with
        | zero => omega
        | succ n =>
          rw [rch_upsA n (r.drop (fu r)) (by rw [List.length_drop]; omega) (hr.drop _) _ (by omega)]
          have := rch_ge (r.drop (fu r)) (p + ht r (fu r))
          omega
/-- what a row brings is what its ups bring -/
theorem rch_ups {r : Row} (hr : Nn r) {p : Int} (hp : 0 ≤ p) : rch (upsW r) p = rch r p := rch_upsA r.length r (Nat.le_refl _) hr p hp
theorem rise_stop : ∀ {u : Row} {a p : Int}, Rise a u → p < a → rch u p = p
  | [], _, _, _, _ => rfl
  | q :: u, a, p, h, hp => by
    unfold rch
    rw [if_pos (by have := h.1; omega)]
/-- rising pairs that bring the same are the same -/
theorem rise_uniq : ∀ {u v : Row} {a : Int}, 0 ≤ a → Rise a u → Rise a v → (∀ p, 0 ≤ p → rch u p = rch v p) → u = v
  | [], [], _, _, _, _, _ => rfl
  | [], s :: v, a, ha, _, hv, h => by
    have := h s.1 (by have := hv.1; omega)
    have e : rch (s :: v) s.1 = max s.1 (rch v (s.1 + gn s)) := by rw [rch_cons, if_neg (by omega)]
    rw [e] at this
    have g := rch_ge v (s.1 + gn s)
    have := hv.2.1
    have t : rch [] s.1 = s.1 := rfl
    unfold gn at *
    omega
  | q :: u, [], a, ha, hu, _, h => by
    have := h q.1 (by have := hu.1; omega)
    have e : rch (q :: u) q.1 = max q.1 (rch u (q.1 + gn q)) := by rw [rch_cons, if_neg (by omega)]
    rw [e] at this
    have g := rch_ge u (q.1 + gn q)
    have := hu.2.1
    have t : rch [] q.1 = q.1 := rfl
    unfold gn at *
    omega
  | q :: u, s :: v, a, ha, hu, hv, h => by
    obtain ⟨u1, u2, u3⟩ := hu
    obtain ⟨v1, v2, v3⟩ := hv
    have eu : ∀ p, q.1 ≤ p → rch (q :: u) p = max p (rch u (p + gn q)) := fun p hp => by rw [rch_cons, if_neg (by omega)]
    have ev : ∀ p, s.1 ≤ p → rch (s :: v) p = max p (rch v (p + gn s)) := fun p hp => by rw [rch_cons, if_neg (by omega)]
    have e1 : q.1 = s.1 := by
      rcases Int.lt_trichotomy q.1 s.1 with c | c | c
      · have k := h q.1 (by omega)
        have k2 : rch (s :: v) q.1 = q.1 := by rw [rch_cons, if_pos c]
        rw [eu q.1 (Int.le_refl _), k2] at k
        have g := rch_ge u (q.1 + gn q)
        unfold gn at *
        omega
      · exact c
      · have k := h s.1 (by omega)
        have k2 : rch (q :: u) s.1 = s.1 := by rw [rch_cons, if_pos c]
        rw [ev s.1 (Int.le_refl _), k2] at k
        have g := rch_ge v (s.1 + gn s)
        unfold gn at *
        omega
    have e2 : q.2 = s.2 := by
      have k := h q.1 (by omega)
      rw [eu q.1 (Int.le_refl _), ev q.1 (by omega)] at k
      have g1 : q.1 + gn q = q.2 := by unfold gn; omega
      have g2 : q.1 + gn s = s.2 := by unfold gn; omega
      rw [g1, g2, rise_stop u3 (by omega), rise_stop v3 (by omega)] at k
      omega
    have e3 : q = s := Prod.ext e1 e2
    subst e3
    congr 1
    refine rise_uniq (a := q.2 + 1) (by omega) u3 v3 fun p hp => ?_
    by_cases c : p < q.2
    · rw [rise_stop u3 (by omega), rise_stop v3 (by omega)]
    · have k := h (p - gn q) (by unfold gn; omega)
      rw [eu _ (by unfold gn; omega), ev _ (by unfold gn; omega), show p - gn q + gn q = p by omega] at k
      have g1 := rch_ge u p
      have g2 := rch_ge v p
      unfold gn at k
      omega
end Px

set_option Elab.async false
set_option linter.all false
set_option maxRecDepth 100000
set_option maxHeartbeats 1000000
/-! Px, part BI: a form told by what the row brings, turned about, and needs. -/
namespace Px
open PySem L2
open L (pD)
/-- what pairs gain together -/
def ris (u : Row) : Int := (u.map gn).sum
theorem ris_nil : ris [] = 0 := rfl
theorem ris_cons (q : Int × Int) (u : Row) : ris (q :: u) = gn q + ris u := by unfold ris; rw [List.map_cons, List.sum_cons]
theorem ris_app (u v : Row) : ris (u ++ v) = ris u + ris v := by unfold ris; rw [List.map_append, List.sum_append]
theorem ris_tnd (u : Row) : ris (tnd u) = - ris u := sum_tnd u
theorem gn_whl' (r : Row) : gn (whl r) = ris r := by rw [gn_whl, ht_len]; rfl
theorem upsW_nn {r : Row} (h : Nn r) : Nn (upsW r) := fun p hp => by
  unfold upsW at hp
  rw [← upsF_segs, List.map_map] at hp
  obtain ⟨u, _, rfl⟩ := List.mem_map.mp hp
  exact whl_nn (seg_nn h u)
theorem restR_cons {r : Row} (h : 0 < fu r) : restR r = restR (r.drop (fu r)) := (upsR_cons h).2
theorem restR_fu : ∀ (n : Nat) (r : Row), r.length ≤ n → fu (restR r) = 0
  | n, r, hl => by
    rcases Nat.eq_zero_or_pos (fu r) with z | z
    · rw [(upsR_nil z).2]; exact z
    · have l := fu_le r
      rw [restR_cons z]
      cases n with
      | zero => omega
      | succ n => exact restR_fu n _ (by rw [List.length_drop]; omega)
/-- the row ahead of what is left behind the ups -/
def upP (r : Row) : Row := r.take (r.length - (restR r).length)
theorem restR_len : ∀ (n : Nat) (r : Row), r.length ≤ n → (restR r).length ≤ r.length ∧ restR r = r.drop (r.length - (restR r).length) ∧ whl (upsW r) = whl (upP r) ∨ ¬ Nn r
  | n, r, hl => by
    by_cases hr : Nn r
    · refine .inl ?_
      rcases Nat.eq_zero_or_pos (fu r) with z | z
      · unfold upP
        rw [(upsR_nil z).2, upsW_nil z, Nat.sub_self]
        exact ⟨Nat.le_refl _, rfl, rfl⟩
      · have l := fu_le r
        cases n with
        | zero => omega
        | succ n =>
          rcases restR_len n (r.drop (fu r)) (by rw [List.length_drop]; omega) with ⟨a, b, c⟩ | c
          · rw [List.length_drop] at a b
            unfold upP at *
            rw [restR_cons z, upsW_cons z]
            rw [List.length_drop] at c
            refine ⟨by omega, ?_, ?_⟩
            · rw [List.drop_drop] at b
              rw [show r.length - (restR (r.drop (fu r))).length = fu r + (r.length - fu r - (restR (r.drop (fu r))).length) by omega]
              exact b
            · have e : r.take (r.length - (restR (r.drop (fu r))).length) = r.take (fu r) ++ (r.drop (fu r)).take (r.length - fu r - (restR (r.drop (fu r))).length) := by
                rw [show r.length - (restR (r.drop (fu r))).length = fu r + (r.length - fu r - (restR (r.drop (fu r))).length) by omega, List.take_add]
              have w := whl_nn (hr.take (fu r))
              have h1 : Nn [whl (r.take (fu r))] := fun q hq => by rw [List.mem_singleton] at hq; subst hq; exact w
              rw [e, whl_appN (hr.take _) ((hr.drop _).take _), ← c]
              show whl ([whl (r.take (fu r))] ++ upsW (r.drop (fu r))) = _
              rw [whl_appN h1 (upsW_nn (hr.drop _)), whl_one w.1]
          · exact absurd (hr.drop _) c
    · exact .inr hr
theorem parts_up {r : Row} (hr : Nn r) : r = upP r ++ restR r ∧ whl (upsW r) = whl (upP r) := by
  rcases restR_len r.length r (Nat.le_refl _) with ⟨a, b, c⟩ | c
  · refine ⟨?_, c⟩
    unfold upP
    conv => lhs; rw [← List.take_append_drop (r.length - (restR r).length) r]
    rw [← b]
  · exact absurd hr c
/-- rising pairs: what they need, all together -/
theorem rise_need : ∀ {u : Row} {a : Int}, 0 ≤ a → Rise a u → (whl u).1 = max 0 (lastM u) - ris u ∧ (u ≠ [] → a < lastM u)
  | [], a, _, _ => ⟨rfl, fun h => absurd rfl h⟩
  | q :: u, a, ha, h => by
    obtain ⟨h1, h2, h3⟩ := h
    have nn : ∀ {u : Row} {b : Int}, 0 ≤ b → Rise b u → Nn u := by
      intro u
      induction u with
      | nil => exact fun _ _ p hp => nomatch hp
      | cons s u ih =>
        intro b hb hu p hp
        rcases List.mem_cons.mp hp with rfl | hp
        · have := hu.1; have := hu.2.1; exact ⟨by omega, by omega⟩
        · exact ih (b := s.2 + 1) (by have := hu.1; have := hu.2.1; omega) hu.2.2 p hp
    obtain ⟨i1, i2⟩ := rise_need (u := u) (a := q.2 + 1) (by omega) h3
    have h4 : Nn [q] := fun p hp => by rw [List.mem_singleton] at hp; subst hp; exact ⟨by omega, by omega⟩
    have e : whl (q :: u) = jn q (whl u) := by
      show whl ([q] ++ u) = _
      rw [whl_appN h4 (nn (by omega) h3), whl_one (by omega)]
    rw [e, jn_fst, ris_cons, i1]
    cases u with
    | nil =>
      have e1 : lastM [q] = q.2 := rfl
      rw [e1]
      show (if max 0 0 - 0 - gn q > q.1 then max 0 0 - 0 - gn q else q.1) = max 0 q.2 - (gn q + 0) ∧ _
      unfold gn
      refine ⟨?_, fun _ => by omega⟩
      split <;> omega
    | cons s u =>
      have e1 : lastM (q :: s :: u) = lastM (s :: u) := by
        unfold lastM
        rw [List.getLast?_cons_cons]
      have i3 := i2 (by simp)
      have h5 : Nn (s :: u) := nn (by omega) h3
      have h6 : s.1 ≤ (whl (s :: u)).1 := by
        have h7 : Nn [s] := fun p hp => by rw [List.mem_singleton] at hp; subst hp; exact h5.cons.1
        have e2 : whl (s :: u) = jn s (whl u) := by
          show whl ([s] ++ u) = _
          rw [whl_appN h7 h5.cons.2, whl_one h5.cons.1.1]
        rw [e2, jn_fst]
        split <;> omega
      rw [i1] at h6
      have h8 := h3.1
      rw [e1]
      generalize lastM (s :: u) = M at *
      generalize ris (s :: u) = R at *
      refine ⟨?_, fun _ => by omega⟩
      rw [if_pos]
      · unfold gn; omega
      · unfold gn
        omega
theorem rise_nn : ∀ {u : Row} {b : Int}, 0 ≤ b → Rise b u → Nn u
  | [], _, _, _ => fun p hp => nomatch hp
  | s :: u, b, hb, hu => fun p hp => by
    rcases List.mem_cons.mp hp with rfl | hp
    · have := hu.1; have := hu.2.1; exact ⟨by omega, by omega⟩
    · exact rise_nn (b := s.2 + 1) (by have := hu.1; have := hu.2.1; omega) hu.2.2 p hp
theorem lastM_nn {u : Row} (h : Nn u) : 0 ≤ lastM u := by
  unfold lastM
  cases e : u.getLast? with
  | none => exact Int.le_refl _
  | some p => exact (h p (List.mem_of_getLast? e)).2
theorem firstN_tnd (u : Row) : firstN (tnd u) = lastM u := by
  unfold firstN lastM tnd
  rw [List.head?_map, List.head?_reverse]
  cases u.getLast? <;> rfl
/-- in a row that only sinks the row turned about is all ups -/
theorem cover_rest : ∀ (n : Nat) (r : Row), r.length ≤ n → (∀ j, j < r.length → ht r j < ht r r.length) → restR r = []
  | n, r, hl, h => by
    rcases Nat.eq_zero_or_pos (fu r) with z | z
    · rw [(upsR_nil z).2]
      cases r with
      | nil => rfl
      | cons q r =>
        have a := h 0 (by simp)
        have b := fu_zero z (q :: r).length (Nat.le_refl _)
        rw [ht_zero] at a
        omega
    · have l := fu_le r
      rw [restR_cons z]
      cases n with
      | zero => omega
      | succ n =>
        refine cover_rest n _ (by rw [List.length_drop]; omega) fun j hj => ?_
        rw [List.length_drop] at hj ⊢
        rw [ht_drop, ht_drop, show fu r + (r.length - fu r) = r.length by omega]
        have := h (fu r + j) (by omega)
        omega
theorem upP_cons {r : Row} (hr : Nn r) (h : 0 < fu r) : (upP r).length = fu r + (upP (r.drop (fu r))).length := by
  have l := fu_le r
  obtain ⟨e1, _⟩ := parts_up hr
  obtain ⟨e2, _⟩ := parts_up (hr.drop (fu r))
  have a := congrArg List.length e1
  have b := congrArg List.length e2
  rw [List.length_append] at a b
  rw [List.length_drop] at b
  rw [restR_cons h] at a
  omega
/-- no height is above that of the ups' end -/
theorem peak : ∀ (n : Nat) (r : Row), r.length ≤ n → Nn r → ∀ j, j ≤ r.length → ht r j ≤ ht r (upP r).length
  | n, r, hl, hr, j, hj => by
    rcases Nat.eq_zero_or_pos (fu r) with z | z
    · have e : (upP r).length = 0 := by
        unfold upP
        rw [(upsR_nil z).2, Nat.sub_self]; rfl
      rw [e, ht_zero]
      exact fu_zero z j hj
    · have l := fu_le r
      have ub : (upP (r.drop (fu r))).length ≤ r.length - fu r := by
        unfold upP
        rw [List.length_take, List.length_drop]; omega
      cases n with
      | zero => omega
      | succ n =>
        have ih := peak n (r.drop (fu r)) (by rw [List.length_drop]; omega) (hr.drop _)
        rw [upP_cons hr z]
        have i0 := ih 0 (Nat.zero_le _)
        rw [ht_zero, ht_drop] at i0
        by_cases c : j ≤ fu r
        · have := fu_high z c
          omega
        · have := ih (j - fu r) (by rw [List.length_drop]; omega)
          rw [ht_drop, ht_drop, show fu r + (j - fu r) = j by omega] at this
          omega
theorem ht_app (a b : Row) {j : Nat} (h : j ≤ a.length) : ht (a ++ b) j = ht a j := by
  unfold ht
  rw [List.take_append_of_le_length h]
theorem dp_app (a b : Row) {j : Nat} (h : j ≤ a.length) : dp (a ++ b) j = dp a j := by
  have h1 := (whl_take (a ++ b) j (by rw [List.length_append]; omega)).1
  have h2 := (whl_take a j h).1
  rw [List.take_append_of_le_length h, h2] at h1
  omega
/-- what stands behind and never comes above its beginning brings nothing -/
theorem rch_behind {a b : Row} (ha : Nn a) (hb : Nn b) (h : ∀ j, j ≤ b.length → ht b j ≤ 0) {p : Int} (hp : 0 ≤ p) : rch (a ++ b) p = rch a p := by
  refine Int.le_antisymm (rch_le (ha.app hb) hp (rch_ge a p) fun j hj hd => ?_) (rch_le ha hp (rch_ge _ p) fun j hj hd => ?_)
  · by_cases c : j ≤ a.length
    · rw [ht_app a b c]
      rw [dp_app a b c] at hd
      exact rch_at ha c hd
    · obtain ⟨k, rfl⟩ : ∃ k, j = a.length + k := ⟨j - a.length, by omega⟩
      rw [List.length_append] at hj
      have e := ht_drop (a ++ b) a.length k
      rw [List.drop_left, ht_app a b (Nat.le_refl _)] at e
      have d := dp_le (a ++ b) (Nat.le_add_right a.length k)
      rw [dp_app a b (Nat.le_refl _)] at d
      have := rch_at ha (Nat.le_refl a.length) (p := p) (by omega)
      have := h k (by omega)
      omega
  · rw [← ht_app a b hj]
    exact rch_at (ha.app hb) (by rw [List.length_append]; omega) (by rw [dp_app a b hj]; exact hd)
/-- A ROW'S FORM, told by what it brings, turned about, and needs -/
theorem formOf_eq {r : Row} (hr : Nn r) : formOf r = (upsW r, (whl r).1 + ris (upsW r), tnd (upsW (tnd r))) := by
  obtain ⟨e1, e2⟩ := parts_up hr
  have z := restR_fu r.length r (Nat.le_refl _)
  have hrest : Nn (restR r) := restR_nn hr
  have hup : Nn (upP r) := by unfold upP; exact hr.take _
  have top := peak r.length r (Nat.le_refl _) hr
  unfold formOf
  generalize hq : restR r = q at *
  obtain ⟨m0, m1⟩ := mdl_spec q
  have ml := mdl_le q
  generalize hm : mdl q = m at *
  -- what is left sinks
  have flat := fu_zero z
  have sink : ∀ j, 0 < j → j ≤ (q.drop m).length → ht (q.drop m) j < 0 := fun j j0 j1 => by
    rw [List.length_drop] at j1
    have a := m1 (m + j) (by omega) (by omega)
    have b := flat (m + j) (by omega)
    rw [ht_drop, m0]
    omega
  have cover : restR (tnd (q.drop m)) = [] := by
    refine cover_rest _ _ (Nat.le_refl _) fun j hj => ?_
    rw [tnd_len] at hj ⊢
    rw [ht_tnd _ (by omega), ht_tnd _ (Nat.le_refl _), Nat.sub_self, ht_zero]
    have := sink ((q.drop m).length - j) (by omega) (by omega)
    omega
  -- the row in parts
  have er : r = (upP r ++ q.take m) ++ q.drop m := by
    rw [List.append_assoc, List.take_append_drop]
    exact e1
  have hmid : Nn (q.take m) := hrest.take _
  have hlow : Nn (q.drop m) := hrest.drop _
  have hY : Nn (upP r ++ q.take m) := hup.app hmid
  -- the downs of the whole row turned about
  have down : upsW (tnd r) = upsW (tnd (q.drop m)) := by
    refine rise_uniq (Int.le_refl 0) (upsW_rise hr.tnd) (upsW_rise hlow.tnd) fun p hp => ?_
    rw [rch_ups hr.tnd hp, rch_ups hlow.tnd hp]
    have et : tnd r = tnd (q.drop m) ++ tnd (upP r ++ q.take m) := (congrArg tnd er).trans (tnd_app _ _)
    rw [et]
    refine rch_behind hlow.tnd hY.tnd (fun j hj => ?_) hp
    rw [tnd_len] at hj
    rw [ht_tnd _ hj]
    have ay : ∀ k, k ≤ (upP r ++ q.take m).length → ht r k = ht (upP r ++ q.take m) k := fun k hk => (congrArg (fun x => ht x k) er).trans (ht_app _ _ hk)
    have a1 := ay (upP r ++ q.take m).length (Nat.le_refl _)
    have a2 := ay ((upP r ++ q.take m).length - j) (by omega)
    have a3 : (upP r ++ q.take m).length = (upP r).length + m := by rw [List.length_append, List.length_take]; omega
    have a4 : ht r ((upP r).length + m) = ht r (upP r).length := by
      have := ht_drop r (upP r).length m
      have e5 : r.drop (upP r).length = q := (congrArg (fun x => x.drop (upP r).length) e1).trans List.drop_left
      rw [e5, m0] at this
      omega
    have a5 := top ((upP r ++ q.take m).length - j) (by
      have := congrArg List.length er
      rw [List.length_append] at this
      omega)
    rw [← a3] at a4
    omega
  rw [down]
  refine Prod.ext rfl (Prod.ext ?_ rfl)
  show max (gend (upsW r) (tnd (upsW (tnd (q.drop m))))) (whl (q.take m)).1 = (whl r).1 + ris (upsW r)
  -- needs
  have w0 : whl r = jn (jn (whl (upP r)) (whl (q.take m))) (whl (q.drop m)) := (congrArg whl er).trans (by rw [whl_appN hY hlow, whl_appN hup hmid])
  have g1 : gn (whl (q.take m)) = 0 := by
    rw [(whl_take q m ml).2]
    exact m0
  obtain ⟨n1, _⟩ := rise_need (Int.le_refl 0) (upsW_rise hr)
  obtain ⟨n2, _⟩ := rise_need (Int.le_refl 0) (upsW_rise hlow.tnd)
  have c1 := (parts_up hlow.tnd)
  rw [cover, List.append_nil] at c1
  have c2 : whl (upsW (tnd (q.drop m))) = sw (whl (q.drop m)) := by
    rw [c1.2, ← c1.1, whl_tnd hlow]
  have c3 : (whl (q.drop m)).1 = (whl (upsW (tnd (q.drop m)))).2 := by rw [c2]; rfl
  have c4 : (whl (upsW (tnd (q.drop m)))).2 = (whl (upsW (tnd (q.drop m)))).1 + ris (upsW (tnd (q.drop m))) := by
    rw [← gn_whl']; unfold gn; omega
  have l1 := lastM_nn (upsW_nn hr)
  have l2 := lastM_nn (upsW_nn hlow.tnd)
  have g2 : gn (whl (upP r)) = ris (upsW r) := by rw [← e2, gn_whl']
  unfold gend
  rw [firstN_tnd, w0, jn_fst, jn_fst, gn_jn, g1, g2, ← e2, n1]
  have f1 := whl_fst (q.take m)
  split <;> split <;> omega
end Px

set_option Elab.async false
set_option linter.all false
set_option maxRecDepth 100000
set_option maxHeartbeats 1000000
/-! Px, part BJ: drawn forms; forms' rows; forms one behind another. -/
namespace Px
open PySem L2
open L (pD)
theorem addP {a b : Row} (h : a.length + b.length ≤ 10000000) : opBinD .add (.tup (a.map pD)) (.tup (b.map pD)) = some (.val (.tup ((a ++ b).map pD))) := by
  rw [ob_addT, if_pos, List.map_append]
  rw [List.length_map, List.length_map]
  unfold sizeLine
  omega
theorem Shw.shaped {d : D} {k w : Nat} (h : Shw d k w) (hk : k ≤ 60) : SeqAt.shaped d.toP = true := by
  unfold SeqAt.shaped
  rw [Bool.and_eq_true]
  exact ⟨h.cl, decide_eq_true (by have := h.dp; omega)⟩
/-- where rising pairs end -/
def endR : Int → Row → Int
  | a, [] => a
  | _, q :: u => endR (q.2 + 1) u
theorem rise_snoc : ∀ {u : Row} {a : Int} {q : Int × Int}, Rise a u → endR a u ≤ q.1 → q.1 < q.2 → Rise a (u ++ [q]) ∧ endR a (u ++ [q]) = q.2 + 1
  | [], a, q, _, h1, h2 => ⟨⟨h1, h2, trivial⟩, rfl⟩
  | s :: u, a, q, h, h1, h2 => by
    obtain ⟨a1, a2⟩ := rise_snoc (u := u) (a := s.2 + 1) (q := q) h.2.2 h1 h2
    exact ⟨⟨h.1, h.2.1, a1⟩, a2⟩
/-- a form as it should be -/
structure Can (f : Form) : Prop where
  up : Rise 0 f.1
  down : Rise 0 (tnd f.2.2)
  top : gend f.1 f.2.2 ≤ f.2.1
theorem Can.nnU {f : Form} (h : Can f) : Nn f.1 := rise_nn (Int.le_refl 0) h.up
theorem Can.nnD {f : Form} (h : Can f) : Nn f.2.2 := by
  have := (rise_nn (Int.le_refl 0) h.down).tnd
  rwa [tnd_tnd] at this
theorem Can.t0 {f : Form} (h : Can f) : 0 ≤ f.2.1 := by
  have := h.top
  unfold gend at this
  omega
theorem formOf_can {r : Row} (hr : Nn r) : Can (formOf r) := by
  have e := formOf_eq hr
  refine ⟨by rw [e]; exact upsW_rise hr, by rw [e]; show Rise 0 (tnd (tnd _)); rw [tnd_tnd]; exact upsW_rise hr.tnd, ?_⟩
  unfold formOf
  exact Int.le_max_left _ _
def formRow (f : Form) : Row := f.1 ++ [(f.2.1, f.2.1)] ++ f.2.2
def rowsOf (fs : List Form) : Row := (fs.map formRow).flatten
theorem formRow_le {B : Int} {n : Nat} {f : Form} (h : FormLe B n f) : RowLe B (formRow f) ∧ (formRow f).length ≤ n + 1 := by
  refine ⟨(h.up.app fun p hp => ?_).app h.down, ?_⟩
  · rw [List.mem_singleton] at hp
    subst hp
    exact ⟨h.t0, h.t1, h.t0, h.t1⟩
  · unfold formRow
    have := h.len
    simp only [List.length_append, List.length_cons, List.length_nil]
    omega
theorem rowsOf_le {B : Int} {n : Nat} : ∀ {fs : List Form}, (∀ f ∈ fs, FormLe B n f) → RowLe B (rowsOf fs) ∧ (rowsOf fs).length ≤ (n + 1) * fs.length
  | [], _ => ⟨(fun p hp => nomatch (show p ∈ ([] : Row) from hp)), Nat.zero_le _⟩
  | f :: fs, h => by
    obtain ⟨a, b⟩ := rowsOf_le (fs := fs) fun g hg => h g (List.mem_cons_of_mem _ hg)
    obtain ⟨c, d⟩ := formRow_le (h f List.mem_cons_self)
    have e : rowsOf (f :: fs) = formRow f ++ rowsOf fs := rfl
    rw [e, List.length_append, List.length_cons, Nat.mul_succ]
    exact ⟨c.app a, by omega⟩
def fgD : D → D
  | .tup [.int a, .int b] => .int (b - a)
  | d => d
def flD : D → D
  | .tup [.int a, .int b] => .int (a - b)
  | d => d
theorem formOf_nil : formOf [] = ([], 0, []) := by
  have := formOf_eq (r := []) (fun p hp => nomatch hp)
  rw [this]
  rfl
namespace M
variable {T : String → Option Fn} {G : String → Option D} {wf : Nat}
theorem rising_ok (hT : T "_law_next" = some ir_next) (hP : T "_law_rising" = some ir_rising) (hw : 70 < wf) {c : Nat} {S : Sto} (h : DkOk (c + 200) S) {m : Int} (m0 : 0 ≤ m) (m1 : m ≤ 50) (n : Nat) :
    ∃ ps S', callN T G wf (n + 2) "_law_rising" [.ref 1, .int m] S = .ok (.val (.tup (ps.map pD))) S' ∧ RowLe 10000000000000000 ps ∧ Rise 0 ps ∧ (ps.length : Int) ≤ m ∧ DkOk c S' := by
  rw [call_eq hP rfl]
  unfold ir_rising
  obtain ⟨k, S1, e1, k0, k1, h1⟩ := next_ok (G := G) (wf := wf) hT hw (c := c + 199) h (m := m + 1) (by omega) (by omega) n
  have sk : small62 k = true := small_of k0 (by omega)
  obtain ⟨sl', S', e2, ps, x, y, z, rfl, hps, hri, hl, hb, h2⟩ := loop_inv0 (t := .nm 4) (b := exB ⟨callN T G wf (n + 1), G, wf⟩ b_rising_0) (items := rngD 0 k.toNat) (sl := [.val (.ref 1), .val (.int m), .own (.lst []), .val (.int 0), .emp, .emp, .emp]) (S := S1)
    (fun i sl S => ∃ (ps : Row) (x y z : Slot), sl = [.val (.ref 1), .val (.int m), .own (.lst (ps.map pD)), .val (.int (endR 0 ps)), x, y, z] ∧ RowLe 10000000000000000 ps ∧ Rise 0 ps ∧ ps.length = i ∧ (0 ≤ endR 0 ps ∧ endR 0 ps ≤ 1000000000010 * (i : Int)) ∧ DkOk (c + 199 - 3 * i) S)
    ⟨[], .emp, .emp, .emp, rfl, (fun p hp => nomatch hp), trivial, rfl, ⟨Int.le_refl _, Int.le_refl _⟩, h1⟩ (by
      rintro i v sl S hy ⟨ps, x, y, z, rfl, hps, hri, hl, hb, hS⟩
      obtain ⟨rfl, hi⟩ := rng_get hy
      have hi' : i ≤ 50 := by omega
      obtain ⟨w, S2, e2, w0, w1, h2⟩ := next_ok (G := G) (wf := wf) hT hw (c := c + 199 - 3 * i - 1) (hS.less (by omega)) (m := 3) (by decide) (by decide) n
      obtain ⟨q, S3, e3, q0, q1, h3⟩ := next_ok (G := G) (wf := wf) hT hw (c := c + 199 - 3 * i - 2) (h2.less (by omega)) (m := 9) (by decide) (by decide) n
      obtain ⟨u, hu, e4⟩ := atI_ints (ns := [3, 9, 1000000000000]) (k := mn 2 (q / 4)) (by rw [mn_min]; omega) (by rw [mn_min]; show _ < (3 : Int); omega)
      have hu2 : 0 < u ∧ u ≤ 1000000000000 := by simp at hu; omega
      obtain ⟨d, S4, e5, d0, d1, h4⟩ := next_ok (G := G) (wf := wf) hT hw (c := c + 199 - 3 * i - 3) (h3.less (by omega)) (m := u) hu2.1 (by omega) n
      simp only [List.map_cons, List.map_nil] at e4
      have hsz : ps.length < sizeLine := by rw [hl]; unfold sizeLine; omega
      have l4 : Nat.log2 4 < 9000 := by decide
      obtain ⟨r1, r2⟩ := rise_snoc (q := (endR 0 ps + w, endR 0 ps + w + 1 + d)) hri (by show endR 0 ps ≤ endR 0 ps + w; omega) (by show endR 0 ps + w < endR 0 ps + w + 1 + d; omega)
      have e6 := at_lastD (ps.map pD) (.tup [.int (endR 0 ps + w), .int (endR 0 ps + w + 1 + d)])
      refine ⟨_, [.val (.ref 1), .val (.int m), .own (.lst ((ps ++ [(endR 0 ps + w, endR 0 ps + w + 1 + d)]).map pD)), .val (.int (endR 0 (ps ++ [(endR 0 ps + w, endR 0 ps + w + 1 + d)]))), .val (.int (0 + (i : Int))), .val (.int (endR 0 ps + w)), .val (.int u)], S4, rfl, ?_, _, _, _, _, rfl, ?_, r1, ?_, ?_, ?_⟩
      · rw [r2]
        unfold b_rising_0
        simp -implicitDefEqProofs [-bi_min2, bi_mn, e2, e3, e4, e5, e6, lstAt, chg, appD, hsz, pD, ob_pow, l4, at1]
      · intro p hp
        rcases List.mem_append.mp hp with hp | hp
        · exact hps p hp
        · rw [List.mem_singleton] at hp
          subst hp
          exact ⟨by show 0 ≤ endR 0 ps + w; omega, by show endR 0 ps + w ≤ _; omega, by show 0 ≤ endR 0 ps + w + 1 + d; omega, by show endR 0 ps + w + 1 + d ≤ _; omega⟩
      · rw [List.length_append, hl]; rfl
      · rw [r2]
        show 0 ≤ endR 0 ps + w + 1 + d + 1 ∧ endR 0 ps + w + 1 + d + 1 ≤ _
        omega
      · exact h4.less (by omega))
  rw [rng_len] at hl h2
  refine ⟨ps, S', ?_, hps, hri, by omega, h2.less (by omega)⟩
  simp -implicitDefEqProofs [e1, sk, e2]
theorem form_okN (hT : T "_law_next" = some ir_next) (hP : T "_law_rising" = some ir_rising) {tf : Fn} (hU : T "_law_turned" = some tf) (ta : tf.ar = 1) (tn : tf.names.length = 3) (tb : tf.body = ir_turned.body) (hF : T "_law_form" = some ir_form) (hw : 70 < wf) {c : Nat} {S : Sto} (h : DkOk (c + 410) S) {m : Nat} (m1 : m ≤ 50) (n : Nat) :
    ∃ f S', callN T G wf (n + 3) "_law_form" [.ref 1, .int (m : Int)] S = .ok (.val (fD f)) S' ∧ Can f ∧ FormLe 10000000000000010 (2 * m) f ∧ DkOk c S' := by
  rw [call_eq hF rfl]
  unfold ir_form
  obtain ⟨u, S1, e1, hu, ru, lu, h1⟩ := rising_ok (G := G) (wf := wf) hT hP hw (c := c + 210) h (m := (m : Int)) (by omega) (by omega) n
  obtain ⟨d, S2, e2, hd, rd, ld, h2⟩ := rising_ok (G := G) (wf := wf) hT hP hw (c := c + 10) h1 (m := (m : Int)) (by omega) (by omega) n
  have e3 := law_turned_eqN (G := G) (wf := wf) hU ta tn tb d (by omega) (n + 1) S2
  obtain ⟨w, S3, e4, w0, w1, h3⟩ := next_ok (G := G) (wf := wf) hT hw (c := c + 9) h2 (m := 6) (by decide) (by decide) (n + 1)
  obtain ⟨k, S4, e5, k0, k1, h4⟩ := next_ok (G := G) (wf := wf) hT hw (c := c + 8) h3 (m := 2) (by decide) (by decide) (n + 1)
  obtain ⟨x, hx, e6⟩ := atI_ints (ns := [0, w]) (k := k) k0 (by show _ < (2 : Int); omega)
  have hx2 : 0 ≤ x ∧ x ≤ 5 := by simp at hx; omega
  simp only [List.map_cons, List.map_nil] at e6
  have c1 : ∀ a b e f : Slot, evE ⟨callN T G wf (n + 2), G, wf⟩ c_form_0 [a, b, .val (.tup (u.map pD)), e, f, .emp] S2 = .ok (.fresh (.lst ((u.getLast?.toList.map (·.2)).map D.int))) S2 := fun a b e f => by
    unfold c_form_0
    rw [ev_comp_map (items := u.getLast?.toList.map pD) sndD ?_ ?_ fun x hx => ?_]
    · rw [List.map_map, List.map_map]; rfl
    · have e : slc (u.map pD) (some (-1)) none = u.getLast?.toList.map pD := by rw [slc_map, slc_last]
      simp -implicitDefEqProofs [e]
    · rw [List.length_map]
      unfold sizeLine
      cases u.getLast? <;> simp
    · obtain ⟨p, _, rfl⟩ := List.mem_map.mp hx
      refine ⟨_, rfl, rfl, ?_⟩
      simp -implicitDefEqProofs [pD_ix1]
      rfl
  generalize hdn : tnd d = dn at *
  have c2 : ∀ a b e f : Slot, evE ⟨callN T G wf (n + 2), G, wf⟩ c_form_1 [a, b, e, .val (.tup (dn.map pD)), f, .emp] S2 = .ok (.fresh (.lst ((dn.head?.toList.map (·.1)).map D.int))) S2 := fun a b e f => by
    unfold c_form_1
    rw [ev_comp_map (items := dn.head?.toList.map pD) fstD ?_ ?_ fun x hx => ?_]
    · rw [List.map_map, List.map_map]; rfl
    · have e : slc (dn.map pD) none (some 1) = dn.head?.toList.map pD := by rw [slc_map, slc_first]
      simp -implicitDefEqProofs [e]
    · rw [List.length_map]
      unfold sizeLine
      cases dn.head? <;> simp
    · obtain ⟨p, _, rfl⟩ := List.mem_map.mp hx
      refine ⟨_, rfl, rfl, ?_⟩
      simp -implicitDefEqProofs [pD_ix0]
      rfl
  have k3 := bi_maxF (ns := 0 :: (u.getLast?.toList.map (·.2) ++ dn.head?.toList.map (·.1))) (by simp)
  rw [gend_list, List.map_cons, List.map_append] at k3
  have l1 : u.getLast?.toList.length ≤ 1 := by cases u.getLast? <;> simp
  have l2 : dn.head?.toList.length ≤ 1 := by cases dn.head? <;> simp
  have s1 : opBinD .add (.lst [.int 0]) (.lst ((u.getLast?.toList.map (·.2)).map D.int)) = some (.fresh (.lst (.int 0 :: (u.getLast?.toList.map (·.2)).map D.int))) := by
    rw [ob_addL, if_pos]
    · rfl
    simp only [List.length_cons, List.length_map, List.length_nil]
    unfold sizeLine
    omega
  have s2 : opBinD .add (.lst (.int 0 :: (u.getLast?.toList.map (·.2)).map D.int)) (.lst ((dn.head?.toList.map (·.1)).map D.int)) = some (.fresh (.lst (.int 0 :: ((u.getLast?.toList.map (·.2)).map D.int ++ (dn.head?.toList.map (·.1)).map D.int)))) := by
    rw [ob_addL, if_pos]
    · rfl
    simp only [List.length_cons, List.length_map, List.length_nil]
    unfold sizeLine
    omega
  have hdt : RowLe 10000000000000000 dn := by rw [← hdn]; exact hd.tnd
  have g := gend_le (by decide) hu hdt
  refine ⟨(u, gend u dn + x, dn), S4, ?_, ⟨ru, by show Rise 0 (tnd dn); rw [← hdn, tnd_tnd]; exact rd, by show gend u dn ≤ gend u dn + x; omega⟩, ⟨hu.mono (by decide), hdt.mono (by decide), by show 0 ≤ gend u dn + x; omega, by show gend u dn + x ≤ _; omega, ?_⟩, h4.less (by omega)⟩
  · unfold fD
    dsimp only
    clear g hdt hdn l1 l2 lu ld
    generalize (u.getLast?.toList.map (·.2)).map D.int = A at *
    generalize (dn.head?.toList.map (·.1)).map D.int = B at *
    generalize u.map pD = w1 at *
    generalize dn.map pD = w2 at *
    generalize d.map pD = w3 at *
    simp -implicitDefEqProofs [-ob_addL, e1, e2, e3, e4, e5, e6, c1, c2, k3, s1, s2]
  · show u.length + dn.length ≤ _
    rw [← hdn, tnd_len]
    omega
theorem form_ok (hT : T "_law_next" = some ir_next) (hP : T "_law_rising" = some ir_rising) (hU : T "_law_turned" = some ir_turned) (hF : T "_law_form" = some ir_form) (hw : 70 < wf) {c : Nat} {S : Sto} (h : DkOk (c + 410) S) {m : Nat} (m1 : m ≤ 50) (n : Nat) :
    ∃ f S', callN T G wf (n + 3) "_law_form" [.ref 1, .int (m : Int)] S = .ok (.val (fD f)) S' ∧ Can f ∧ FormLe 10000000000000010 (2 * m) f ∧ DkOk c S' :=
  form_okN hT hP hU rfl rfl rfl hF hw h m1 n
theorem form_row_eq (hT : T "form_row" = some ir_form_row) (f : Form) (hl : f.1.length + f.2.2.length ≤ 100000) (n : Nat) (S : Sto) : callN T G wf (n + 1) "form_row" [fD f] S = .ok (.val (.tup ((formRow f).map pD))) S := by
  rw [call_eq hT rfl]
  have a1 := addP (a := f.1) (b := [(f.2.1, f.2.1)]) (by show _ + 1 ≤ _; omega)
  have a2 := addP (a := f.1 ++ [(f.2.1, f.2.1)]) (b := f.2.2) (by rw [List.length_append]; show _ + 1 + _ ≤ _; omega)
  have e : [(f.2.1, f.2.1)].map pD = [.tup [.int f.2.1, .int f.2.1]] := rfl
  rw [e] at a1
  unfold ir_form_row fD formRow
  generalize (f.1 ++ [(f.2.1, f.2.1)] ++ f.2.2).map pD = w1 at *
  generalize (f.1 ++ [(f.2.1, f.2.1)]).map pD = w2 at *
  generalize f.1.map pD = w3 at *
  generalize f.2.2.map pD = w4 at *
  simp -implicitDefEqProofs [-ob_addT, a1, a2]
theorem then_form_eq (C : CutT T) (hR : T "form_row" = some ir_form_row) (hT : T "then_form" = some ir_then_form) (hN : G "NOTHING" = some (fD ([], 0, []))) {B : Int} (hB : B < 10 ^ 44) {k : Nat} (fs : List Form) (hf : ∀ f ∈ fs, FormLe B k f)
    (hk : k ≤ 10000) (hl : (k + 1) * fs.length ≤ 10000) (hw : (k + 1) * fs.length + 1 < wf) (n : Nat) (S : Sto) : callN T G wf (n + 6) "then_form" [.tup (fs.map fD)] S = .ok (.val (fD (formOf (rowsOf fs)))) S := by
  rw [call_eq hT rfl]
  obtain ⟨rl, rn⟩ := rowsOf_le hf
  have sh := shw_tup (k := 3) (w := 297 * k + 150) (xs := fs.map fD) (n := fs.length) (fun x hx => by
    obtain ⟨f, h, rfl⟩ := List.mem_map.mp hx
    exact shw_form hB (hf f h)) (by rw [List.length_map]; exact Nat.le_refl _)
  have q : eqD (.tup (fs.map fD)) (.tup []) = some fs.isEmpty := by
    unfold eqD
    rw [if_pos ⟨sh.shaped (by decide), by decide⟩]
    cases fs <;> rfl
  cases fs with
  | nil =>
    have e : rowsOf [] = [] := rfl
    rw [e, formOf_nil]
    unfold ir_then_form
    simp only [List.map_nil, List.isEmpty_nil] at q
    simp -implicitDefEqProofs [q, hN]
  | cons f0 fs0 =>
    generalize hfs : f0 :: fs0 = fs at *
    have ne : fs.isEmpty = false := by rw [← hfs]; rfl
    rw [ne] at q
    obtain ⟨sl', S', e1, rfl, x, rfl⟩ := loop_inv0 (t := .nm 2) (b := exB ⟨callN T G wf (n + 5), G, wf⟩ b_then_form_0) (items := fs.map fD) (sl := [.val (.tup (fs.map fD)), .val (.tup []), .emp]) (S := S)
      (fun i sl S' => S' = S ∧ ∃ x, sl = [.val (.tup (fs.map fD)), .val (.tup ((rowsOf (fs.take i)).map pD)), x]) ⟨rfl, _, rfl⟩ (by
        rintro i v sl S' hv ⟨rfl, x, rfl⟩
        rw [List.getElem?_map] at hv
        obtain ⟨f, hf1, rfl⟩ := Option.map_eq_some_iff.mp hv
        have hfm := hf f (List.mem_of_getElem? hf1)
        have e2 : rowsOf (fs.take (i + 1)) = rowsOf (fs.take i) ++ formRow f := by
          rw [List.take_add_one, hf1, Option.toList_some]
          unfold rowsOf
          rw [List.map_append, List.flatten_append]
          simp
        obtain ⟨_, tl⟩ := rowsOf_le (fs := fs.take i) fun g hg => hf g (List.mem_of_mem_take hg)
        have tl2 : (rowsOf (fs.take i)).length ≤ 10000 := Nat.le_trans tl (Nat.le_trans (Nat.mul_le_mul_left _ (by rw [List.length_take]; omega)) hl)
        have fl := (formRow_le hfm).2
        have e3 := form_row_eq (G := G) (wf := wf) hR f (by have := hfm.len; omega) (n + 4) S'
        have e4 := addP (a := rowsOf (fs.take i)) (b := formRow f) (by omega)
        refine ⟨_, [.val (.tup (fs.map fD)), .val (.tup ((rowsOf (fs.take (i + 1))).map pD)), .val (fD f)], S', rfl, ?_, rfl, _, rfl⟩
        rw [e2]
        unfold b_then_form_0
        generalize (rowsOf (fs.take i) ++ formRow f).map pD = w1 at *
        generalize (rowsOf (fs.take i)).map pD = w2 at *
        simp -implicitDefEqProofs [-ob_addT, e3, e4])
    rw [List.length_map, List.take_length] at e1
    have e2 := form_of_eq (G := G) (wf := wf) C (rowsOf fs) rl.nn (by omega) (by omega) n S'
    unfold ir_then_form
    simp -implicitDefEqProofs [q, e1, e2]
end M
end Px

set_option Elab.async false
set_option linter.all false
set_option maxRecDepth 100000
set_option maxHeartbeats 1000000
/-! Px, part BK: some forms, drawn. -/
namespace Px
open PySem L2
open L (pD)
theorem ob_mulL (x : List D) (j : Int) : opBinD .mul (.lst x) (.int j) = if -(2 ^ 63) ≤ j ∧ j < 2 ^ 63 ∧ x.length * j.toNat ≤ sizeLine then some (.fresh (.lst (List.replicate j.toNat x).flatten)) else none := rfl
structure DrawT (T : String → Option Fn) : Prop where
  nx : T "_law_next" = some M.ir_next
  pa : T "_law_path" = some M.ir_path
  nu : T "_law_number" = some M.ir_number
  ro : T "_law_row" = some M.ir_row
structure SomeT (T : String → Option Fn) : Prop extends DrawT T, LawT T where
  ri : T "_law_rising" = some M.ir_rising
  fm : T "_law_form" = some M.ir_form
  so : T "_law_some" = some M.ir_some
theorem FormLe.mono {B C : Int} {m n : Nat} {f : Form} (h : FormLe B m f) (hb : B ≤ C) (hn : m ≤ n) : FormLe C n f :=
  ⟨h.up.mono hb, h.down.mono hb, h.t0, Int.le_trans h.t1 hb, Nat.le_trans h.len hn⟩
/-- a form as the laws draw them -/
def Drawn (f : Form) : Prop := Can f ∧ FormLe 100000000000000000 8 f
namespace M
variable {T : String → Option Fn} {G : String → Option D} {wf : Nat}
theorem some_ok (D : SomeT T) (hw : 70 < wf) {c : Nat} {S : Sto} (h : DkOk (c + 8000) S) {m : Int} (m0 : 0 ≤ m) (m1 : m ≤ 10) (n : Nat) :
    ∃ (fs : List Form) (S' : Sto), callN T G wf (n + 4) "_law_some" [.ref 1, .int m] S = .ok (.val (.tup (fs.map fD))) S' ∧ (∀ f ∈ fs, Drawn f) ∧ (fs.length : Int) ≤ m + 1 ∧ DkOk c S' := by
  rw [call_eq D.so rfl]
  unfold ir_some
  obtain ⟨k, S1, e1, k0, k1, h1⟩ := next_ok (G := G) (wf := wf) D.nx hw (c := c + 7999) h (m := m + 1) (by omega) (by omega) (n + 2)
  have sk : small62 k = true := small_of k0 (by omega)
  obtain ⟨sl', S2, e2, fs, x, rfl, hfs, hl, h2⟩ := loop_inv0 (t := .nm 3) (b := exB ⟨callN T G wf (n + 3), G, wf⟩ b_some_0) (items := rngD 0 k.toNat) (sl := [.val (.ref 1), .val (.int m), .own (.lst []), .emp]) (S := S1)
    (fun i sl S => ∃ (fs : List Form) (x : Slot), sl = [.val (.ref 1), .val (.int m), .own (.lst (fs.map fD)), x] ∧ (∀ f ∈ fs, Drawn f) ∧ fs.length = i ∧ DkOk (c + 7999 - 711 * i) S)
    ⟨[], .emp, rfl, (fun f hf => nomatch hf), rfl, h1⟩ (by
      rintro i v sl S hy ⟨fs, x, rfl, hfs, hl, hS⟩
      obtain ⟨rfl, hi⟩ := rng_get hy
      have hi' : i ≤ 10 := by omega
      obtain ⟨f, S2, e2, cf, lf, h2⟩ := form_ok (G := G) (wf := wf) D.nx D.ri D.tu D.fm hw (c := c + 7999 - 711 * i - 410) (hS.less (by omega)) (m := 4) (by decide) n
      obtain ⟨r, S3, e3, hr, lr, h3⟩ := row_ok (G := G) (wf := wf) D.nx D.pa D.nu D.ro hw (c := c + 7999 - 711 * i - 710) (h2.less (by omega)) (m := 8) (by decide) (by decide) n
      have e4 := law_form_of_eq (G := G) (wf := wf) D.toLawT r (by omega) (by omega) n S3
      obtain ⟨q, S5, e5, q0, q1, h5⟩ := next_ok (G := G) (wf := wf) D.nx hw (c := c + 7999 - 711 * i - 711) (h3.less (by omega)) (m := 2) (by decide) (by decide) (n + 2)
      have hsz : fs.length < sizeLine := by rw [hl]; unfold sizeLine; omega
      have df : Drawn f := ⟨cf, lf.mono (by decide) (by decide)⟩
      have dr : Drawn (formOf r) := ⟨formOf_can hr.nn, (formOf_le (by decide) hr).mono (by omega) (by omega)⟩
      obtain ⟨g, dg, e6⟩ : ∃ g : Form, Drawn g ∧ atI [fD f, fD (formOf r)] q = some (fD g) := by
        rcases (by omega : q = 0 ∨ q = 1) with rfl | rfl
        · exact ⟨f, df, rfl⟩
        · exact ⟨formOf r, dr, rfl⟩
      refine ⟨_, [.val (.ref 1), .val (.int m), .own (.lst ((fs ++ [g]).map fD)), .val (.int (0 + (i : Int)))], S5, rfl, ?_, _, _, rfl, ?_, ?_, h5.less (by omega)⟩
      · rw [List.map_append, List.map_cons, List.map_nil]
        rw [show (((4 : Nat) : Int)) = 4 from rfl] at e2
        generalize fD f = w1 at *
        generalize fD (formOf r) = w2 at *
        generalize fD g = w3 at *
        unfold b_some_0
        simp -implicitDefEqProofs [e2, e3, e4, e5, e6, lstAt, chg, appD, hsz]
      · intro p hp
        rcases List.mem_append.mp hp with hp | hp
        · exact hfs p hp
        · rw [List.mem_singleton] at hp
          subst hp
          exact dg
      · rw [List.length_append, hl]; rfl)
  rw [rng_len] at hl h2
  obtain ⟨q, S3, e3, q0, q1, h3⟩ := next_ok (G := G) (wf := wf) D.nx hw (c := c) (h2.less (by omega)) (m := 4) (by decide) (by decide) (n + 2)
  have e4 : slc (fs.map fD) (some (-1)) none = fs.getLast?.toList.map fD := by
    rw [slc_last, List.getLast?_map]
    cases fs.getLast? <;> rfl
  have ll : fs.getLast?.toList.length ≤ 1 := by cases fs.getLast? <;> simp
  have lm : ∀ f ∈ fs.getLast?.toList, f ∈ fs := fun f hf => by
    rw [Option.mem_toList] at hf
    exact List.mem_of_getLast? hf
  have e5 : opBinD .mul (.lst (fs.getLast?.toList.map fD)) (.int (if (q == 0) = true then 1 else 0)) = some (.fresh (.lst ((if q = 0 then fs.getLast?.toList else []).map fD))) := by
    by_cases hq : q = 0
    · subst hq
      have t : (if ((0 : Int) == 0) = true then (1 : Int) else 0) = 1 := rfl
      rw [t, ob_mulL, if_pos, if_pos rfl]
      · simp
      · refine ⟨by decide, by decide, ?_⟩
        rw [List.length_map]
        unfold sizeLine
        simp
        omega
    · have t : (if (q == 0) = true then (1 : Int) else 0) = 0 := if_neg (by simpa using hq)
      rw [t, ob_mulL, if_pos, if_neg hq]
      · simp
      · refine ⟨by decide, by decide, ?_⟩
        simp
  refine ⟨fs ++ (if q = 0 then fs.getLast?.toList else []), S3, ?_, ?_, ?_, h3⟩
  · have e6 : opBinD .add (.lst (fs.map fD)) (.lst ((if q = 0 then fs.getLast?.toList else []).map fD)) = some (.fresh (.lst ((fs ++ if q = 0 then fs.getLast?.toList else []).map fD))) := by
      rw [ob_addL, if_pos, List.map_append]
      rw [List.length_map, List.length_map]
      unfold sizeLine
      split
      · omega
      · simp; omega
    generalize (fs ++ if q = 0 then fs.getLast?.toList else []).map fD = w1 at *
    generalize (if q = 0 then fs.getLast?.toList else []).map fD = w2 at *
    generalize fs.getLast?.toList.map fD = w3 at *
    simp only [beq_iff_eq] at e5
    simp -implicitDefEqProofs [-ob_addL, e1, sk, e2, e3, e4, e5, e6, eqD_int]
  · intro f hf
    rcases List.mem_append.mp hf with hf | hf
    · exact hfs f hf
    · by_cases hq : q = 0
      · rw [if_pos hq] at hf
        exact hfs f (lm f hf)
      · rw [if_neg hq] at hf
        exact nomatch hf
  · rw [List.length_append]
    split
    · omega
    · simp; omega
end M
end Px

set_option Elab.async false
set_option linter.all false
set_option maxRecDepth 100000
set_option maxHeartbeats 1000000
/-! Px, part BL: a form tells all that a row brings; rows behind one another. -/
namespace Px
def need (r : Row) : Int := (whl r).1
theorem need_nil : need [] = 0 := rfl
theorem need_nn (r : Row) : 0 ≤ need r := whl_fst r
theorem need_one {q : Int × Int} (h : 0 ≤ q.1) : need [q] = q.1 := by unfold need; rw [whl_one h]
theorem whl_eq (r : Row) : whl r = (need r, need r + ris r) := by
  have := gn_whl' r
  unfold gn at this
  exact Prod.ext rfl (by show (whl r).2 = (whl r).1 + ris r; omega)
theorem need_app {a b : Row} (ha : Nn a) (hb : Nn b) : need (a ++ b) = max (need a) (need b - ris a) := by
  unfold need
  rw [whl_appN ha hb, whl_eq a, whl_eq b]
  unfold jn gn
  dsimp only
  split <;> omega
theorem need_cons {q : Int × Int} {a : Row} (h : Nn (q :: a)) : need (q :: a) = max q.1 (need a - gn q) := by
  obtain ⟨h1, h2⟩ := h.cons
  have := need_app (a := [q]) (b := a) (fun p hp => by rw [List.mem_singleton] at hp; subst hp; exact h1) h2
  rw [need_one h1.1, ris_cons, ris_nil] at this
  rw [show q :: a = [q] ++ a from rfl, this]
  omega
theorem need_tnd {r : Row} (h : Nn r) : need (tnd r) = need r + ris r := by
  unfold need
  rw [whl_tnd h, whl_eq r]
  rfl
theorem rch_app : ∀ {a b : Row} {p : Int}, Nn a → Nn b → 0 ≤ p → rch (a ++ b) p = if p < need a then rch a p else max (rch a p) (rch b (p + ris a))
  | [], b, p, ha, hb, hp => by
    rw [need_nil, if_neg (by omega), ris_nil, List.nil_append, Int.add_zero]
    have := rch_ge b p
    show _ = max p _
    omega
  | q :: a, b, p, ha, hb, hp => by
    obtain ⟨h1, h2⟩ := ha.cons
    rw [List.cons_append, need_cons ha, rch_cons, rch_cons, ris_cons]
    by_cases c : p < q.1
    · rw [if_pos c, if_pos c, if_pos (by omega)]
    · rw [if_neg c, if_neg c, rch_app (a := a) (b := b) (p := p + gn q) h2 hb (by unfold gn; omega)]
      by_cases d : p + gn q < need a
      · rw [if_pos d, if_pos (by omega)]
      · rw [if_neg d, if_neg (by omega), Int.add_assoc]
        omega
theorem rise_gn : ∀ {u : Row} {a : Int}, Rise a u → ∀ q ∈ u, 0 < gn q
  | [], _, _, _, h => nomatch h
  | s :: u, a, h, q, hq => by
    rcases List.mem_cons.mp hq with rfl | hq
    · have := h.2.1
      unfold gn
      omega
    · exact rise_gn h.2.2 q hq
theorem ht_nonpos : ∀ {r : Row}, (∀ q ∈ r, gn q ≤ 0) → ∀ j, ht r j ≤ 0
  | _, _, 0 => by rw [ht_zero]; exact Int.le_refl _
  | [], _, j + 1 => by unfold ht; rw [List.take_nil]; exact Int.le_refl _
  | q :: r, h, j + 1 => by
    rw [ht_cons]
    have h1 := h q List.mem_cons_self
    have h2 := ht_nonpos (r := r) (fun s hs => h s (List.mem_cons_of_mem _ hs)) j
    omega
theorem tnd_gn {u : Row} (h : ∀ q ∈ u, 0 < gn q) : ∀ q ∈ tnd u, gn q ≤ 0 := fun q hq => by
  obtain ⟨s, hs, rfl⟩ := List.mem_map.mp hq
  have := h s (List.mem_reverse.mp hs)
  unfold gn sw at *
  dsimp only
  omega
theorem Can.nn {f : Form} (h : Can f) : Nn (formRow f) :=
  (h.nnU.app fun p hp => by rw [List.mem_singleton] at hp; subst hp; exact ⟨h.t0, h.t0⟩).app h.nnD
theorem one_nn {t : Int} (h : 0 ≤ t) : Nn [(t, t)] := fun p hp => by rw [List.mem_singleton] at hp; subst hp; exact ⟨h, h⟩
theorem Can.rch {f : Form} (h : Can f) {p : Int} (hp : 0 ≤ p) : rch (formRow f) p = rch f.1 p := by
  unfold formRow
  rw [List.append_assoc]
  refine rch_behind h.nnU ((one_nn h.t0).app h.nnD) (fun j _ => ht_nonpos (fun q hq => ?_) j) hp
  rcases List.mem_append.mp hq with hq | hq
  · rw [List.mem_singleton] at hq
    subst hq
    unfold gn
    dsimp only
    omega
  · have := tnd_gn (rise_gn h.down)
    rw [tnd_tnd] at this
    exact this q hq
def turnF (f : Form) : Form := (tnd f.2.2, f.2.1, tnd f.1)
theorem turnF_turnF (f : Form) : turnF (turnF f) = f := by
  unfold turnF
  rw [tnd_tnd, tnd_tnd]
theorem gend_tnd (u d : Row) : gend (tnd d) (tnd u) = gend u d := by
  unfold gend
  rw [firstN_tnd, ← firstN_tnd (tnd d), tnd_tnd]
  omega
theorem Can.turn {f : Form} (h : Can f) : Can (turnF f) :=
  ⟨h.down, by show Rise 0 (tnd (tnd f.1)); rw [tnd_tnd]; exact h.up, by show gend (tnd f.2.2) (tnd f.1) ≤ f.2.1; rw [gend_tnd]; exact h.top⟩
theorem tnd_formRow (f : Form) : tnd (formRow f) = formRow (turnF f) := by
  unfold formRow turnF
  rw [tnd_app, tnd_app, tnd_one, List.append_assoc]
  rfl
theorem Can.need {f : Form} (h : Can f) : need (formRow f) = f.2.1 - ris f.1 := by
  have t := h.top
  have t0 := h.t0
  unfold gend at t
  obtain ⟨u1, _⟩ := rise_need (Int.le_refl 0) h.up
  obtain ⟨d1, _⟩ := rise_need (Int.le_refl 0) h.down
  have d2 : Px.need f.2.2 = max 0 (firstN f.2.2) := by
    have e := need_tnd h.nnD.tnd
    rw [tnd_tnd] at e
    have e2 : Px.need (tnd f.2.2) = _ := d1
    rw [← firstN_tnd, tnd_tnd] at e2
    omega
  have u2 : Px.need f.1 = _ := u1
  unfold formRow
  rw [List.append_assoc, need_app h.nnU ((one_nn t0).app h.nnD), need_app (one_nn t0) h.nnD, need_one t0, d2, u2, ris_cons, ris_nil]
  unfold gn
  dsimp only
  omega
theorem ris_form {r : Row} (hr : Nn r) : ris r = ris (upsW r) - ris (upsW (tnd r)) := by
  have key : ∀ s : Row, Nn s → ht s (upP s).length = ris (upsW s) ∧ (upP s).length ≤ s.length := fun s hs => by
    obtain ⟨a, b⟩ := parts_up hs
    have l : (upP s).length ≤ s.length := by unfold upP; rw [List.length_take]; omega
    refine ⟨?_, l⟩
    rw [← gn_whl', b, gn_whl']
    unfold ht ris
    have t : (upP s ++ restR s).take (upP s).length = upP s := List.take_left' rfl
    rw [← a] at t
    rw [t]
  obtain ⟨a1, a2⟩ := key r hr
  obtain ⟨b1, b2⟩ := key (tnd r) hr.tnd
  have p1 := peak r.length r (Nat.le_refl _) hr
  have p2 := peak (tnd r).length (tnd r) (Nat.le_refl _) hr.tnd
  rw [tnd_len] at b2 p2
  have q1 := p1 (r.length - (upP (tnd r)).length) (by omega)
  have q2 := p2 (r.length - (upP r).length) (by omega)
  have e1 := ht_tnd r b2
  have e2 := ht_tnd r (k := r.length - (upP r).length) (by omega)
  rw [show r.length - (r.length - (upP r).length) = (upP r).length by omega] at e2
  have e3 : ht r r.length = ris r := by unfold ht ris; rw [List.take_length]
  omega
theorem formOf_tnd {r : Row} (hr : Nn r) : formOf (tnd r) = turnF (formOf r) := by
  have e := ris_form hr
  have n := need_tnd hr
  unfold need at n
  rw [formOf_eq hr, formOf_eq hr.tnd, tnd_tnd]
  unfold turnF
  dsimp only
  rw [tnd_tnd, show (whl (tnd r)).1 + ris (upsW (tnd r)) = (whl r).1 + ris (upsW r) by omega]
theorem formOf_ext {a b : Row} (ha : Nn a) (hb : Nn b) (h1 : ∀ p, 0 ≤ p → rch a p = rch b p) (h2 : ∀ p, 0 ≤ p → rch (tnd a) p = rch (tnd b) p) (h3 : need a = need b) : formOf a = formOf b := by
  have u := rise_uniq (Int.le_refl 0) (upsW_rise ha) (upsW_rise hb) fun p hp => by rw [rch_ups ha hp, rch_ups hb hp]; exact h1 p hp
  have d := rise_uniq (Int.le_refl 0) (upsW_rise ha.tnd) (upsW_rise hb.tnd) fun p hp => by rw [rch_ups ha.tnd hp, rch_ups hb.tnd hp]; exact h2 p hp
  unfold need at h3
  rw [formOf_eq ha, formOf_eq hb, u, d, h3]
structure Same (a b : Row) : Prop where
  nl : Nn a
  nr : Nn b
  rc : ∀ p, 0 ≤ p → rch a p = rch b p
  rt : ∀ p, 0 ≤ p → rch (tnd a) p = rch (tnd b) p
  nd : need a = need b
  ri : ris a = ris b
theorem same_of {a b : Row} (ha : Nn a) (hb : Nn b) (h : formOf a = formOf b) : Same a b := by
  rw [formOf_eq ha, formOf_eq hb] at h
  have h1 : upsW a = upsW b := congrArg Prod.fst h
  have h2 : tnd (upsW (tnd a)) = tnd (upsW (tnd b)) := congrArg (·.2.2) h
  have h3 : (whl a).1 + ris (upsW a) = (whl b).1 + ris (upsW b) := congrArg (·.2.1) h
  have h4 : upsW (tnd a) = upsW (tnd b) := by have := congrArg tnd h2; rwa [tnd_tnd, tnd_tnd] at this
  refine ⟨ha, hb, fun p hp => by rw [← rch_ups ha hp, h1, rch_ups hb hp], fun p hp => by rw [← rch_ups ha.tnd hp, h4, rch_ups hb.tnd hp], ?_, by rw [ris_form ha, ris_form hb, h1, h4]⟩
  show (whl a).1 = (whl b).1
  rw [h1] at h3
  omega
theorem Same.form {a b : Row} (h : Same a b) : formOf a = formOf b := formOf_ext h.nl h.nr h.rc h.rt h.nd
theorem Same.app {a b c d : Row} (h : Same a b) (g : Same c d) : Same (a ++ c) (b ++ d) := by
  have n1 := need_tnd h.nl
  have n2 := need_tnd h.nr
  have n3 := need_tnd g.nl
  have n4 := need_tnd g.nr
  refine ⟨h.nl.app g.nl, h.nr.app g.nr, fun p hp => ?_, fun p hp => ?_, ?_, ?_⟩
  · rw [rch_app h.nl g.nl hp, rch_app h.nr g.nr hp, h.nd, h.rc p hp, h.ri]
    by_cases c : p < need b
    · rw [if_pos c, if_pos c]
    · rw [if_neg c, if_neg c]
      have := need_nn (tnd b)
      rw [g.rc _ (by omega)]
  · rw [tnd_app, tnd_app, rch_app g.nl.tnd h.nl.tnd hp, rch_app g.nr.tnd h.nr.tnd hp, g.rt p hp, ris_tnd, ris_tnd, n3, n4, g.nd, g.ri]
    by_cases c : p < need d + ris d
    · rw [if_pos c, if_pos c]
    · rw [if_neg c, if_neg c]
      have := need_nn d
      rw [h.rt _ (by omega)]
  · rw [need_app h.nl g.nl, need_app h.nr g.nr, h.nd, g.nd, h.ri]
  · rw [ris_app, ris_app, h.ri, g.ri]
theorem Same.refl {a : Row} (h : Nn a) : Same a a := ⟨h, h, fun _ _ => rfl, fun _ _ => rfl, rfl, rfl⟩
theorem formOf_formRow {f : Form} (h : Can f) : formOf (formRow f) = f := by
  have u := rise_uniq (Int.le_refl 0) (upsW_rise h.nn) h.up fun p hp => by rw [rch_ups h.nn hp, h.rch hp]
  have d := rise_uniq (Int.le_refl 0) (upsW_rise h.turn.nn) h.down fun p hp => by rw [rch_ups h.turn.nn hp, h.turn.rch hp]; rfl
  have n := h.need
  unfold need at n
  rw [formOf_eq h.nn, tnd_formRow, u, d, tnd_tnd, n]
  exact Prod.ext rfl (Prod.ext (by show f.2.1 - ris f.1 + ris f.1 = _; omega) rfl)
theorem same_row {r : Row} (h : Nn r) : Same (formRow (formOf r)) r := same_of (formOf_can h).nn h (formOf_formRow (formOf_can h))
theorem same_rows : ∀ {rs : List Row}, (∀ r ∈ rs, Nn r) → Same (rowsOf (rs.map formOf)) rs.flatten
  | [], _ => Same.refl fun p hp => nomatch (show p ∈ ([] : Row) from hp)
  | r :: rs, h => by
    have := (same_row (h r List.mem_cons_self)).app (same_rows fun s hs => h s (List.mem_cons_of_mem _ hs))
    exact this
end Px

set_option Elab.async false
set_option linter.all false
set_option maxRecDepth 100000
set_option maxHeartbeats 1000000
/-! Px, part BM: rise, fall, least, forms turned. -/
namespace Px
open PySem L2
open L (pD)
theorem sum_neg : ∀ l : Row, (l.map fun p => p.1 - p.2).sum = - ris l
  | [] => rfl
  | p :: l => by
    rw [List.map_cons, List.sum_cons, sum_neg l, ris_cons]
    unfold gn
    omega
@[simp] theorem at30 {α : Type} (a b c : α) : atI [a, b, c] 0 = some a := rfl
@[simp] theorem at31 {α : Type} (a b c : α) : atI [a, b, c] 1 = some b := rfl
@[simp] theorem at32 {α : Type} (a b c : α) : atI [a, b, c] 2 = some c := rfl
theorem ok_from : ∀ {ts : List Str} {k : Nat} {acc : Str}, PyData.strOk acc = true → (∀ t ∈ ts, PyData.strOk t = true) → PyData.strOk (textFrom k acc ts) = true
  | [], _, _, ha, _ => ha
  | t :: ts, k, acc, ha, h => by
    unfold textFrom
    refine ok_from (ts := ts) ?_ fun x hx => h x (List.mem_cons_of_mem _ hx)
    have ht := h t List.mem_cons_self
    split
    · exact ok_app (ok_app ha (ok_str _)) ht
    · exact ok_app ha ht
theorem shw_lst {xs : List D} {k w n : Nat} (h : ∀ x ∈ xs, Shw x k w) (hn : xs.length ≤ n) : Shw (.lst xs) (k + 1) ((w + 1) * n) := by
  obtain ⟨a, b, c, d, e⟩ := shw_all h
  refine ⟨by simpa [D.toP, PyData.leavesShort] using a, by simpa [D.toP, PyData.showable] using b, by simpa [D.toP, PyData.canLay0] using c, ?_, ?_, ?_⟩
  · simp only [D.toP, PyData.depth]; omega
  · simp only [D.toP, PyData.weight]
    exact Nat.le_trans e (Nat.mul_le_mul_left _ hn)
  · simp only [D.toP, PyData.shown]
    refine ok_app (ok_from (ok_str "[") fun t ht => ?_) (ok_str _)
    obtain ⟨x, hx, rfl⟩ := shown_mem ht
    exact (h x hx).ok
theorem Shw.reprF {xs : List D} {k w : Nat} (h : Shw (.lst xs) k w) (hk : k ≤ 64) (hw : w ≤ 350000) : opBi .repr [.fresh (.lst xs)] = some (.val (.str (D.lst xs).toP.shown)) := h.repr hk hw
namespace M
variable {T : String → Option Fn} {G : String → Option D} {wf : Nat}
theorem rise_eq (hT : T "rise" = some ir_rise) (f : Form) (hl : f.1.length ≤ 1000000) (n : Nat) (S : Sto) : callN T G wf (n + 1) "rise" [fD f] S = .ok (.val (.int (ris f.1))) S := by
  rw [call_eq hT rfl]
  have key : evE ⟨callN T G wf n, G, wf⟩ c_rise_0 [.val (fD f), .emp, .emp] S = .ok (.fresh (.lst ((f.1.map gn).map D.int))) S := by
    unfold c_rise_0
    rw [ev_comp_map (items := f.1.map pD) fgD ?_ ?_ fun x hx => ?_]
    · rw [List.map_map, List.map_map]; rfl
    · unfold fD
      simp -implicitDefEqProofs
    · rw [List.length_map]
      unfold sizeLine
      omega
    · obtain ⟨p, _, rfl⟩ := List.mem_map.mp hx
      refine ⟨[.val (fD f), .val (.int p.1), .val (.int p.2)], rfl, rfl, ?_⟩
      simp -implicitDefEqProofs
      rfl
  have q := bi_sumF (f.1.map gn)
  unfold ir_rise
  rw [show (f.1.map gn).sum = ris f.1 from rfl] at q
  generalize (f.1.map gn).map D.int = w1 at *
  simp -implicitDefEqProofs [key, q]
theorem fall_eq (hT : T "fall" = some ir_fall) (f : Form) (hl : f.2.2.length ≤ 1000000) (n : Nat) (S : Sto) : callN T G wf (n + 1) "fall" [fD f] S = .ok (.val (.int (- ris f.2.2))) S := by
  rw [call_eq hT rfl]
  have key : evE ⟨callN T G wf n, G, wf⟩ c_fall_0 [.val (fD f), .emp, .emp] S = .ok (.fresh (.lst ((f.2.2.map fun p => p.1 - p.2).map D.int))) S := by
    unfold c_fall_0
    rw [ev_comp_map (items := f.2.2.map pD) flD ?_ ?_ fun x hx => ?_]
    · rw [List.map_map, List.map_map]; rfl
    · unfold fD
      simp -implicitDefEqProofs
    · rw [List.length_map]
      unfold sizeLine
      omega
    · obtain ⟨p, _, rfl⟩ := List.mem_map.mp hx
      refine ⟨[.val (fD f), .val (.int p.1), .val (.int p.2)], rfl, rfl, ?_⟩
      simp -implicitDefEqProofs
      rfl
  have q := bi_sumF (f.2.2.map fun p => p.1 - p.2)
  rw [sum_neg] at q
  unfold ir_fall
  generalize (f.2.2.map fun p => p.1 - p.2).map D.int = w1 at *
  simp -implicitDefEqProofs [key, q]
theorem least_of_eq (hR : T "rise" = some ir_rise) (hT : T "least_of" = some ir_least_of) (f : Form) (hl : f.1.length ≤ 1000000) (n : Nat) (S : Sto) : callN T G wf (n + 2) "least_of" [fD f] S = .ok (.val (.int (f.2.1 - ris f.1))) S := by
  rw [call_eq hT rfl]
  have e := rise_eq (G := G) (wf := wf) hR f hl n S
  unfold ir_least_of
  unfold fD at *
  simp -implicitDefEqProofs [e]
theorem turned_form_eq (hR : T "turned_row" = some L.ir_turned_row) (hT : T "turned_form" = some ir_turned_form) (f : Form) (hl : f.1.length + f.2.2.length ≤ 100000) (n : Nat) (S : Sto) : callN T G wf (n + 2) "turned_form" [fD f] S = .ok (.val (fD (turnF f))) S := by
  rw [call_eq hT rfl]
  have e1 := L.turned_eq (G := G) (wf := wf) hR f.1 (by omega) n S
  have e2 := L.turned_eq (G := G) (wf := wf) hR f.2.2 (by omega) n S
  unfold ir_turned_form fD turnF
  dsimp only
  simp -implicitDefEqProofs [e1, e2]
end M
end Px

set_option Elab.async false
set_option linter.all false
set_option maxRecDepth 100000
set_option maxHeartbeats 1000000
/-! Px, part BN: forms beside one another. -/
namespace Px
open PySem L2
open L (pD)
@[simp] theorem at20 {α : Type} (a b : α) : atI [a, b] 0 = some a := rfl
@[simp] theorem at21 {α : Type} (a b : α) : atI [a, b] 1 = some b := rfl
/-! ### pairs joined -/
def joinStep (F : Row) (p : Int × Int) : Row := match F.getLast? with
  | some q => if q.2 ≥ p.1 then F.dropLast ++ [(q.1, q.2 + p.2 - p.1)] else F ++ [p]
  | none => [p]
def jU (ps : Row) : Row := (ps.mergeSort leP).foldl joinStep []
theorem joinStep_nil (p : Int × Int) : joinStep [] p = [p] := rfl
theorem joinStep_snoc (G : Row) (q p : Int × Int) : joinStep (G ++ [q]) p = if q.2 ≥ p.1 then G ++ [(q.1, q.2 + p.2 - p.1)] else G ++ [q] ++ [p] := by
  unfold joinStep
  rw [List.getLast?_concat, List.dropLast_concat]
theorem nil_or_snoc (F : Row) : F = [] ∨ ∃ (G : Row) (q : Int × Int), F = G ++ [q] := by
  rcases List.eq_nil_or_concat F with h | ⟨G, q, h⟩
  · exact .inl h
  · exact .inr ⟨G, q, by rw [h, List.concat_eq_append]⟩
theorem joinStep_len (F : Row) (p : Int × Int) : (joinStep F p).length ≤ F.length + 1 := by
  rcases nil_or_snoc F with rfl | ⟨G, q, rfl⟩
  · exact Nat.le_refl _
  · rw [joinStep_snoc]
    split <;> simp
theorem jfold_len : ∀ (ps F : Row), (ps.foldl joinStep F).length ≤ F.length + ps.length
  | [], F => Nat.le_refl _
  | p :: ps, F => by
    have := jfold_len ps (joinStep F p)
    have := joinStep_len F p
    rw [List.foldl_cons, List.length_cons]
    omega
theorem jU_len (ps : Row) : (jU ps).length ≤ ps.length := by
  have := jfold_len (ps.mergeSort leP) []
  rw [List.length_mergeSort, List.length_nil] at this
  unfold jU
  omega
theorem jU_perm {a b : Row} (h : a.Perm b) : jU a = jU b := by
  unfold jU
  congr 1
  refine List.Perm.eq_of_pairwise (le := fun a b => leP a b = true) (fun a b _ _ h1 h2 => leP_anti h1 h2) (List.pairwise_mergeSort leP_tr leP_to a) (List.pairwise_mergeSort leP_tr leP_to b) ?_
  exact (List.mergeSort_perm a leP).trans (h.trans (List.mergeSort_perm b leP).symm)
theorem dPairs_map : ∀ ps : Row, dPairs (ps.map pD) = some ps
  | [] => rfl
  | p :: ps => by
    show (dPairs (ps.map pD)).map ((p.1, p.2) :: ·) = _
    rw [dPairs_map ps]
    rfl
theorem sortD_map (ps : Row) : sortD (ps.map pD) = some ((ps.mergeSort leP).map pD) := by
  cases ps with
  | nil => 
    show some (([].mergeSort fun a b : Int => decide (a ≤ b)).map D.int) = _
    rw [List.mergeSort_nil, List.mergeSort_nil]
    rfl
  | cons p ps =>
    unfold sortD
    rw [dPairs_map]
    rfl
theorem pairs_shaped : ∀ ps : Row, PyData.canLayAll0 (D.toPs (ps.map pD)) = true ∧ PyData.depthAll (D.toPs (ps.map pD)) ≤ 1
  | [] => ⟨rfl, Nat.zero_le _⟩
  | p :: ps => by
    obtain ⟨a, b⟩ := pairs_shaped ps
    have e : D.toPs ((p :: ps).map pD) = (pD p).toP :: D.toPs (ps.map pD) := rfl
    have e2 : PyData.canLay0 (pD p).toP = true := rfl
    have e3 : PyData.depth (pD p).toP = 1 := rfl
    rw [e]
    refine ⟨by simp only [PyData.canLayAll0, e2, a, Bool.and_self], ?_⟩
    simp only [PyData.depthAll, e3]
    exact Nat.max_le.mpr ⟨Nat.le_refl 1, b⟩
theorem eqD_pairsNil (ps : Row) : eqD (.lst (ps.map pD)) (.lst []) = some ps.isEmpty := by
  obtain ⟨a, b⟩ := pairs_shaped ps
  unfold eqD
  rw [if_pos ⟨shaped_lst a b (by decide), by decide⟩]
  cases ps <;> rfl
theorem setD_last (l : List D) (x d : D) : setD (l ++ [x]) (-1) d = some (l ++ [d]) := by
  unfold setD ixN
  rw [if_neg (by decide), if_pos (by rw [List.length_append]; simp; omega)]
  show some ((l ++ [x]).set ((-1 : Int) + ((l ++ [x]).length : Int)).toNat d) = _
  have : ((-1 : Int) + ((l ++ [x]).length : Int)).toNat = l.length := by rw [List.length_append]; simp; omega
  rw [this]
  simp
namespace M
variable {T : String → Option Fn} {G : String → Option D} {wf : Nat}
theorem joined_body (C : Cf) (F : Row) (p : Int × Int) (hl : F.length < sizeLine) (x : Slot) (S : Sto) :
    exB C b_joined_ups_0 [x, .own (.lst (F.map pD)), .val (.int p.1), .val (.int p.2)] S = .ok (.nx, [x, .own (.lst ((joinStep F p).map pD)), .val (.int p.1), .val (.int p.2)]) S := by
  have e1 := eqD_pairsNil F
  have hl2 : (F.map pD).length < sizeLine := by rw [List.length_map]; exact hl
  rcases nil_or_snoc F with rfl | ⟨H, q, rfl⟩
  · simp only [List.map_nil, List.isEmpty_nil] at e1
    rw [joinStep_nil]
    unfold b_joined_ups_0
    simp -implicitDefEqProofs [e1, lstAt, chg, appD, sizeLine, pD]
  · have ne : (H ++ [q]).isEmpty = false := by simp
    rw [ne] at e1
    rw [joinStep_snoc]
    have em : (H ++ [q]).map pD = H.map pD ++ [.tup [.int q.1, .int q.2]] := by rw [List.map_append]; rfl
    rw [em] at e1 hl2 ⊢
    have a1 := at_lastD (H.map pD) (.tup [.int q.1, .int q.2])
    by_cases c : q.2 ≥ p.1
    · rw [if_pos c]
      have a2 := setD_last (H.map pD) (.tup [.int q.1, .int q.2]) (.tup [.int q.1, .int (q.2 + p.2 - p.1)])
      have e3 : (H ++ [(q.1, q.2 + p.2 - p.1)]).map pD = H.map pD ++ [.tup [.int q.1, .int (q.2 + p.2 - p.1)]] := by rw [List.map_append]; rfl
      rw [e3]
      generalize H.map pD = w at *
      unfold b_joined_ups_0
      simp -implicitDefEqProofs [e1, a1, a2, c, lstAt, chg]
    · rw [if_neg c]
      have e3 : (H ++ [q] ++ [p]).map pD = H.map pD ++ [.tup [.int q.1, .int q.2]] ++ [.tup [.int p.1, .int p.2]] := by rw [List.map_append, em]; rfl
      rw [e3]
      have sz : (H.map pD).length + 1 < sizeLine := by simpa using hl2
      generalize H.map pD = w at *
      unfold b_joined_ups_0
      simp -implicitDefEqProofs [e1, a1, c, lstAt, chg, appD, sz]
theorem joined_eqN {d : Fn} {nm : String} (hT : T nm = some d) (ha : d.ar = 1) (hn : d.names.length = 4) (hb : d.body = ir_joined_ups.body) {d0 : D} {ps : Row} (hd : d0 = .tup (ps.map pD) ∨ d0 = .lst (ps.map pD)) (hl : ps.length ≤ 100000) (n : Nat) (S : Sto) :
    callN T G wf (n + 1) nm [d0] S = .ok (.val (.tup ((jU ps).map pD))) S := by
  obtain ⟨ar, ns, bd⟩ := d
  obtain rfl : ar = 1 := ha
  rw [call_eq hT rfl]
  dsimp only at hn hb ⊢
  rw [hn, hb]
  have hs : opBi .sorted [.val d0] = some (.fresh (.lst ((ps.mergeSort leP).map pD))) := by
    rcases hd with rfl | rfl
    · rw [bi_sortT, dPairs_map]; rfl
    · rw [bi_sortV, sortD_map]; rfl
  have ll : (ps.mergeSort leP).length = ps.length := List.length_mergeSort ..
  unfold jU
  generalize ps.mergeSort leP = qs at *
  obtain ⟨sl', S', e, rfl, x, y, rfl⟩ := loop_inv0 (t := .tup (.cons (.nm 2) (.cons (.nm 3) .nil))) (b := exB ⟨callN T G wf n, G, wf⟩ b_joined_ups_0) (items := qs.map pD) (sl := [.val d0, .own (.lst []), .emp, .emp]) (S := S)
    (fun i sl S' => S' = S ∧ ∃ x y, sl = [.val d0, .own (.lst (((qs.take i).foldl joinStep []).map pD)), x, y]) ⟨rfl, _, _, rfl⟩ (by
      rintro i v sl S' hv ⟨rfl, x, y, rfl⟩
      rw [List.getElem?_map] at hv
      obtain ⟨p, hp, rfl⟩ := Option.map_eq_some_iff.mp hv
      have e1 : (qs.take (i + 1)).foldl joinStep [] = joinStep ((qs.take i).foldl joinStep []) p := by
        rw [List.take_add_one, hp, List.foldl_append]
        rfl
      have l1 := jfold_len (qs.take i) []
      rw [List.length_take, List.length_nil] at l1
      refine ⟨_, _, S', rfl, joined_body _ ((qs.take i).foldl joinStep []) p (by unfold sizeLine; omega) _ S', rfl, .val (.int p.1), .val (.int p.2), ?_⟩
      rw [e1])
  rw [List.length_map, List.take_length] at e
  generalize (qs.foldl joinStep []).map pD = w at *
  unfold ir_joined_ups
  simp -implicitDefEqProofs [-bi_sortT, -bi_sortV, hs, e]
theorem joined_downs_eq (hJ : T "joined_ups" = some ir_joined_ups) (hD : T "joined_downs" = some ir_joined_downs) (hR : T "turned_row" = some L.ir_turned_row) {d0 : D} {ps : Row} (hd : d0 = .tup (ps.map pD) ∨ d0 = .lst (ps.map pD)) (hl : ps.length ≤ 100000) (n : Nat) (S : Sto) :
    callN T G wf (n + 2) "joined_downs" [d0] S = .ok (.val (.tup ((tnd (jU (tnd ps))).map pD))) S := by
  rw [call_eq hD rfl]
  have e1 := L.turned_eq (G := G) (wf := wf) hR ps hl n S
  have e2 := joined_eqN (G := G) (wf := wf) hJ rfl rfl rfl (d0 := .tup ((tnd ps).map pD)) (ps := tnd ps) (.inl rfl) (by rw [tnd_len]; exact hl) n S
  have e3 := L.turned_eq (G := G) (wf := wf) hR (jU (tnd ps)) (by have := jU_len (tnd ps); rw [tnd_len] at this; omega) n S
  unfold ir_joined_downs
  rcases hd with rfl | rfl
  · simp -implicitDefEqProofs [e1, e2, e3]
  · simp -implicitDefEqProofs [e1, e2, e3]
/-- forms beside one another -/
def besD (ups : Row) (tops : List Int) (downs : Row) : Form :=
  (jU ups, greatest (gend (jU ups) (tnd (jU (tnd downs))) :: tops), tnd (jU (tnd downs)))
structure _root_.Px.BesT (T : String → Option Fn) : Prop where
  ju : T "joined_ups" = some M.ir_joined_ups
  jd : T "joined_downs" = some M.ir_joined_downs
  tr : T "turned_row" = some L.ir_turned_row
  ge : T "greatest_end" = some M.ir_greatest_end
  bo : T "beside_of" = some M.ir_beside_of
theorem beside_of_eq (B : BesT T) {d0 d1 : D} {ups downs : Row} {tops : List Int} (h0 : d0 = .tup (ups.map pD) ∨ d0 = .lst (ups.map pD)) (h1 : d1 = .tup (downs.map pD) ∨ d1 = .lst (downs.map pD)) (l0 : ups.length ≤ 100000) (l1 : downs.length ≤ 100000) (l2 : tops.length ≤ 100000) (n : Nat) (S : Sto) :
    callN T G wf (n + 3) "beside_of" [d0, .lst (tops.map D.int), d1] S = .ok (.val (fD (besD ups tops downs))) S := by
  rw [call_eq B.bo rfl]
  have e1 := joined_eqN (G := G) (wf := wf) B.ju rfl rfl rfl h0 l0 (n + 1) S
  have e2 := joined_downs_eq (G := G) (wf := wf) B.ju B.jd B.tr h1 l1 n S
  have e3 := greatest_end_eq (G := G) (wf := wf) B.ge (jU ups) (tnd (jU (tnd downs))) (n + 1) S
  have e4 : opBinD .add (.lst [.int (gend (jU ups) (tnd (jU (tnd downs))))]) (.lst (tops.map D.int)) = some (.fresh (.lst ((gend (jU ups) (tnd (jU (tnd downs))) :: tops).map D.int))) := by
    rw [ob_addL, if_pos]
    · rfl
    rw [List.length_map]
    unfold sizeLine
    show 1 + _ ≤ _
    omega
  have e5 := bi_maxF (ns := gend (jU ups) (tnd (jU (tnd downs))) :: tops) (by simp)
  unfold ir_beside_of fD besD
  dsimp only
  generalize greatest (gend (jU ups) (tnd (jU (tnd downs))) :: tops) = g at *
  generalize (gend (jU ups) (tnd (jU (tnd downs))) :: tops).map D.int = w0 at *
  generalize gend (jU ups) (tnd (jU (tnd downs))) = g2 at *
  generalize (tnd (jU (tnd downs))).map pD = w1 at *
  generalize (jU ups).map pD = w2 at *
  generalize tops.map D.int = w3 at *
  clear h0 h1 l0 l1 l2
  simp -implicitDefEqProofs [-ob_addL, e1, e2, e3, e4, e5]
theorem _root_.Px.compL_app {S : Sto} {f : D → List D → Sto → Res (List D)} (g : D → List D) : ∀ (items acc : List D), acc.length + ((items.map g).flatten).length ≤ sizeLine → (∀ x ∈ items, ∀ acc, acc.length + (g x).length ≤ sizeLine → f x acc S = .ok (acc ++ g x) S) →
    compL f items acc S = .ok (acc ++ (items.map g).flatten) S
  | [], acc, _, _ => by simp [compL]
  | x :: xs, acc, hl, h => by
    rw [List.map_cons, List.flatten_cons, List.length_append] at hl
    unfold compL
    rw [h x List.mem_cons_self acc (by omega), Res.bind_ok, compL_app g xs _ (by rw [List.length_append]; omega) fun y hy => h y (List.mem_cons_of_mem _ hy)]
    simp
theorem _root_.Px.ev_comp2 {F : Cf} {own : List (String × Nat)} {tg tg1 : Tg} {it it1 : Itx} {c c1 elt : Ex} {vs1 : List Nat} {sl : Slots} {S S1 : Sto} {items : List D} (g : D → List D) (k : D → D) (hi : evI F it sl S = .ok items S1) (hn : ((items.map g).flatten).length ≤ sizeLine)
    (h : ∀ x ∈ items, ∃ sl2, bindT tg x (wipeS (hideS sl) (own.map (·.2))) = some sl2 ∧ evE F c sl2 S1 = .ok (.val (.bl true)) S1 ∧ evI F it1 sl2 S1 = .ok (g x) S1 ∧
      ∀ y ∈ g x, ∃ sl3, bindT tg1 y (wipeS sl2 vs1) = some sl3 ∧ evE F c1 sl3 S1 = .ok (.val (.bl true)) S1 ∧ (evE F elt sl3 S1).data = .ok (k y) S1) :
    evE F (.comp2 own tg it c vs1 tg1 it1 c1 elt) sl S = .ok (.fresh (.lst (((items.map g).flatten).map k))) S1 := by
  unfold evE
  have e : (items.map g).flatten.map k = (items.map fun x => (g x).map k).flatten := by
    rw [List.map_flatten, List.map_map]
    rfl
  have hn2 : ((items.map fun x => (g x).map k).flatten).length ≤ sizeLine := by rw [← e, List.length_map]; exact hn
  rw [hi, Res.bind_ok, compL_app (fun x => (g x).map k) items [] (by simpa using hn2) fun x hx acc ha => ?_]
  · rw [e]; rfl
  · obtain ⟨sl2, e1, e2, e3, e4⟩ := h x hx
    rw [e1]
    show (evE F c sl2 S1).truth.bind _ = _
    rw [e2]
    show Res.bind (evI F it1 sl2 S1) _ = _
    rw [e3, Res.bind_ok, compL_filter (fun _ => true) k (g x) acc (by rw [List.length_map] at ha; exact ha) fun y hy acc => ?_]
    · rw [List.filter_eq_self.mpr fun _ _ => rfl]
    · obtain ⟨sl3, f1, f2, f3⟩ := e4 y hy
      rw [f1]
      show (evE F c1 sl3 S1).truth.bind _ = _
      rw [f2]
      show Res.bind (Res.data (evE F elt sl3 S1)) _ = addL acc (k y) S1
      rw [f3]
      rfl
def _root_.Px.upsD (d : D) : List D := match d with
  | .tup [.tup u, _, _] => u
  | _ => []
def _root_.Px.downsD (d : D) : List D := match d with
  | .tup [_, _, .tup u] => u
  | _ => []
def _root_.Px.topD (d : D) : D := match d with
  | .tup [_, t, _] => t
  | _ => .non
def _root_.Px.besF (fs : List Form) : Form := besD (fs.map (·.1)).flatten (fs.map (·.2.1)) (fs.map (·.2.2)).flatten
theorem beside_form_eq (B : BesT T) (hT : T "beside_form" = some ir_beside_form) (fs : List Form) (l0 : (fs.map (·.1)).flatten.length ≤ 100000) (l1 : (fs.map (·.2.2)).flatten.length ≤ 100000) (l2 : fs.length ≤ 100000) (n : Nat) (S : Sto) :
    callN T G wf (n + 4) "beside_form" [.tup (fs.map fD)] S = .ok (.val (fD (besF fs))) S := by
  rw [call_eq hT rfl]
  have k0 : evE ⟨callN T G wf (n + 3), G, wf⟩ c_beside_form_0 [.val (.tup (fs.map fD)), .emp, .emp, .emp, .emp] S = .ok (.fresh (.lst ((fs.map (·.1)).flatten.map pD))) S := by
    have e : ((fs.map fD).map upsD).flatten = (fs.map (·.1)).flatten.map pD := by
      rw [List.map_map, List.map_flatten, List.map_map]; rfl
    unfold c_beside_form_0
    rw [ev_comp2 (items := fs.map fD) upsD id ?_ ?_ fun x hx => ?_]
    · rw [e, List.map_id]
    · simp -implicitDefEqProofs
    · rw [e, List.length_map]; unfold sizeLine; omega
    · obtain ⟨f, _, rfl⟩ := List.mem_map.mp hx
      refine ⟨[.val (.tup (fs.map fD)), .emp, .val (fD f), .emp, .emp], rfl, rfl, ?_, fun y hy => ⟨[.val (.tup (fs.map fD)), .emp, .val (fD f), .val y, .emp], rfl, rfl, ?_⟩⟩
      · unfold fD upsD
        simp -implicitDefEqProofs
      · simp -implicitDefEqProofs
  have k1 : ∀ x : Slot, evE ⟨callN T G wf (n + 3), G, wf⟩ c_beside_form_1 [.val (.tup (fs.map fD)), .val (.lst ((fs.map (·.1)).flatten.map pD)), .emp, .emp, .emp] S = .ok (.fresh (.lst ((fs.map (·.2.2)).flatten.map pD))) S := fun x => by
    have e : ((fs.map fD).map downsD).flatten = (fs.map (·.2.2)).flatten.map pD := by
      rw [List.map_map, List.map_flatten, List.map_map]; rfl
    unfold c_beside_form_1
    rw [ev_comp2 (items := fs.map fD) downsD id ?_ ?_ fun x hx => ?_]
    · rw [e, List.map_id]
    · simp -implicitDefEqProofs
    · rw [e, List.length_map]; unfold sizeLine; omega
    · obtain ⟨f, _, rfl⟩ := List.mem_map.mp hx
      refine ⟨_, rfl, rfl, ?_, fun y hy => ⟨_, rfl, rfl, ?_⟩⟩
      · unfold fD downsD
        simp -implicitDefEqProofs
      · simp -implicitDefEqProofs
  have k2 : evE ⟨callN T G wf (n + 3), G, wf⟩ c_beside_form_2 [.val (.tup (fs.map fD)), .val (.lst ((fs.map (·.1)).flatten.map pD)), .emp, .emp, .val (.lst ((fs.map (·.2.2)).flatten.map pD))] S = .ok (.fresh (.lst ((fs.map (·.2.1)).map D.int))) S := by
    unfold c_beside_form_2
    rw [ev_comp_map (items := fs.map fD) topD ?_ ?_ fun x hx => ?_]
    · rw [List.map_map, List.map_map]; rfl
    · simp -implicitDefEqProofs
    · rw [List.length_map]; unfold sizeLine; omega
    · obtain ⟨f, _, rfl⟩ := List.mem_map.mp hx
      refine ⟨_, rfl, rfl, ?_⟩
      unfold fD topD
      simp -implicitDefEqProofs
  have e5 := beside_of_eq (G := G) (wf := wf) B (d0 := .lst ((fs.map (·.1)).flatten.map pD)) (d1 := .lst ((fs.map (·.2.2)).flatten.map pD)) (.inr rfl) (.inr rfl) l0 l1 (tops := fs.map (·.2.1)) (by rw [List.length_map]; exact l2) n S
  have k1 := k1 .emp
  rw [show besD (fs.map (·.1)).flatten (fs.map (·.2.1)) (fs.map (·.2.2)).flatten = besF fs from rfl] at e5
  clear l0 l1 l2
  generalize fD (besF fs) = w0 at *
  generalize (fs.map (·.1)).flatten.map pD = w1 at *
  generalize (fs.map (·.2.2)).flatten.map pD = w2 at *
  generalize (fs.map (·.2.1)).map D.int = w3 at *
  unfold ir_beside_form
  simp -implicitDefEqProofs [k0, k1, k2, e5]
end M
end Px

set_option Elab.async false
set_option linter.all false
set_option maxRecDepth 100000
set_option maxHeartbeats 1000000
/-! Px, part BO: forms beside one another: order, bounds. -/
namespace Px
open PySem L2
open L (pD)
open M (besD)
theorem flatL_len {k : Nat} : ∀ {rs : List Row}, (∀ r ∈ rs, r.length ≤ k) → rs.flatten.length ≤ k * rs.length
  | [], _ => Nat.zero_le _
  | r :: rs, h => by
    have a := h r List.mem_cons_self
    have b := flatL_len (rs := rs) fun s hs => h s (List.mem_cons_of_mem _ hs)
    rw [List.flatten_cons, List.length_append, List.length_cons, Nat.mul_succ]
    omega
theorem flatL_le {B : Int} {rs : List Row} (h : ∀ r ∈ rs, RowLe B r) : RowLe B rs.flatten := fun p hp => by
  obtain ⟨r, hr, hp⟩ := List.mem_flatten.mp hp
  exact h r hr p hp
theorem greatest_bes (u d : Row) (tops : List Int) : greatest (0 :: (tops ++ (u.getLast?.toList.map (·.2) ++ d.head?.toList.map (·.1)))) = greatest (gend u d :: tops) := by
  obtain ⟨c1, c2⟩ := greatest_is (0 :: (u.getLast?.toList.map (·.2) ++ d.head?.toList.map (·.1))) (by simp)
  rw [gend_list] at c1 c2
  generalize u.getLast?.toList.map (·.2) ++ d.head?.toList.map (·.1) = L at *
  obtain ⟨a1, a2⟩ := greatest_is (0 :: (tops ++ L)) (by simp)
  obtain ⟨b1, b2⟩ := greatest_is (gend u d :: tops) (by simp)
  have g := b2 (gend u d) List.mem_cons_self
  refine Int.le_antisymm ?_ ?_
  · rcases List.mem_cons.mp a1 with h | h
    · have := c2 0 List.mem_cons_self
      omega
    · rcases List.mem_append.mp h with h | h
      · exact b2 _ (List.mem_cons_of_mem _ h)
      · have := c2 _ (List.mem_cons_of_mem _ h)
        omega
  · rcases List.mem_cons.mp b1 with h | h
    · rw [h]
      rcases List.mem_cons.mp c1 with h | h
      · rw [h]; exact a2 0 List.mem_cons_self
      · exact a2 _ (List.mem_cons_of_mem _ (List.mem_append_right _ h))
    · exact a2 _ (List.mem_cons_of_mem _ (List.mem_append_left _ h))
theorem greatest_perm {a b : List Int} (h : a.Perm b) (ha : a ≠ []) : greatest a = greatest b := by
  obtain ⟨a1, a2⟩ := greatest_is a ha
  obtain ⟨b1, b2⟩ := greatest_is b (fun e => ha (by rw [e] at h; exact h.eq_nil))
  exact Int.le_antisymm (b2 _ (h.mem_iff.mp a1)) (a2 _ (h.mem_iff.mpr b1))
theorem tnd_perm {a b : Row} (h : a.Perm b) : (tnd a).Perm (tnd b) := by
  unfold tnd
  exact ((List.reverse_perm a).trans (h.trans (List.reverse_perm b).symm)).map sw
theorem besD_perm {u1 u2 d1 d2 : Row} {t1 t2 : List Int} (h1 : u1.Perm u2) (h2 : t1.Perm t2) (h3 : d1.Perm d2) : besD u1 t1 d1 = besD u2 t2 d2 := by
  unfold besD
  rw [jU_perm h1, jU_perm (tnd_perm h3), greatest_perm (h2.cons _) (by simp)]
theorem besF_perm {a b : List Form} (h : a.Perm b) : besF a = besF b :=
  besD_perm (h.map _).flatten (h.map _) (h.map _).flatten
theorem besF_nil : besF [] = ([], 0, []) := by
  have e : jU [] = [] := by unfold jU; rw [List.mergeSort_nil]; rfl
  show besD [] [] [] = _
  unfold besD
  rw [tnd_nil, e, tnd_nil]
  rfl
theorem joinStep_le {B C : Int} (b0 : 0 ≤ B) {F : Row} {p : Int × Int} (h : RowLe C F) (c0 : 0 ≤ C) (hp : 0 ≤ p.1 ∧ p.1 ≤ B ∧ 0 ≤ p.2 ∧ p.2 ≤ B) : RowLe (C + B) (joinStep F p) := by
  rcases nil_or_snoc F with rfl | ⟨G, q, rfl⟩
  · rw [joinStep_nil]
    intro s hs
    rw [List.mem_singleton] at hs
    subst hs
    omega
  · rw [joinStep_snoc]
    have hq := h q (by simp)
    have hg : RowLe (C + B) G := fun s hs => by
      have := h s (by simp [hs])
      omega
    split
    · intro s hs
      rcases List.mem_append.mp hs with hs | hs
      · exact hg s hs
      · rw [List.mem_singleton] at hs
        subst hs
        show 0 ≤ q.1 ∧ q.1 ≤ _ ∧ 0 ≤ q.2 + p.2 - p.1 ∧ q.2 + p.2 - p.1 ≤ _
        omega
    · intro s hs
      rcases List.mem_append.mp hs with hs | hs
      · have := h s hs
        omega
      · rw [List.mem_singleton] at hs
        subst hs
        omega
theorem jfold_le {B : Int} (b0 : 0 ≤ B) : ∀ {ps F : Row} {C : Int}, RowLe C F → 0 ≤ C → RowLe B ps → RowLe (C + B * ps.length) (ps.foldl joinStep F)
  | [], F, C, h, _, _ => h.mono (by simp)
  | p :: ps, F, C, h, c0, hp => by
    have := jfold_le b0 (ps := ps) (joinStep_le b0 h c0 (hp p List.mem_cons_self)) (by omega) fun q hq => hp q (List.mem_cons_of_mem _ hq)
    rw [List.foldl_cons, List.length_cons, mul_step]
    exact this.mono (by omega)
theorem jU_le {B : Int} (b0 : 0 ≤ B) {ps : Row} (h : RowLe B ps) : RowLe (B * ps.length) (jU ps) := by
  have := jfold_le b0 (ps := ps.mergeSort leP) (F := []) (C := 0) (fun p hp => nomatch hp) (Int.le_refl 0) fun q hq => h q ((List.mergeSort_perm ps leP).mem_iff.mp hq)
  rw [List.length_mergeSort] at this
  exact this.mono (by omega)
theorem besF_le {B : Int} (b0 : 0 ≤ B) {k N : Nat} {fs : List Form} (h : ∀ f ∈ fs, FormLe B k f) (hN : k * fs.length ≤ N) : FormLe (B * (N + 1 : Nat)) (2 * N) (besF fs) := by
  have lu := flatL_len (k := k) (rs := fs.map (·.1)) fun r hr => by
    obtain ⟨f, hf, rfl⟩ := List.mem_map.mp hr
    have := (h f hf).len
    omega
  have ld := flatL_len (k := k) (rs := fs.map (·.2.2)) fun r hr => by
    obtain ⟨f, hf, rfl⟩ := List.mem_map.mp hr
    have := (h f hf).len
    omega
  have ru := flatL_le (rs := fs.map (·.1)) fun r hr => by
    obtain ⟨f, hf, rfl⟩ := List.mem_map.mp hr
    exact (h f hf).up
  have rd := flatL_le (rs := fs.map (·.2.2)) fun r hr => by
    obtain ⟨f, hf, rfl⟩ := List.mem_map.mp hr
    exact (h f hf).down
  rw [List.length_map] at lu ld
  have a := jU_le b0 ru
  have b := (jU_le b0 rd.tnd).tnd
  rw [tnd_len] at b
  have m1 := mul_mono b0 (m := (fs.map (·.1)).flatten.length) (n := N + 1) (by omega)
  have m2 := mul_mono b0 (m := (fs.map (·.2.2)).flatten.length) (n := N + 1) (by omega)
  have m3 := mul_mono b0 (m := 1) (n := N + 1) (by omega)
  have a' := a.mono m1
  have b' := b.mono m2
  have g := gend_le (Int.le_trans (by omega) m3) a' b'
  have top : 0 ≤ (besF fs).2.1 ∧ (besF fs).2.1 ≤ B * (N + 1 : Nat) := by
    show 0 ≤ greatest (gend _ _ :: _) ∧ greatest (gend _ _ :: _) ≤ _
    obtain ⟨c1, c2⟩ := greatest_is (gend (jU (fs.map (·.1)).flatten) (tnd (jU (tnd (fs.map (·.2.2)).flatten))) :: fs.map (·.2.1)) (by simp)
    have c3 := c2 _ List.mem_cons_self
    refine ⟨by omega, ?_⟩
    rcases List.mem_cons.mp c1 with q | q
    · rw [q]; exact g.2
    · obtain ⟨f, hf, e⟩ := List.mem_map.mp q
      have := (h f hf).t1
      rw [← e]
      omega
  refine ⟨a', b', top.1, top.2, ?_⟩
  show (jU _).length + (tnd (jU _)).length ≤ _
  have l1 := jU_len (fs.map (·.1)).flatten
  have l2 := jU_len (tnd (fs.map (·.2.2)).flatten)
  rw [tnd_len] at l2
  rw [tnd_len]
  omega
end Px

set_option Elab.async false
set_option linter.all false
set_option maxRecDepth 100000
set_option maxHeartbeats 1000000
/-! Px, part BP: copies one behind another. -/
namespace Px
def cop (k : Nat) (r : Row) : Row := (List.replicate k r).flatten
theorem cop_zero (r : Row) : cop 0 r = [] := rfl
theorem cop_succ (k : Nat) (r : Row) : cop (k + 1) r = r ++ cop k r := by
  unfold cop
  rw [List.replicate_succ, List.flatten_cons]
theorem cop_one (r : Row) : cop 1 r = r := by rw [cop_succ, cop_zero, List.append_nil]
theorem cop_two (r : Row) : cop 2 r = r ++ r := by rw [cop_succ, cop_one]
theorem cop_add (a b : Nat) (r : Row) : cop (a + b) r = cop a r ++ cop b r := by
  unfold cop
  rw [← List.replicate_append_replicate, List.flatten_append]
theorem cop_nn {r : Row} (h : Nn r) (k : Nat) : Nn (cop k r) := fun p hp => by
  obtain ⟨s, hs, hp⟩ := List.mem_flatten.mp hp
  rw [List.eq_of_mem_replicate hs] at hp
  exact h p hp
theorem cop_snoc (k : Nat) (r : Row) : cop (k + 1) r = cop k r ++ r := by rw [cop_add, cop_one]
theorem tnd_cop (r : Row) : ∀ k, tnd (cop k r) = cop k (tnd r)
  | 0 => rfl
  | k + 1 => by rw [cop_succ, tnd_app, tnd_cop r k, cop_snoc]
theorem ris_cop (r : Row) : ∀ k : Nat, ris (cop k r) = (k : Int) * ris r
  | 0 => by rw [cop_zero, ris_nil]; simp
  | k + 1 => by
    rw [cop_succ, ris_app, ris_cop r k, Int.natCast_add, Int.add_mul]
    omega
theorem cop_len (r : Row) (k : Nat) : (cop k r).length = k * r.length := by
  unfold cop
  rw [List.length_flatten, List.map_replicate, List.sum_replicate_nat]
theorem upP_len (r : Row) : (upP r).length ≤ r.length := by unfold upP; rw [List.length_take]; omega
theorem ht_upP {r : Row} (hr : Nn r) : ht r (upP r).length = ris (upsW r) := by
  obtain ⟨a, b⟩ := parts_up hr
  rw [← gn_whl', b, gn_whl']
  unfold ht ris
  have t : (upP r ++ restR r).take (upP r).length = upP r := List.take_left' rfl
  rw [← a] at t
  rw [t]
theorem rch_cap {r : Row} (hr : Nn r) {p : Int} (hp : 0 ≤ p) : rch r p ≤ p + ris (upsW r) := by
  have pk := peak r.length r (Nat.le_refl _) hr
  rw [ht_upP hr] at pk
  refine rch_le hr hp ?_ fun j hj _ => ?_
  · have := pk 0 (Nat.zero_le _)
    rw [ht_zero] at this
    omega
  · have := pk j hj
    omega
theorem rch_high {r : Row} (hr : Nn r) {p : Int} (hp : need r ≤ p) : rch r p = p + ris (upsW r) := by
  have n0 := need_nn r
  refine Int.le_antisymm (rch_cap hr (by omega)) ?_
  rw [← ht_upP hr]
  refine rch_at hr (upP_len r) ?_
  have d := dp_le r (upP_len r)
  have e := whl_need r
  unfold need at hp
  omega
theorem ris_ups_nn {r : Row} (hr : Nn r) : 0 ≤ ris (upsW r) := by
  have a := rch_ge r (need r)
  rw [rch_high hr (Int.le_refl _)] at a
  omega
theorem need_copU {r : Row} (hr : Nn r) (h : 0 ≤ ris r) : ∀ k, need (cop (k + 1) r) = need r
  | 0 => by rw [cop_one]
  | k + 1 => by
    rw [cop_succ, need_app hr (cop_nn hr _), need_copU hr h k]
    omega
theorem rch_copU {r : Row} (hr : Nn r) (h : 0 ≤ ris r) : ∀ (k : Nat) {p : Int}, 0 ≤ p → rch (cop (k + 1) r) p = if p < need r then rch r p else p + (k : Int) * ris r + ris (upsW r)
  | 0, p, hp => by
    rw [cop_one]
    by_cases c : p < need r
    · rw [if_pos c]
    · rw [if_neg c, rch_high hr (by omega)]
      simp
  | k + 1, p, hp => by
    rw [cop_succ, rch_app hr (cop_nn hr _) hp]
    by_cases c : p < need r
    · rw [if_pos c, if_pos c]
    · rw [if_neg c, if_neg c, rch_copU hr h k (by omega), if_neg (by omega), rch_high hr (by omega), Int.natCast_add, Int.add_mul]
      have : 0 ≤ (k : Int) * ris r := Int.mul_nonneg (by omega) h
      omega
theorem rch_copD {r : Row} (hr : Nn r) (h : ris r ≤ 0) : ∀ (k : Nat) {p : Int}, 0 ≤ p → rch (cop (k + 1) r) p = rch r p
  | 0, p, hp => by rw [cop_one]
  | k + 1, p, hp => by
    rw [cop_succ, rch_app hr (cop_nn hr _) hp]
    by_cases c : p < need r
    · rw [if_pos c]
    · have n := need_tnd hr
      have n0 := need_nn (tnd r)
      rw [if_neg c, rch_copD hr h k (by omega), rch_high hr (p := p) (by omega)]
      have := rch_cap hr (p := p + ris r) (by omega)
      omega
theorem cop_flat {r : Row} (hr : Nn r) (h : ris r = 0) (k : Nat) : Same (cop (k + 1) r) r := by
  refine ⟨cop_nn hr _, hr, fun p hp => rch_copD hr (by omega) k hp, fun p hp => ?_, need_copU hr (by omega) k, ?_⟩
  · rw [tnd_cop]
    exact rch_copD hr.tnd (by rw [ris_tnd]; omega) k hp
  · rw [ris_cop, h]; simp
theorem ups_rise {u : Row} (h : Rise 0 u) : upsW u = u := by
  have n := rise_nn (Int.le_refl 0) h
  exact rise_uniq (Int.le_refl 0) (upsW_rise n) h fun p hp => rch_ups n hp
theorem rise_rch {u : Row} (h : Rise 0 u) {p : Int} (hp : need u ≤ p) : rch u p = p + ris u := by
  have := rch_high (rise_nn (Int.le_refl 0) h) hp
  rwa [ups_rise h] at this
theorem rise_last : ∀ {v : Row} {a m : Int} {q : Int × Int}, Rise a (v ++ [q]) → 0 ≤ m → Rise a (v ++ [(q.1, q.2 + m)])
  | [], a, m, q, h, hm => ⟨h.1, by have := h.2.1; show q.1 < q.2 + m; omega, trivial⟩
  | s :: v, a, m, q, h, hm => ⟨h.1, h.2.1, rise_last (v := v) h.2.2 hm⟩
theorem rch_one {q : Int × Int} (x : Int) : rch [q] x = if x < q.1 then x else max x (x + gn q) := rfl
/-- copies of a row that gains: the last up goes on -/
theorem times_up {r : Row} (hr : Nn r) (h : 0 < ris r) (k : Nat) : ∃ (v : Row) (q : Int × Int), (formOf (cop 2 r)).1 = v ++ [q] ∧
    formOf (cop (k + 2) r) = (v ++ [(q.1, q.2 + (k : Int) * ris r)], max (formOf (cop 2 r)).2.1 (q.2 + (k : Int) * ris r), (formOf (cop 2 r)).2.2) := by
  have h0 : 0 ≤ ris r := by omega
  have m0 : 0 ≤ (k : Int) * ris r := Int.mul_nonneg (by omega) h0
  have M0 := ris_ups_nn hr
  have n2 := cop_nn hr 2
  have nk := cop_nn hr (k + 2)
  have e2 : need (cop 2 r) = need r := need_copU hr h0 1
  have ek : need (cop (k + 2) r) = need r := need_copU hr h0 (k + 1)
  have N0 := need_nn r
  have rU := upsW_rise n2
  have rc2 : ∀ {p : Int}, 0 ≤ p → rch (upsW (cop 2 r)) p = if p < need r then rch r p else p + ris r + ris (upsW r) := fun {p} hp => by
    rw [rch_ups n2 hp, rch_copU hr h0 1 hp]
    simp
  have risU : ris (upsW (cop 2 r)) = ris r + ris (upsW r) := by
    have a := rch_high n2 (p := need r) (by omega)
    rw [← rch_ups n2 N0, rc2 N0, if_neg (by omega)] at a
    omega
  have needU : need (upsW (cop 2 r)) = need r := by
    refine Int.le_antisymm ?_ ?_
    · obtain ⟨a, b⟩ := parts_up n2
      have c := need_app (a := upP (cop 2 r)) (b := restR (cop 2 r)) (fun p hp => n2 p (by rw [a]; exact List.mem_append_left _ hp)) (restR_nn n2)
      rw [← a] at c
      have d : need (upsW (cop 2 r)) = need (upP (cop 2 r)) := by unfold need; rw [b]
      omega
    · rcases Int.lt_or_le (need (upsW (cop 2 r))) (need r) with c | c
      · have p0 := need_nn (upsW (cop 2 r))
        have a := rise_rch rU (Int.le_refl _)
        rw [rc2 p0, if_pos c, risU] at a
        have := rch_cap hr p0
        omega
      · exact c
  have top2 : (formOf (cop 2 r)).2.1 = need r + ris (upsW (cop 2 r)) := by
    rw [formOf_eq n2]
    show need (cop 2 r) + _ = _
    rw [e2]
  obtain ⟨last1, _⟩ := rise_need (Int.le_refl 0) rU
  have up2 : (formOf (cop 2 r)).1 = upsW (cop 2 r) := by rw [formOf_eq n2]
  have dn2 : (formOf (cop 2 r)).2.2 = tnd (upsW (tnd (cop 2 r))) := by rw [formOf_eq n2]
  rw [up2, dn2, top2]
  generalize hU : upsW (cop 2 r) = U at *
  rcases nil_or_snoc U with rfl | ⟨v, q, rfl⟩
  · rw [ris_nil] at risU
    omega
  refine ⟨v, q, rfl, ?_⟩
  have lq : lastM (v ++ [q]) = q.2 := by unfold lastM; rw [List.getLast?_concat]; rfl
  have last2 : need (v ++ [q]) = max 0 q.2 - ris (v ++ [q]) := by rw [← lq]; exact last1
  have rW := rise_last rU m0
  have nU := rise_nn (Int.le_refl 0) rU
  have nv : Nn v := fun p hp => nU p (List.mem_append_left _ hp)
  have nq : Nn [q] := fun p hp => nU p (List.mem_append_right _ hp)
  have q0 := nq q List.mem_cons_self
  have nq2 : Nn [(q.1, q.2 + (k : Int) * ris r)] := fun p hp => by
    rw [List.mem_singleton] at hp
    subst hp
    show 0 ≤ q.1 ∧ 0 ≤ q.2 + _
    omega
  have nd1 := need_app nv nq
  have nd2 := need_app nv nq2
  rw [need_one q0.1] at nd1
  rw [need_one (show (0 : Int) ≤ (q.1, q.2 + (k : Int) * ris r).1 from q0.1)] at nd2
  have risW : ris (v ++ [(q.1, q.2 + (k : Int) * ris r)]) = ris (v ++ [q]) + (k : Int) * ris r := by
    rw [ris_app, ris_app, ris_cons, ris_cons]
    unfold gn
    dsimp only
    omega
  have u := rise_uniq (Int.le_refl 0) (upsW_rise nk) rW fun p hp => by
    rw [rch_ups nk hp, rch_copU hr h0 (k + 1) hp]
    by_cases c : p < need r
    · rw [if_pos c]
      have a := rc2 hp
      rw [if_pos c] at a
      rw [← a, rch_app nv nq hp, rch_app nv nq2 hp]
      by_cases d : p < need v
      · rw [if_pos d, if_pos d]
      · rw [if_neg d, if_neg d, rch_one, rch_one, if_pos (by omega), if_pos (by show p + ris v < q.1; omega)]
    · rw [if_neg c, rise_rch rW (by dsimp only at nd2; omega), risW, risU, Int.natCast_add, Int.add_mul]
      omega
  have d := rise_uniq (Int.le_refl 0) (upsW_rise nk.tnd) (upsW_rise n2.tnd) fun p hp => by
    rw [rch_ups nk.tnd hp, rch_ups n2.tnd hp, tnd_cop, tnd_cop, rch_copD hr.tnd (by rw [ris_tnd]; omega) (k + 1) hp, rch_copD hr.tnd (by rw [ris_tnd]; omega) 1 hp]
  have fe := formOf_eq nk
  rw [u, d, risW] at fe
  rw [fe, show (whl (cop (k + 2) r)).1 = need r from ek]
  refine Prod.ext rfl (Prod.ext ?_ rfl)
  show need r + (ris (v ++ [q]) + (k : Int) * ris r) = max (need r + ris (v ++ [q])) (q.2 + (k : Int) * ris r)
  omega
end Px

set_option Elab.async false
set_option linter.all false
set_option maxRecDepth 100000
set_option maxHeartbeats 1000000
/-! Px, part BQ: the program's copies one behind another. -/
namespace Px
open PySem L2
open L (pD)
theorem slc_init {α : Type} (l : List α) (x : α) : slc (l ++ [x]) none (some (-1)) = l := by
  unfold slc
  have e : HT.sIx (l ++ [x]).length (l ++ [x]).length (some (-1)) = l.length := by
    unfold HT.sIx
    rw [List.length_append]
    simp
    omega
  rw [e, HT.sIx_none, List.drop_zero, Nat.sub_zero]
  exact List.take_left' rfl
theorem big1 : (10 : Nat) ^ 40 < 2 ^ 250 := by decide
theorem big2 : (10 : Nat) ^ 44 * 1001 < 2 ^ 250 := by decide
theorem mulB {k : Nat} {g B : Int} (hk : k ≤ 10 ^ 40) (h0 : 0 ≤ g) (hg : g ≤ B * 1001) (hB : B < 10 ^ 44) : opBinD .mul (.int (k : Int)) (.int g) = some (.val (.int ((k : Int) * g))) := by
  refine mul_small ?_ ?_
  · rw [Int.natAbs_natCast]; exact Nat.lt_of_le_of_lt hk big1
  · refine Nat.lt_of_le_of_lt ?_ big2
    omega
theorem fst_eq {f : Form} {u : Row} (h : f.1 = u) : f = (u, f.2.1, f.2.2) := by subst h; rfl
def copF (k : Nat) (f : Form) : Form := formOf (cop k (formRow f))
theorem copF_zero (f : Form) : copF 0 f = ([], 0, []) := formOf_nil
theorem copF_one {f : Form} (h : Can f) : copF 1 f = f := by unfold copF; rw [cop_one, formOf_formRow h]
theorem ris_formRow (f : Form) : ris (formRow f) = ris f.1 + ris f.2.2 := by
  unfold formRow
  rw [ris_app, ris_app, ris_cons, ris_nil]
  unfold gn
  dsimp only
  omega
theorem copF_flat {f : Form} (h : Can f) (z : ris (formRow f) = 0) (k : Nat) : copF (k + 1) f = f := by
  unfold copF
  rw [(cop_flat h.nn z k).form, formOf_formRow h]
theorem copF_turn {f : Form} (h : Can f) (k : Nat) : copF k (turnF f) = turnF (copF k f) := by
  unfold copF
  rw [← tnd_formRow, ← tnd_cop, formOf_tnd (cop_nn h.nn k)]
theorem copF_can {f : Form} (h : Can f) (k : Nat) : Can (copF k f) := formOf_can (cop_nn h.nn k)
theorem rowsOf_two (f : Form) : rowsOf [f, f] = cop 2 (formRow f) := by
  rw [cop_two]
  show formRow f ++ (formRow f ++ []) = _
  rw [List.append_nil]
theorem FormLe.turn {B : Int} {m : Nat} {f : Form} (h : FormLe B m f) : FormLe B m (turnF f) :=
  ⟨h.down.tnd, h.up.tnd, h.t0, h.t1, by have := h.len; show (tnd f.2.2).length + (tnd f.1).length ≤ _; rw [tnd_len, tnd_len]; omega⟩
theorem cop_le {B : Int} {r : Row} (h : RowLe B r) (k : Nat) : RowLe B (cop k r) := fun p hp => by
  obtain ⟨s, hs, hp⟩ := List.mem_flatten.mp hp
  rw [List.eq_of_mem_replicate hs] at hp
  exact h p hp
theorem copF_lenU {B : Int} {m : Nat} {f : Form} (cf : Can f) (lf : FormLe B m f) (h : 0 ≤ ris (formRow f)) : ∀ k : Nat, (copF k f).1.length + (copF k f).2.2.length ≤ 2 * (m + 1)
  | 0 => by rw [copF_zero]; exact Nat.zero_le _
  | 1 => by rw [copF_one cf]; have := lf.len; omega
  | k + 2 => by
    by_cases z : ris (formRow f) = 0
    · rw [copF_flat cf z (k + 1)]; have := lf.len; omega
    · obtain ⟨v, q, u1, u2⟩ := times_up cf.nn (by omega) k
      have fl := formRow_le lf
      have a := (formOf_le (B := B) (Int.le_trans lf.t0 lf.t1) (cop_le fl.1 2)).len
      rw [cop_len, u1] at a
      show (formOf (cop (k + 2) (formRow f))).1.length + (formOf (cop (k + 2) (formRow f))).2.2.length ≤ _
      rw [u2]
      simp only [List.length_append, List.length_cons, List.length_nil] at a ⊢
      have := fl.2
      omega
theorem copF_len {B : Int} {m : Nat} {f : Form} (cf : Can f) (lf : FormLe B m f) (k : Nat) : (copF k f).1.length + (copF k f).2.2.length ≤ 2 * (m + 1) := by
  by_cases h : 0 ≤ ris (formRow f)
  · exact copF_lenU cf lf h k
  · have a := copF_lenU cf.turn lf.turn (by rw [← tnd_formRow, ris_tnd]; omega) k
    rw [copF_turn cf] at a
    unfold turnF at a
    dsimp only at a
    rw [tnd_len, tnd_len] at a
    omega
theorem copF_le {B : Int} {m : Nat} {f : Form} (cf : Can f) (lf : FormLe B m f) (k : Nat) : FormLe (B * (k * (m + 1) : Nat)) (2 * (m + 1)) (copF k f) := by
  have b0 : 0 ≤ B := Int.le_trans lf.t0 lf.t1
  have fl := formRow_le lf
  have a := formOf_le b0 (cop_le fl.1 k)
  rw [cop_len] at a
  have m1 := mul_mono b0 (Nat.mul_le_mul_left k fl.2)
  exact ⟨a.up.mono m1, a.down.mono m1, a.t0, Int.le_trans a.t1 m1, copF_len cf lf k⟩
namespace M
variable {T : String → Option Fn} {G : String → Option D} {wf : Nat}
theorem risen_eq (hT : T "risen" = some ir_risen) (v : Row) (q : Int × Int) (t : Int) (d : Row) (m : Int) (hl : v.length ≤ 100000) (n : Nat) (S : Sto) :
    callN T G wf (n + 1) "risen" [fD (v ++ [q], t, d), .int m] S = .ok (.val (fD (v ++ [(q.1, q.2 + m)], max t (q.2 + m), d))) S := by
  rw [call_eq hT rfl]
  have em : ∀ p : Int × Int, (v ++ [p]).map pD = v.map pD ++ [.tup [.int p.1, .int p.2]] := fun p => by rw [List.map_append]; rfl
  unfold fD
  dsimp only
  rw [em, em]
  have l2 : (v.map pD).length ≤ 100000 := by rw [List.length_map]; exact hl
  generalize v.map pD = w at *
  generalize d.map pD = w2 at *
  have a1 := at_lastD w (.tup [.int q.1, .int q.2])
  have a2 := slc_init w (.tup [.int q.1, .int q.2])
  have a3 : opBinD .add (.tup w) (.tup [.tup [.int q.1, .int (q.2 + m)]]) = some (.val (.tup (w ++ [.tup [.int q.1, .int (q.2 + m)]]))) := by
    rw [ob_addT, if_pos]
    unfold sizeLine
    show _ + 1 ≤ _
    omega
  have a4 := bi_max t (q.2 + m)
  unfold ir_risen
  simp -implicitDefEqProofs [-ob_addT, -bi_max2, a1, a2, a3, a4]
structure _root_.Px.TimT (T : String → Option Fn) (G : String → Option D) : Prop extends CutT T where
  fr : T "form_row" = some M.ir_form_row
  tf : T "then_form" = some M.ir_then_form
  ri : T "rise" = some M.ir_rise
  fa : T "fall" = some M.ir_fall
  tu : T "turned_form" = some M.ir_turned_form
  rs : T "risen" = some M.ir_risen
  ti : T "times_form" = some M.ir_times_form
  no : G "NOTHING" = some (fD ([], 0, []))
theorem times_pos (C : TimT T G) {B : Int} (hB : B < 10 ^ 44) {m : Nat} {f : Form} (cf : Can f) (lf : FormLe B m f) (hm : m ≤ 1000) (hw : (m + 1) * 2 + 1 < wf) {k : Nat} (hk : k ≤ 10 ^ 40) (h : k ≤ 1 ∨ 0 ≤ ris (formRow f)) (n : Nat) (S : Sto) :
    callN T G wf (n + 7) "times_form" [.int (k : Int), fD f] S = .ok (.val (fD (copF k f))) S := by
  have b0 : 0 ≤ B := Int.le_trans lf.t0 lf.t1
  have ll := lf.len
  rw [call_eq C.ti rfl]
  have e1 := rise_eq (G := G) (wf := wf) C.ri f (by omega) (n + 5) S
  have e2 := fall_eq (G := G) (wf := wf) C.fa f (by omega) (n + 5) S
  have g : ris f.1 + ris f.2.2 = ris (formRow f) := (ris_formRow f).symm
  have fin : ∀ i : Int, i = 0 ∨ ¬ i = 0 := fun i => by omega
  rcases (show k = 0 ∨ k = 1 ∨ ∃ j, k = j + 2 from by rcases k with _ | _ | j <;> simp) with rfl | rfl | ⟨k, rfl⟩
  · rw [copF_zero]
    have hno := C.no
    unfold ir_times_form
    simp -implicitDefEqProofs [e1, e2, g, hno, eqD_int]
  · rw [copF_one cf]
    unfold ir_times_form
    simp -implicitDefEqProofs [e1, e2, g, eqD_int]
  · have h0 : 0 ≤ ris (formRow f) := by omega
    have z1 : ¬ ((k : Int) + 2 = 0) := by omega
    have z2 : ¬ ((k : Int) + 2 = 1) := by omega
    by_cases z : ris (formRow f) = 0
    · rw [copF_flat cf z (k + 1)]
      rw [z] at g
      unfold ir_times_form
      simp -implicitDefEqProofs [e1, e2, g, eqD_int, z1, z2]
    · have e3 := then_form_eq (G := G) (wf := wf) C.toCutT C.fr C.tf C.no hB (k := m) [f, f] (fun x hx => by
        simp only [List.mem_cons, List.not_mem_nil, or_false] at hx
        rcases hx with rfl | rfl <;> exact lf) (by omega) (by show (m + 1) * 2 ≤ _; omega) (by show (m + 1) * 2 + 1 < _; omega) n S
      rw [rowsOf_two] at e3
      obtain ⟨v, q, u1, u2⟩ := times_up cf.nn (by omega) k
      have hf2 : formOf (cop 2 (formRow f)) = (v ++ [q], (formOf (cop 2 (formRow f))).2.1, (formOf (cop 2 (formRow f))).2.2) := fst_eq u1
      have fl := formRow_le lf
      have lv : v.length ≤ 100000 := by
        have a := (formOf_le (B := B) b0 (r := cop 2 (formRow f)) (fun p hp => by
          obtain ⟨s, hs, hp⟩ := List.mem_flatten.mp hp
          rw [List.eq_of_mem_replicate hs] at hp
          exact fl.1 p hp)).len
        rw [u1, cop_len, List.length_append] at a
        have := fl.2
        omega
      have e4 := risen_eq (G := G) (wf := wf) C.rs v q (formOf (cop 2 (formRow f))).2.1 (formOf (cop 2 (formRow f))).2.2 ((k : Int) * ris (formRow f)) lv (n + 5) S
      rw [← hf2, ← u2] at e4
      obtain ⟨g1, g2⟩ : ris (formRow f) ≤ B * (m + 1 : Nat) ∧ 0 ≤ ris (formRow f) := by
        refine ⟨?_, h0⟩
        have a := rch_high cf.nn (Int.le_refl _)
        have n1 := need_nn (tnd (formRow f))
        have wl := whl_le fl.1
        rw [whl_eq] at wl
        have mm := mul_mono b0 fl.2
        have := need_nn (formRow f)
        omega
      have g3 := Int.le_trans g1 (mul_mono b0 (m := m + 1) (n := 1001) (by omega))
      rw [show ((1001 : Nat) : Int) = 1001 from rfl] at g3
      have e5 := mulB (k := k) (by omega) h0 g3 hB
      have z3 : (k : Int) + 2 - 2 = (k : Int) := by omega
      have z4 : ¬ (ris (formRow f) < 0) := by omega
      show _ = Res.ok (Rv.val (fD (formOf (cop (k + 2) (formRow f))))) S
      generalize fD (formOf (cop (k + 2) (formRow f))) = F1 at *
      generalize fD (formOf (cop 2 (formRow f))) = F2 at *
      simp only [List.map_cons, List.map_nil] at e3
      clear hf2
      generalize fD f = F3 at *
      unfold ir_times_form
      simp -implicitDefEqProofs [e1, e2, e3, e4, e5, g, eqD_int, z1, z2, z3, z, z4]
theorem times_form_eq (C : TimT T G) {B : Int} (hB : B < 10 ^ 44) {m : Nat} {f : Form} (cf : Can f) (lf : FormLe B m f) (hm : m ≤ 1000) (hw : (m + 1) * 2 + 1 < wf) {k : Nat} (hk : k ≤ 10 ^ 40) (n : Nat) (S : Sto) :
    callN T G wf (n + 8) "times_form" [.int (k : Int), fD f] S = .ok (.val (fD (copF k f))) S := by
  by_cases h : k ≤ 1 ∨ 0 ≤ ris (formRow f)
  · exact times_pos C hB cf lf hm hw hk h (n + 1) S
  · have ll := lf.len
    have hc := copF_len cf.turn lf.turn k
    rw [call_eq C.ti rfl]
    have e1 := rise_eq (G := G) (wf := wf) C.ri f (by omega) (n + 6) S
    have e2 := fall_eq (G := G) (wf := wf) C.fa f (by omega) (n + 6) S
    have g : ris f.1 + ris f.2.2 = ris (formRow f) := (ris_formRow f).symm
    have e3 := turned_form_eq (G := G) (wf := wf) C.tr C.tu f (by omega) (n + 5) S
    have e4 := times_pos C hB cf.turn lf.turn hm hw hk (.inr (by rw [← tnd_formRow, ris_tnd]; omega)) n S
    have e5 := turned_form_eq (G := G) (wf := wf) C.tr C.tu (copF k (turnF f)) (by omega) (n + 5) S
    rw [copF_turn cf, turnF_turnF] at e5
    rw [copF_turn cf] at e4
    have z0 : ¬ (k = 0) := by omega
    have z1 : ¬ (k = 1) := by omega
    have z4 : ¬ ((k : Int) = 1) := by omega
    have z2 : ¬ (ris (formRow f) = 0) := by omega
    have z3 : ris (formRow f) < 0 := by omega
    clear hc
    generalize fD (turnF (copF k f)) = F1 at *
    generalize fD (copF k f) = F2 at *
    generalize fD (turnF f) = F3 at *
    generalize fD f = F4 at *
    unfold ir_times_form
    simp -implicitDefEqProofs [e1, e2, e3, e4, e5, g, eqD_int, z0, z1, z2, z3, z4]
end M
end Px

set_option Elab.async false
set_option linter.all false
set_option maxRecDepth 100000
set_option maxHeartbeats 1000000
/-! Px, part BR: copies beside one another. -/
namespace Px
open PySem L2
open L (pD)
open M (besD)
def scl (k : Int) (p : Int × Int) : Int × Int := (p.1, p.1 + k * gn p)
def scaleU (k : Int) (u : Row) : Row := u.map (scl k)
theorem join_two (F : Row) (p : Int × Int) (c g : Int) (hc : 0 ≤ c) (hp : p.2 = p.1 + g) : joinStep (joinStep F (p.1, p.1 + c)) p = joinStep F (p.1, p.1 + (c + g)) := by
  rcases nil_or_snoc F with rfl | ⟨G, q, rfl⟩
  · rw [joinStep_nil, joinStep_nil]
    have := joinStep_snoc [] (p.1, p.1 + c) p
    rw [List.nil_append] at this
    rw [this, if_pos (by show p.1 + c ≥ p.1; omega), hp]
    show [(p.1, p.1 + c + (p.1 + g) - p.1)] = _
    rw [show p.1 + c + (p.1 + g) - p.1 = p.1 + (c + g) by omega]
  · rw [joinStep_snoc, joinStep_snoc]
    by_cases d : q.2 ≥ p.1
    · rw [if_pos (show q.2 ≥ (p.1, p.1 + c).1 from d), if_pos (show q.2 ≥ (p.1, p.1 + (c + g)).1 from d), joinStep_snoc, if_pos (by show q.2 + (p.1 + c) - p.1 ≥ p.1; omega), hp]
      show G ++ [(q.1, q.2 + (p.1 + c) - p.1 + (p.1 + g) - p.1)] = G ++ [(q.1, q.2 + (p.1 + (c + g)) - p.1)]
      rw [show q.2 + (p.1 + c) - p.1 + (p.1 + g) - p.1 = q.2 + (p.1 + (c + g)) - p.1 by omega]
    · rw [if_neg (show ¬ q.2 ≥ (p.1, p.1 + c).1 from d), if_neg (show ¬ q.2 ≥ (p.1, p.1 + (c + g)).1 from d), joinStep_snoc, if_pos (by show p.1 + c ≥ p.1; omega), hp]
      show G ++ [q] ++ [(p.1, p.1 + c + (p.1 + g) - p.1)] = _
      rw [show p.1 + c + (p.1 + g) - p.1 = p.1 + (c + g) by omega]
theorem join_rep (F : Row) (p : Int × Int) (h : 0 ≤ gn p) : ∀ k : Nat, (List.replicate (k + 1) p).foldl joinStep F = joinStep F (scl ((k + 1 : Nat) : Int) p)
  | 0 => by
    have e : scl ((0 + 1 : Nat) : Int) p = p := by
      unfold scl gn
      exact Prod.ext rfl (by show p.1 + 1 * (p.2 - p.1) = p.2; omega)
    rw [e]
    rfl
  | k + 1 => by
    rw [List.replicate_succ', List.foldl_append, join_rep F p h k]
    have := join_two F p (((k + 1 : Nat) : Int) * gn p) (gn p) (Int.mul_nonneg (by omega) h) (by unfold gn; omega)
    show joinStep (joinStep F (scl ((k + 1 : Nat) : Int) p)) p = _
    unfold scl
    rw [this]
    congr 2
    rw [show ((k + 1 + 1 : Nat) : Int) = ((k + 1 : Nat) : Int) + 1 by omega, Int.add_mul, Int.one_mul]
theorem leP_lt {p q : Int × Int} (h : p.1 < q.1) : leP p q = true := by
  unfold leP
  rw [decide_eq_true h, Bool.true_or]
theorem leP_self (p : Int × Int) : leP p p = true := by
  unfold leP
  simp
theorem rise_sorted (k : Nat) : ∀ {u : Row} {a : Int}, Rise a u → ((u.map (List.replicate k)).flatten).Pairwise (fun p q => leP p q = true) ∧ ∀ p ∈ (u.map (List.replicate k)).flatten, a ≤ p.1
  | [], a, _ => ⟨.nil, fun p hp => nomatch hp⟩
  | q :: u, a, h => by
    obtain ⟨h1, h2, h3⟩ := h
    obtain ⟨a1, a2⟩ := rise_sorted k h3
    rw [List.map_cons, List.flatten_cons]
    refine ⟨List.pairwise_append.mpr ⟨?_, a1, fun x hx y hy => ?_⟩, fun p hp => ?_⟩
    · exact List.pairwise_replicate.mpr (.inr (leP_self q))
    · rw [List.eq_of_mem_replicate hx]
      have := a2 y hy
      exact leP_lt (by omega)
    · rcases List.mem_append.mp hp with hp | hp
      · rw [List.eq_of_mem_replicate hp]; exact h1
      · have := a2 p hp
        omega
theorem scale_sorted (k : Int) : ∀ {u : Row} {a : Int}, Rise a u → (scaleU k u).Pairwise (fun p q => leP p q = true) ∧ ∀ p ∈ scaleU k u, a ≤ p.1
  | [], a, _ => ⟨.nil, fun p hp => nomatch hp⟩
  | q :: u, a, h => by
    obtain ⟨h1, h2, h3⟩ := h
    obtain ⟨a1, a2⟩ := scale_sorted k h3
    refine ⟨List.pairwise_cons.mpr ⟨fun y hy => ?_, a1⟩, fun p hp => ?_⟩
    · have := a2 y hy
      exact leP_lt (by show q.1 < y.1; omega)
    · rcases List.mem_cons.mp hp with rfl | hp
      · exact h1
      · have := a2 p hp
        omega
theorem scale_fold (k : Nat) : ∀ {u : Row} (F : Row), (∀ p ∈ u, 0 ≤ gn p) → ((u.map (List.replicate (k + 1))).flatten).foldl joinStep F = (scaleU ((k + 1 : Nat) : Int) u).foldl joinStep F
  | [], F, _ => rfl
  | q :: u, F, h => by
    rw [List.map_cons, List.flatten_cons, List.foldl_append, join_rep F q (h q List.mem_cons_self) k, scale_fold k (u := u) _ fun p hp => h p (List.mem_cons_of_mem _ hp)]
    rfl
theorem rep_perm (k : Nat) : ∀ u : Row, (u ++ (u.map (List.replicate k)).flatten).Perm (u.map (List.replicate (k + 1))).flatten
  | [] => .refl _
  | q :: u => by
    rw [List.map_cons, List.flatten_cons, List.map_cons, List.flatten_cons, List.replicate_succ, List.cons_append, List.cons_append]
    refine List.Perm.cons q ?_
    exact List.perm_append_comm_assoc u _ _ |>.trans ((rep_perm k u).append_left _)
theorem cop_perm (u : Row) : ∀ k, (cop k u).Perm (u.map (List.replicate k)).flatten
  | 0 => by
    have : (u.map (List.replicate 0)).flatten = [] := by
      induction u with
      | nil => rfl
      | cons q u ih => rw [List.map_cons, List.flatten_cons, ih]; rfl
    rw [this]
    exact .refl _
  | k + 1 => by
    rw [cop_succ]
    exact ((cop_perm u k).append_left u).trans (rep_perm k u)
theorem jU_cop {u : Row} (h : Rise 0 u) (k : Nat) : jU (cop (k + 1) u) = jU (scaleU ((k + 1 : Nat) : Int) u) := by
  rw [jU_perm (cop_perm u (k + 1))]
  unfold jU
  rw [List.mergeSort_of_pairwise (rise_sorted (k + 1) h).1, List.mergeSort_of_pairwise (scale_sorted _ h).1]
  exact scale_fold k [] fun p hp => by have := rise_gn h p hp; omega
def manyF (k : Nat) (f : Form) : Form := besF (List.replicate k f)
theorem greatest_rep (g t : Int) (k : Nat) : greatest (g :: List.replicate (k + 1) t) = greatest [g, t] := by
  obtain ⟨a1, a2⟩ := greatest_is (g :: List.replicate (k + 1) t) (by simp)
  obtain ⟨b1, b2⟩ := greatest_is [g, t] (by simp)
  have m : ∀ x, x ∈ g :: List.replicate (k + 1) t ↔ x ∈ [g, t] := fun x => by
    rw [List.mem_cons, List.mem_cons, List.mem_singleton, List.mem_replicate]
    simp
  exact Int.le_antisymm (b2 _ ((m _).mp a1)) (a2 _ ((m _).mpr b1))
theorem manyF_succ {f : Form} (h : Can f) (k : Nat) : manyF (k + 1) f = besD (scaleU ((k + 1 : Nat) : Int) f.1) [f.2.1] (tnd (scaleU ((k + 1 : Nat) : Int) (tnd f.2.2))) := by
  unfold manyF besF besD
  rw [List.map_replicate, List.map_replicate, List.map_replicate]
  show (jU (cop (k + 1) f.1), greatest (gend (jU (cop (k + 1) f.1)) (tnd (jU (tnd (cop (k + 1) f.2.2)))) :: List.replicate (k + 1) f.2.1), tnd (jU (tnd (cop (k + 1) f.2.2)))) = _
  rw [tnd_cop, jU_cop h.up, jU_cop h.down, greatest_rep, tnd_tnd]
end Px

set_option Elab.async false
set_option linter.all false
set_option maxRecDepth 100000
set_option maxHeartbeats 1000000
/-! Px, part BS: the program's copies beside one another. -/
namespace Px
open PySem L2
open L (pD)
def mupD (k : Int) (d : D) : D := match d with
  | .tup [.int a, .int b] => .tup [.int a, .int (a + k * (b - a))]
  | _ => .non
def mdnD (k : Int) (d : D) : D := match d with
  | .tup [.int a, .int b] => .tup [.int (b + k * (a - b)), .int b]
  | _ => .non
def dscl (k : Int) (p : Int × Int) : Int × Int := (p.2 + k * (p.1 - p.2), p.2)
theorem dscl_tnd (k : Int) (d : Row) : tnd (d.map (dscl k)) = scaleU k (tnd d) := by
  unfold tnd scaleU
  rw [← List.map_reverse, List.map_map, List.map_map]
  rfl
theorem big3 : (10 : Nat) ^ 44 < 2 ^ 250 := by decide
theorem mulC {k : Nat} {g B : Int} (hk : k ≤ 10 ^ 40) (h0 : -B ≤ g) (hg : g ≤ B) (hB : B < 10 ^ 44) : opBinD .mul (.int (k : Int)) (.int g) = some (.val (.int ((k : Int) * g))) := by
  refine mul_small ?_ ?_
  · rw [Int.natAbs_natCast]; exact Nat.lt_of_le_of_lt hk big1
  · refine Nat.lt_of_le_of_lt ?_ big3
    omega
namespace M
variable {T : String → Option Fn} {G : String → Option D} {wf : Nat}
theorem many_form_eq (C : BesT T) (hT : T "many_form" = some ir_many_form) (hno : G "NOTHING" = some (fD ([], 0, []))) {B : Int} (hB : B < 10 ^ 44) {m : Nat} {f : Form} (cf : Can f) (lf : FormLe B m f) (hm : m ≤ 1000) {k : Nat} (hk : k ≤ 10 ^ 40) (n : Nat) (S : Sto) :
    callN T G wf (n + 4) "many_form" [.int (k : Int), fD f] S = .ok (.val (fD (manyF k f))) S := by
  have ll := lf.len
  rw [call_eq hT rfl]
  cases k with
  | zero =>
    have e : manyF 0 f = ([], 0, []) := besF_nil
    rw [e]
    unfold ir_many_form
    simp -implicitDefEqProofs [hno, eqD_int]
  | succ k =>
    have z : ¬ (((k + 1 : Nat) : Int) = 0) := by omega
    generalize hkk : ((k + 1 : Nat) : Int) = kk at *
    have mulk : ∀ p : Int × Int, (0 ≤ p.1 ∧ p.1 ≤ B ∧ 0 ≤ p.2 ∧ p.2 ≤ B) → opBinD .mul (.int kk) (.int (p.2 - p.1)) = some (.val (.int (kk * (p.2 - p.1)))) ∧ opBinD .mul (.int kk) (.int (p.1 - p.2)) = some (.val (.int (kk * (p.1 - p.2)))) := fun p hp => by
      rw [← hkk]
      exact ⟨mulC hk (by omega) (by omega) hB, mulC hk (by omega) (by omega) hB⟩
    have k0 : evE ⟨callN T G wf (n + 3), G, wf⟩ c_many_form_0 [.val (.int kk), .val (fD f), .emp, .emp, .emp, .emp] S = .ok (.fresh (.lst ((scaleU kk f.1).map pD))) S := by
      unfold c_many_form_0
      rw [ev_comp_map (items := f.1.map pD) (mupD kk) ?_ ?_ fun x hx => ?_]
      · unfold scaleU
        rw [List.map_map, List.map_map]; rfl
      · unfold fD
        simp -implicitDefEqProofs
      · rw [List.length_map]; unfold sizeLine; omega
      · obtain ⟨p, hp, rfl⟩ := List.mem_map.mp hx
        refine ⟨[.val (.int kk), .val (fD f), .emp, .val (.int p.1), .val (.int p.2), .emp], rfl, rfl, ?_⟩
        have e := (mulk p (lf.up p hp)).1
        simp -implicitDefEqProofs [e]
        rfl
    have k1 : ∀ a : Slot, evE ⟨callN T G wf (n + 3), G, wf⟩ c_many_form_1 [.val (.int kk), .val (fD f), a, .emp, .emp, .emp] S = .ok (.fresh (.lst ((f.2.2.map (dscl kk)).map pD))) S := fun a => by
      unfold c_many_form_1
      rw [ev_comp_map (items := f.2.2.map pD) (mdnD kk) ?_ ?_ fun x hx => ?_]
      · rw [List.map_map, List.map_map]; rfl
      · unfold fD
        simp -implicitDefEqProofs
      · rw [List.length_map]; unfold sizeLine; omega
      · obtain ⟨p, hp, rfl⟩ := List.mem_map.mp hx
        refine ⟨_, rfl, rfl, ?_⟩
        have e := (mulk p (lf.down p hp)).2
        simp -implicitDefEqProofs [e]
        rfl
    have e5 := beside_of_eq (G := G) (wf := wf) C (d0 := .lst ((scaleU kk f.1).map pD)) (d1 := .lst ((f.2.2.map (dscl kk)).map pD)) (.inr rfl) (.inr rfl) (by unfold scaleU; rw [List.length_map]; omega) (by rw [List.length_map]; omega) (tops := [f.2.1]) (show 1 ≤ 100000 by decide) n S
    have e6 := manyF_succ cf k
    rw [hkk] at e6
    unfold besD at e5 e6
    rw [dscl_tnd] at e5
    rw [tnd_tnd] at e6
    rw [e6]
    simp only [List.map_cons, List.map_nil] at e5
    have t : ∃ d : D, fD f = d ∧ opIxD d (.int 1) = some (.val (.int f.2.1)) := ⟨_, rfl, rfl⟩
    obtain ⟨F, hF, t1⟩ := t
    rw [hF] at k0 k1 ⊢
    clear e6 hF mulk hkk
    generalize (scaleU kk f.1).map pD = w1 at *
    generalize (f.2.2.map (dscl kk)).map pD = w2 at *
    generalize fD _ = w3 at *
    unfold ir_many_form
    simp -implicitDefEqProofs [z, k0, k1, e5, t1, eqD_int]
end M
end Px

set_option Elab.async false
set_option linter.all false
set_option maxRecDepth 100000
set_option maxHeartbeats 1000000
/-! Px, part BT: forms beside one another, turned about. -/
namespace Px
open M (besD)
theorem tnd_flat : ∀ ls : List Row, (ls.map tnd).flatten.Perm (tnd ls.flatten)
  | [] => .refl _
  | l :: ls => by
    rw [List.map_cons, List.flatten_cons, List.flatten_cons, tnd_app]
    exact ((tnd_flat ls).append_left (tnd l)).trans List.perm_append_comm
theorem besD_turn (U D : Row) (tops : List Int) : besD (tnd D) tops (tnd U) = turnF (besD U tops D) := by
  unfold besD turnF
  dsimp only
  rw [tnd_tnd, tnd_tnd]
  have g := gend_tnd (jU U) (tnd (jU (tnd D)))
  rw [tnd_tnd] at g
  rw [g]
theorem besF_turn (fs : List Form) : besF (fs.map turnF) = turnF (besF fs) := by
  have e1 : (fs.map turnF).map (·.1) = (fs.map (·.2.2)).map tnd := by rw [List.map_map, List.map_map]; rfl
  have e2 : (fs.map turnF).map (·.2.2) = (fs.map (·.1)).map tnd := by rw [List.map_map, List.map_map]; rfl
  have e3 : (fs.map turnF).map (·.2.1) = fs.map (·.2.1) := by rw [List.map_map]; rfl
  show besD ((fs.map turnF).map (·.1)).flatten ((fs.map turnF).map (·.2.1)) ((fs.map turnF).map (·.2.2)).flatten = turnF (besD _ _ _)
  rw [e1, e2, e3, besD_perm (tnd_flat _) (.refl _) (tnd_flat _), besD_turn]
theorem manyF_turn (k : Nat) (f : Form) : manyF k (turnF f) = turnF (manyF k f) := by
  unfold manyF
  rw [← besF_turn, List.map_replicate]
theorem rowsOf_turn : ∀ fs : List Form, rowsOf (fs.map turnF).reverse = tnd (rowsOf fs)
  | [] => rfl
  | f :: fs => by
    have e : ∀ (a : List Form) (b : Form), rowsOf (a ++ [b]) = rowsOf a ++ formRow b := fun a b => by
      unfold rowsOf
      rw [List.map_append, List.flatten_append]
      simp
    rw [List.map_cons, List.reverse_cons, e, rowsOf_turn fs, ← tnd_formRow]
    show _ = tnd (formRow f ++ rowsOf fs)
    rw [tnd_app]
theorem rowsOf_nn {fs : List Form} (h : ∀ f ∈ fs, Can f) : Nn (rowsOf fs) := fun p hp => by
  obtain ⟨r, hr, hp⟩ := List.mem_flatten.mp hp
  obtain ⟨f, hf, rfl⟩ := List.mem_map.mp hr
  exact (h f hf).nn p hp
theorem manyF_len {f : Form} (h : Can f) : ∀ k, (manyF k f).1.length + (manyF k f).2.2.length ≤ f.1.length + f.2.2.length
  | 0 => by
    have e : manyF 0 f = ([], 0, []) := besF_nil
    rw [e]
    exact Nat.zero_le _
  | k + 1 => by
    rw [manyF_succ h]
    show (jU _).length + (tnd (jU (tnd (tnd (scaleU _ (tnd f.2.2)))))).length ≤ _
    rw [tnd_tnd, tnd_len]
    have a := jU_len (scaleU ((k + 1 : Nat) : Int) f.1)
    have b := jU_len (scaleU ((k + 1 : Nat) : Int) (tnd f.2.2))
    have c : ∀ (x : Int) (u : Row), (scaleU x u).length = u.length := fun x u => by unfold scaleU; rw [List.length_map]
    rw [c] at a b
    rw [tnd_len] at b
    omega
theorem manyF_le {B : Int} {m : Nat} {f : Form} (cf : Can f) (lf : FormLe B m f) (k : Nat) : FormLe (B * (m * k + 1 : Nat)) m (manyF k f) := by
  have q := besF_le (B := B) (Int.le_trans lf.t0 lf.t1) (k := m) (N := m * k) (fs := List.replicate k f) (fun g hg => by rw [List.eq_of_mem_replicate hg]; exact lf) (by rw [List.length_replicate]; exact Nat.le_refl _)
  exact ⟨q.up, q.down, q.t0, q.t1, Nat.le_trans (manyF_len cf k) lf.len⟩
end Px

set_option Elab.async false
set_option linter.all false
set_option maxRecDepth 100000
set_option maxHeartbeats 1000000
/-! Px, part BU: heaps of pairs: where they lead from a purse; joining some of them first. -/
namespace Px
/-- the gains of the pairs whose need is at most x -/
def gs (P : Row) (x : Int) : Int := (P.map fun p => if p.1 ≤ x then gn p else 0).sum
theorem gs_nil (x : Int) : gs [] x = 0 := rfl
theorem gs_cons (p : Int × Int) (P : Row) (x : Int) : gs (p :: P) x = (if p.1 ≤ x then gn p else 0) + gs P x := by
  unfold gs; rw [List.map_cons, List.sum_cons]
theorem gs_app (P Q : Row) (x : Int) : gs (P ++ Q) x = gs P x + gs Q x := by
  unfold gs; rw [List.map_append, List.sum_append]
theorem sum_perm {a b : List Int} (h : a.Perm b) : a.sum = b.sum := by
  induction h with
  | nil => rfl
  | cons x _ ih => rw [List.sum_cons, List.sum_cons, ih]
  | swap x y l => rw [List.sum_cons, List.sum_cons, List.sum_cons, List.sum_cons]; omega
  | trans _ _ h1 h2 => rw [h1, h2]
theorem gs_perm {P Q : Row} (h : P.Perm Q) (x : Int) : gs P x = gs Q x := sum_perm (h.map _)
/-- pairs that gain -/
def Gp (P : Row) : Prop := ∀ p ∈ P, 0 ≤ p.1 ∧ p.1 < p.2
theorem Gp.tail {p : Int × Int} {P : Row} (h : Gp (p :: P)) : (0 ≤ p.1 ∧ p.1 < p.2) ∧ Gp P := ⟨h p List.mem_cons_self, fun q hq => h q (List.mem_cons_of_mem _ hq)⟩
theorem Gp.app {P Q : Row} (h : Gp P) (g : Gp Q) : Gp (P ++ Q) := fun p hp => (List.mem_append.mp hp).elim (h p) (g p)
theorem Gp.perm {P Q : Row} (h : Gp P) (e : P.Perm Q) : Gp Q := fun p hp => h p (e.mem_iff.mpr hp)
theorem gs_mono {P : Row} (h : Gp P) {x y : Int} (hxy : x ≤ y) : 0 ≤ gs P x ∧ gs P x ≤ gs P y ∧ gs P y ≤ ris P := by
  induction P with
  | nil => exact ⟨Int.le_refl _, Int.le_refl _, Int.le_refl _⟩
  | cons p P ih =>
    obtain ⟨h1, h2⟩ := h.tail
    obtain ⟨a, b, c⟩ := ih h2
    rw [gs_cons, gs_cons, ris_cons]
    unfold gn
    split <;> split <;> omega
/-- from s the pairs lead to x -/
structure EndAt (P : Row) (s x : Int) : Prop where
  ge : s ≤ x
  fix : s + gs P x = x
  low : ∀ y, s ≤ y → s + gs P y ≤ y → x ≤ y
theorem EndAt.uniq {P : Row} {s x y : Int} (h : EndAt P s x) (g : EndAt P s y) : x = y :=
  Int.le_antisymm (h.low y g.ge (Int.le_of_eq g.fix)) (g.low x h.ge (Int.le_of_eq h.fix))
theorem EndAt.perm {P Q : Row} {s x : Int} (h : EndAt P s x) (e : P.Perm Q) : EndAt Q s x :=
  ⟨h.ge, by rw [← gs_perm e]; exact h.fix, fun y hy q => h.low y hy (by rw [gs_perm e]; exact q)⟩
theorem gs_above {P : Row} {x : Int} (h : ∀ p ∈ P, x < p.1) : gs P x = 0 := by
  induction P with
  | nil => rfl
  | cons p P ih =>
    rw [gs_cons, ih fun q hq => h q (List.mem_cons_of_mem _ hq), if_neg (by have := h p List.mem_cons_self; omega)]
    omega
theorem leP_fst {p q : Int × Int} (h : leP p q = true) : p.1 ≤ q.1 := by
  unfold leP at h
  simp only [Bool.or_eq_true, Bool.and_eq_true, decide_eq_true_eq] at h
  omega
theorem end_rch : ∀ {P : Row} {s : Int}, Gp P → P.Pairwise (fun p q => leP p q = true) → EndAt P s (rch P s)
  | [], s, _, _ => ⟨Int.le_refl _, by rw [gs_nil]; show s + 0 = s; omega, fun y hy _ => hy⟩
  | q :: P, s, h, hs => by
    obtain ⟨h1, h2⟩ := h.tail
    obtain ⟨s1, s2⟩ := List.pairwise_cons.mp hs
    rw [rch_cons]
    by_cases c : s < q.1
    · rw [if_pos c]
      refine ⟨Int.le_refl _, ?_, fun y hy _ => hy⟩
      rw [gs_above fun p hp => ?_]
      · omega
      · rcases List.mem_cons.mp hp with rfl | hp
        · exact c
        · have := leP_fst (s1 p hp)
          omega
    · rw [if_neg c]
      have ih := end_rch (P := P) (s := s + gn q) h2 s2
      have g0 : 0 < gn q := by unfold gn; omega
      have e : max s (rch P (s + gn q)) = rch P (s + gn q) := by have := ih.ge; omega
      rw [e]
      have ge := ih.ge
      refine ⟨by omega, ?_, fun y hy hq => ?_⟩
      · rw [gs_cons, if_pos (by omega)]
        have := ih.fix
        omega
      · rw [gs_cons, if_pos (by omega)] at hq
        have := (gs_mono h2 (Int.le_refl y)).1
        exact ih.low y (by omega) (by omega)
theorem end_merge {X : Row} {q p : Int × Int} {s x : Int} (hX : Gp X) (hq : 0 ≤ q.1 ∧ q.1 < q.2) (hp : 0 ≤ p.1 ∧ p.1 < p.2) (h1 : q.1 ≤ p.1) (h2 : p.1 ≤ q.2) (h : EndAt (q :: p :: X) s x) : EndAt ((q.1, q.2 + p.2 - p.1) :: X) s x := by
  have g1 : gn q = q.2 - q.1 := rfl
  have g2 : gn p = p.2 - p.1 := rfl
  have g3 : gn (q.1, q.2 + p.2 - p.1) = gn q + gn p := by unfold gn; dsimp only; omega
  have fx := h.fix
  have ge := h.ge
  rw [gs_cons, gs_cons] at fx
  refine ⟨ge, ?_, fun y hy hq2 => h.low y hy ?_⟩
  · rw [gs_cons]
    dsimp only
    by_cases c : q.1 ≤ x
    · rw [if_pos c, g3]
      rw [if_pos c] at fx
      by_cases d : p.1 ≤ x
      · rw [if_pos d] at fx
        omega
      · rw [if_neg d] at fx
        have m := gs_mono hX (x := x - gn q) (y := x) (by omega)
        have := h.low (x - gn q) (by omega) (by
          rw [gs_cons, gs_cons, if_neg (by omega), if_neg (by omega)]
          omega)
        omega
    · rw [if_neg c]
      rw [if_neg c, if_neg (by omega)] at fx
      omega
  · rw [gs_cons] at hq2
    dsimp only at hq2
    rw [gs_cons, gs_cons]
    by_cases c : q.1 ≤ y
    · rw [if_pos c, g3] at hq2
      rw [if_pos c]
      split <;> omega
    · rw [if_neg c] at hq2
      rw [if_neg c, if_neg (by omega)]
      omega
theorem joinStep_gp {F : Row} {p : Int × Int} (h : Gp F) (hp : 0 ≤ p.1 ∧ p.1 < p.2) : Gp (joinStep F p) := by
  rcases nil_or_snoc F with rfl | ⟨G, q, rfl⟩
  · rw [joinStep_nil]
    intro r hr
    rw [List.mem_singleton] at hr
    subst hr
    exact hp
  · rw [joinStep_snoc]
    have hq := h q (by simp)
    split
    · intro r hr
      rcases List.mem_append.mp hr with hr | hr
      · exact h r (List.mem_append_left _ hr)
      · rw [List.mem_singleton] at hr
        subst hr
        show 0 ≤ q.1 ∧ q.1 < q.2 + p.2 - p.1
        omega
    · intro r hr
      rcases List.mem_append.mp hr with hr | hr
      · exact h r hr
      · rw [List.mem_singleton] at hr
        subst hr
        exact hp
theorem joinStep_need {F : Row} {p : Int × Int} {a : Int} (h : ∀ q ∈ F, q.1 ≤ a) (hp : p.1 ≤ a) : ∀ q ∈ joinStep F p, q.1 ≤ a := by
  rcases nil_or_snoc F with rfl | ⟨G, q, rfl⟩
  · rw [joinStep_nil]
    intro r hr
    rw [List.mem_singleton] at hr
    subst hr
    exact hp
  · rw [joinStep_snoc]
    split
    · intro r hr
      rcases List.mem_append.mp hr with hr | hr
      · exact h r (List.mem_append_left _ hr)
      · rw [List.mem_singleton] at hr
        subst hr
        exact h q (by simp)
    · intro r hr
      rcases List.mem_append.mp hr with hr | hr
      · exact h r hr
      · rw [List.mem_singleton] at hr
        subst hr
        exact hp
theorem end_joins {X : Row} {s x : Int} (hX : Gp X) : ∀ {ps F : Row}, Gp F → Gp ps → ps.Pairwise (fun p q => leP p q = true) → (∀ q ∈ F, ∀ p ∈ ps, q.1 ≤ p.1) → EndAt (F ++ ps ++ X) s x → EndAt (ps.foldl joinStep F ++ X) s x
  | [], F, _, _, _, _, h => by rwa [List.append_nil] at h
  | p :: ps, F, hF, hps, hs, hord, h => by
    obtain ⟨hp, hps2⟩ := hps.tail
    obtain ⟨s1, s2⟩ := List.pairwise_cons.mp hs
    rw [List.foldl_cons]
    refine end_joins hX (joinStep_gp hF hp) hps2 s2 (fun q hq r hr => joinStep_need (fun t ht => hord t ht r (List.mem_cons_of_mem _ hr)) (leP_fst (s1 r hr)) q hq) ?_
    rcases nil_or_snoc F with rfl | ⟨G, q, rfl⟩
    · exact h
    · rw [joinStep_snoc]
      have hq := hF q (by simp)
      by_cases c : q.2 ≥ p.1
      · rw [if_pos c]
        have perm1 : (G ++ [q] ++ (p :: ps) ++ X).Perm (q :: p :: (G ++ ps ++ X)) := by
          have : G ++ [q] ++ (p :: ps) ++ X = G ++ (q :: p :: (ps ++ X)) := by simp
          rw [this, List.append_assoc]
          exact List.perm_middle.trans ((List.perm_middle).cons q)
        have perm2 : ((q.1, q.2 + p.2 - p.1) :: (G ++ ps ++ X)).Perm (G ++ [(q.1, q.2 + p.2 - p.1)] ++ ps ++ X) := by
          have : G ++ [(q.1, q.2 + p.2 - p.1)] ++ ps ++ X = G ++ ((q.1, q.2 + p.2 - p.1) :: (ps ++ X)) := by simp
          rw [this, List.append_assoc]
          exact List.perm_middle.symm
        exact (end_merge ((Gp.app (fun r hr => hF r (List.mem_append_left _ hr)) hps2).app hX) hq hp (hord q (by simp) p List.mem_cons_self) c (h.perm perm1)).perm perm2
      · rw [if_neg c]
        have : G ++ [q] ++ [p] ++ ps ++ X = G ++ [q] ++ (p :: ps) ++ X := by simp
        rw [this]
        exact h
theorem rise_gp : ∀ {u : Row} {a : Int}, 0 ≤ a → Rise a u → Gp u
  | [], _, _, _ => fun p hp => nomatch hp
  | q :: u, a, h0, h => fun p hp => by
    obtain ⟨h1, h2, h3⟩ := h
    rcases List.mem_cons.mp hp with rfl | hp
    · exact ⟨by omega, h2⟩
    · exact rise_gp (by omega) h3 p hp
theorem rise_pw : ∀ {u : Row} {a : Int}, Rise a u → u.Pairwise (fun p q => leP p q = true) ∧ ∀ p ∈ u, a ≤ p.1
  | [], _, _ => ⟨.nil, fun p hp => nomatch hp⟩
  | q :: u, a, h => by
    obtain ⟨h1, h2, h3⟩ := h
    obtain ⟨a1, a2⟩ := rise_pw h3
    refine ⟨List.pairwise_cons.mpr ⟨fun y hy => leP_lt (by have := a2 y hy; omega), a1⟩, fun p hp => ?_⟩
    rcases List.mem_cons.mp hp with rfl | hp
    · exact h1
    · have := a2 p hp
      omega
theorem joinStep_rise {F : Row} {p : Int × Int} (h : Rise 0 F) (hp : 0 ≤ p.1 ∧ p.1 < p.2) : Rise 0 (joinStep F p) := by
  rcases nil_or_snoc F with rfl | ⟨G, q, rfl⟩
  · rw [joinStep_nil]
    exact ⟨hp.1, hp.2, trivial⟩
  · rw [joinStep_snoc]
    split
    · have := rise_last (m := p.2 - p.1) h (by omega)
      rw [show q.2 + p.2 - p.1 = q.2 + (p.2 - p.1) by omega]
      exact this
    · have e : ∀ (v : Row) (a : Int), endR a (v ++ [q]) = q.2 + 1 := fun v => by
        induction v with
        | nil => intro a; rfl
        | cons s v ih => intro a; exact ih _
      exact (rise_snoc h (by rw [e]; omega) hp.2).1
theorem jfold_rise : ∀ {ps F : Row}, Rise 0 F → Gp ps → Rise 0 (ps.foldl joinStep F)
  | [], _, h, _ => h
  | p :: ps, F, h, hp => jfold_rise (ps := ps) (F := joinStep F p) (joinStep_rise h hp.tail.1) hp.tail.2
theorem jU_rise {P : Row} (h : Gp P) : Rise 0 (jU P) := jfold_rise (F := []) trivial (h.perm (List.mergeSort_perm P leP).symm)
theorem ris_joinStep (F : Row) (p : Int × Int) : ris (joinStep F p) = ris F + gn p := by
  rcases nil_or_snoc F with rfl | ⟨G, q, rfl⟩
  · rw [joinStep_nil, ris_cons, ris_nil]; omega
  · rw [joinStep_snoc]
    split
    · rw [ris_app, ris_app, ris_cons, ris_cons, ris_nil]
      unfold gn
      dsimp only
      omega
    · rw [ris_app, ris_cons, ris_nil]; omega
theorem ris_jfold : ∀ (ps F : Row), ris (ps.foldl joinStep F) = ris F + ris ps
  | [], F => by rw [ris_nil]; show ris F = _; omega
  | p :: ps, F => by rw [List.foldl_cons, ris_jfold ps, ris_joinStep, ris_cons]; omega
theorem ris_perm {P Q : Row} (h : P.Perm Q) : ris P = ris Q := sum_perm (h.map _)
theorem ris_jU (P : Row) : ris (jU P) = ris P := by
  unfold jU
  rw [ris_jfold, ris_nil, ris_perm (List.mergeSort_perm P leP)]
  omega
theorem jU_end {P : Row} (h : Gp P) (s : Int) : EndAt P s (rch (jU P) s) ∧ EndAt (jU P) s (rch (jU P) s) := by
  have pm := List.mergeSort_perm P leP
  have hs := h.perm pm.symm
  have pw := List.pairwise_mergeSort leP_tr leP_to P
  have e1 := end_rch (s := s) hs pw
  have r := jU_rise h
  have e2 := end_rch (s := s) (rise_gp (Int.le_refl 0) r) (rise_pw r).1
  have e3 := end_joins (X := []) (F := []) (fun p hp => nomatch hp) (fun p hp => nomatch hp) hs pw (fun q hq => nomatch hq) (by rw [List.append_nil]; exact e1)
  rw [List.append_nil] at e3
  have e4 := EndAt.uniq e3 e2
  rw [e4] at e1
  exact ⟨e1.perm pm, e2⟩
theorem jU_ext {P Q : Row} (hP : Gp P) (hQ : Gp Q) (h : ∀ s x, EndAt P s x → EndAt Q s x) : jU P = jU Q :=
  rise_uniq (Int.le_refl 0) (jU_rise hP) (jU_rise hQ) fun s _ => EndAt.uniq (h s _ (jU_end hP s).1) (jU_end hQ s).1
theorem jU_gp {P : Row} (h : Gp P) : Gp (jU P) := rise_gp (Int.le_refl 0) (jU_rise h)
/-- some joined first -/
theorem jU_app {P Q : Row} (hP : Gp P) (hQ : Gp Q) : jU (jU P ++ Q) = jU (P ++ Q) := by
  refine (jU_ext (hP.app hQ) ((jU_gp hP).app hQ) fun s x h => ?_).symm
  have pm := List.mergeSort_perm P leP
  exact end_joins (F := []) hQ (fun p hp => nomatch hp) (hP.perm pm.symm) (List.pairwise_mergeSort leP_tr leP_to P) (fun q hq => nomatch hq) (h.perm (pm.symm.append_right Q))
theorem jU_app2 {P Q : Row} (hP : Gp P) (hQ : Gp Q) : jU (P ++ jU Q) = jU (P ++ Q) := by
  rw [jU_perm List.perm_append_comm, jU_app hQ hP, jU_perm List.perm_append_comm]
theorem jU_both {P Q : Row} (hP : Gp P) (hQ : Gp Q) : jU (jU P ++ jU Q) = jU (P ++ Q) := by
  rw [jU_app hP (jU_gp hQ), jU_app2 hP hQ]
theorem jU_jU {P : Row} (hP : Gp P) : jU (jU P) = jU P := by
  have := jU_app hP (Q := []) (fun p hp => nomatch hp)
  rwa [List.append_nil, List.append_nil] at this
theorem rise_lt {u : Row} (h : Rise 0 u) {p : Int} (hp : 0 ≤ p) (hr : rch u p = p + ris u) : need u ≤ p := by
  rcases Int.lt_or_le p (need u) with c | c
  · exfalso
    have gp := rise_gp (Int.le_refl 0) h
    have e := end_rch (s := p) gp (rise_pw h).1
    obtain ⟨l, _⟩ := rise_need (Int.le_refl 0) h
    have l' : need u = max 0 (lastM u) - ris u := l
    rcases nil_or_snoc u with rfl | ⟨v, q, rfl⟩
    · rw [need_nil] at c
      omega
    · have lq : lastM (v ++ [q]) = q.2 := by unfold lastM; rw [List.getLast?_concat]; rfl
      have hq := gp q (by simp)
      have gv : Gp v := fun r hr => gp r (List.mem_append_left _ hr)
      have rv : ris (v ++ [q]) = ris v + gn q := by rw [ris_app, ris_cons, ris_nil]; omega
      have g1 : gn q = q.2 - q.1 := rfl
      have m := gs_mono gv (Int.le_refl (p + ris v))
      rw [lq] at l'
      rw [hr] at e
      have := e.low (p + ris v) (by omega) (by
        rw [gs_app, gs_cons, gs_nil, if_neg (by omega)]
        omega)
      omega
  · exact c
theorem rise_last_eq {u : Row} (h : Rise 0 u) : lastM u = need u + ris u := by
  obtain ⟨l, _⟩ := rise_need (Int.le_refl 0) h
  have l' : need u = max 0 (lastM u) - ris u := l
  have := lastM_nn (rise_nn (Int.le_refl 0) h)
  omega
/-- more pairs: the last end is no lower -/
theorem last_mono {P Q : Row} (hP : Gp P) (hQ : Gp Q) : lastM (jU P) ≤ lastM (jU (P ++ Q)) := by
  have rU := jU_rise hP
  have rV := jU_rise (hP.app hQ)
  have n0 := need_nn (jU (P ++ Q))
  have q0 := gs_mono hQ (Int.le_refl 0)
  obtain ⟨e1, _⟩ := jU_end (hP.app hQ) (need (jU (P ++ Q)))
  rw [rise_rch rV (Int.le_refl _), ris_jU, ris_app] at e1
  have fx := e1.fix
  rw [gs_app] at fx
  have mP := gs_mono hP (Int.le_refl (need (jU (P ++ Q)) + (ris P + ris Q)))
  have mQ := gs_mono hQ (Int.le_refl (need (jU (P ++ Q)) + (ris P + ris Q)))
  have e2 : EndAt P (need (jU (P ++ Q)) + ris Q) (need (jU (P ++ Q)) + (ris P + ris Q)) := by
    refine ⟨by omega, by omega, fun y hy hq => e1.low y (by omega) ?_⟩
    rw [gs_app]
    have := gs_mono hQ (Int.le_refl y)
    omega
  obtain ⟨e3, _⟩ := jU_end hP (need (jU (P ++ Q)) + ris Q)
  have e4 := EndAt.uniq e3 e2
  have a := rise_lt rU (p := need (jU (P ++ Q)) + ris Q) (by omega) (by rw [e4, ris_jU]; omega)
  rw [rise_last_eq rU, rise_last_eq rV, ris_jU, ris_jU, ris_app]
  omega
end Px

set_option Elab.async false
set_option linter.all false
set_option maxRecDepth 100000
set_option maxHeartbeats 1000000
/-! Px, part BV: brackets of forms beside one another. -/
namespace Px
open M (besD)
theorem Can.gpU {f : Form} (h : Can f) : Gp f.1 := rise_gp (Int.le_refl 0) h.up
theorem Can.gpD {f : Form} (h : Can f) : Gp (tnd f.2.2) := rise_gp (Int.le_refl 0) h.down
def upsOf (fs : List Form) : Row := (fs.map (·.1)).flatten
def dnsOf (fs : List Form) : Row := (fs.map (·.2.2)).flatten
theorem besF_def (fs : List Form) : besF fs = besD (upsOf fs) (fs.map (·.2.1)) (dnsOf fs) := rfl
theorem upsOf_app (a b : List Form) : upsOf (a ++ b) = upsOf a ++ upsOf b := by unfold upsOf; rw [List.map_append, List.flatten_append]
theorem dnsOf_app (a b : List Form) : dnsOf (a ++ b) = dnsOf a ++ dnsOf b := by unfold dnsOf; rw [List.map_append, List.flatten_append]
theorem upsOf_gp : ∀ {fs : List Form}, (∀ f ∈ fs, Can f) → Gp (upsOf fs)
  | [], _ => fun p hp => nomatch (show p ∈ ([] : Row) from hp)
  | f :: fs, h => (h f List.mem_cons_self).gpU.app (upsOf_gp fun g hg => h g (List.mem_cons_of_mem _ hg))
theorem dnsOf_gp : ∀ {fs : List Form}, (∀ f ∈ fs, Can f) → Gp (tnd (dnsOf fs))
  | [], _ => fun p hp => nomatch (show p ∈ ([] : Row) from hp)
  | f :: fs, h => by
    show Gp (tnd (f.2.2 ++ dnsOf fs))
    rw [tnd_app]
    exact (dnsOf_gp fun g hg => h g (List.mem_cons_of_mem _ hg)).app (h f List.mem_cons_self).gpD
theorem besD_can {A C : Row} {t : List Int} (hA : Gp A) (hC : Gp (tnd C)) : Can (besD A t C) := by
  refine ⟨jU_rise hA, ?_, ?_⟩
  · show Rise 0 (tnd (tnd (jU (tnd C))))
    rw [tnd_tnd]
    exact jU_rise hC
  · exact (greatest_is (gend (jU A) (tnd (jU (tnd C))) :: t) (by simp)).2 _ List.mem_cons_self
theorem besF_can {fs : List Form} (h : ∀ f ∈ fs, Can f) : Can (besF fs) := besD_can (upsOf_gp h) (dnsOf_gp h)
theorem gend_tnd2 (u d : Row) : gend u (tnd d) = max (max 0 (lastM u)) (lastM d) := by
  unfold gend
  rw [firstN_tnd]
theorem gend_mono {A B C D : Row} (hA : Gp A) (hB : Gp B) (hC : Gp C) (hD : Gp D) : gend (jU A) (tnd (jU C)) ≤ gend (jU (A ++ B)) (tnd (jU (C ++ D))) := by
  rw [gend_tnd2, gend_tnd2]
  have := last_mono hA hB
  have := last_mono hC hD
  omega
theorem greatest_two {g g1 g2 : Int} {t1 t2 : List Int} (h1 : g1 ≤ g) (h2 : g2 ≤ g) : greatest [g, greatest (g1 :: t1), greatest (g2 :: t2)] = greatest (g :: (t1 ++ t2)) := by
  obtain ⟨a1, a2⟩ := greatest_is (g1 :: t1) (by simp)
  obtain ⟨b1, b2⟩ := greatest_is (g2 :: t2) (by simp)
  obtain ⟨c1, c2⟩ := greatest_is (g :: (t1 ++ t2)) (by simp)
  obtain ⟨d1, d2⟩ := greatest_is [g, greatest (g1 :: t1), greatest (g2 :: t2)] (by simp)
  have cg := c2 g List.mem_cons_self
  have k1 : greatest (g1 :: t1) ≤ greatest (g :: (t1 ++ t2)) := by
    rcases List.mem_cons.mp a1 with q | q
    · omega
    · exact c2 _ (List.mem_cons_of_mem _ (List.mem_append_left _ q))
  have k2 : greatest (g2 :: t2) ≤ greatest (g :: (t1 ++ t2)) := by
    rcases List.mem_cons.mp b1 with q | q
    · omega
    · exact c2 _ (List.mem_cons_of_mem _ (List.mem_append_right _ q))
  refine Int.le_antisymm ?_ ?_
  · rcases List.mem_cons.mp d1 with q | q
    · omega
    · rcases List.mem_cons.mp q with q | q
      · omega
      · rw [List.mem_singleton] at q
        omega
  · have e0 := d2 g List.mem_cons_self
    have e1 := d2 (greatest (g1 :: t1)) (by simp)
    have e2 := d2 (greatest (g2 :: t2)) (by simp)
    rcases List.mem_cons.mp c1 with q | q
    · omega
    · rcases List.mem_append.mp q with q | q
      · have := a2 _ (List.mem_cons_of_mem _ q)
        omega
      · have := b2 _ (List.mem_cons_of_mem _ q)
        omega
theorem besF_cat {fs gs : List Form} (hf : ∀ f ∈ fs, Can f) (hg : ∀ g ∈ gs, Can g) : besF [besF fs, besF gs] = besF (fs ++ gs) := by
  have A := upsOf_gp hf
  have B := upsOf_gp hg
  have C := dnsOf_gp hf
  have D := dnsOf_gp hg
  have eU : jU (jU (upsOf fs) ++ (jU (upsOf gs) ++ [])) = jU (upsOf fs ++ upsOf gs) := by rw [List.append_nil]; exact jU_both A B
  have eD : jU (tnd (tnd (jU (tnd (dnsOf fs))) ++ (tnd (jU (tnd (dnsOf gs))) ++ []))) = jU (tnd (dnsOf fs ++ dnsOf gs)) := by
    rw [List.append_nil, tnd_app, tnd_app, tnd_tnd, tnd_tnd]
    exact jU_both D C
  have g1 := gend_mono A B C D
  have g2 := gend_mono B A D C
  rw [jU_perm (List.perm_append_comm (l₁ := tnd (dnsOf fs)) (l₂ := tnd (dnsOf gs)))] at g1
  rw [jU_perm (List.perm_append_comm (l₁ := upsOf gs) (l₂ := upsOf fs))] at g2
  rw [← tnd_app] at g1 g2
  rw [besF_def (fs ++ gs), upsOf_app, dnsOf_app, List.map_append]
  show (jU (jU (upsOf fs) ++ (jU (upsOf gs) ++ [])), greatest [gend (jU (jU (upsOf fs) ++ (jU (upsOf gs) ++ []))) (tnd (jU (tnd (tnd (jU (tnd (dnsOf fs))) ++ (tnd (jU (tnd (dnsOf gs))) ++ []))))), greatest (gend (jU (upsOf fs)) (tnd (jU (tnd (dnsOf fs)))) :: fs.map (·.2.1)), greatest (gend (jU (upsOf gs)) (tnd (jU (tnd (dnsOf gs)))) :: gs.map (·.2.1))], tnd (jU (tnd (tnd (jU (tnd (dnsOf fs))) ++ (tnd (jU (tnd (dnsOf gs))) ++ []))))) = _
  rw [eU, eD, greatest_two g1 g2]
  rfl
theorem jU_self {u : Row} (h : Rise 0 u) : jU u = u := by
  have gp := rise_gp (Int.le_refl 0) h
  refine rise_uniq (Int.le_refl 0) (jU_rise gp) h fun s _ => ?_
  exact EndAt.uniq (jU_end gp s).1 (end_rch gp (rise_pw h).1)
theorem besF_one {f : Form} (h : Can f) : besF [f] = f := by
  have t := h.top
  have eU : jU (upsOf [f]) = f.1 := by
    show jU (f.1 ++ []) = _
    rw [List.append_nil, jU_self h.up]
  have eD : tnd (jU (tnd (dnsOf [f]))) = f.2.2 := by
    show tnd (jU (tnd (f.2.2 ++ []))) = _
    rw [List.append_nil, jU_self h.down, tnd_tnd]
  have eT : greatest [gend f.1 f.2.2, f.2.1] = f.2.1 := by
    show (if f.2.1 > gend f.1 f.2.2 then f.2.1 else gend f.1 f.2.2) = _
    split <;> omega
  rw [besF_def]
  show (jU (upsOf [f]), greatest [gend (jU (upsOf [f])) (tnd (jU (tnd (dnsOf [f])))), f.2.1], tnd (jU (tnd (dnsOf [f])))) = f
  rw [eU, eD, eT]
theorem besF_join : ∀ {L : List (List Form)}, (∀ l ∈ L, ∀ f ∈ l, Can f) → besF (L.map besF) = besF L.flatten
  | [], _ => rfl
  | l :: L, h => by
    have hl := h l List.mem_cons_self
    have hL : ∀ k ∈ L, ∀ f ∈ k, Can f := fun k hk => h k (List.mem_cons_of_mem _ hk)
    have hfl : ∀ f ∈ L.flatten, Can f := fun f hf => by
      obtain ⟨k, hk, hf⟩ := List.mem_flatten.mp hf
      exact hL k hk f hf
    have hM : ∀ f ∈ L.map besF, Can f := fun f hf => by
      obtain ⟨k, hk, rfl⟩ := List.mem_map.mp hf
      exact besF_can (hL k hk)
    have c := besF_can hl
    rw [List.map_cons, List.flatten_cons, ← besF_cat hl hfl, ← besF_join hL]
    have := besF_cat (fs := [besF l]) (gs := L.map besF) (fun f hf => by rw [List.mem_singleton] at hf; subst hf; exact c) hM
    rw [besF_one c] at this
    exact this.symm
theorem nothing_can : Can (([], 0, []) : Form) := ⟨trivial, trivial, Int.le_refl 0⟩
end Px

set_option Elab.async false
set_option linter.all false
set_option maxRecDepth 100000
set_option maxHeartbeats 1000000
/-! Px, part BW: nothing among forms, copies of some, the least, gains. -/
namespace Px
open M (besD)
theorem besF_cons_nothing {fs : List Form} (h : ∀ f ∈ fs, Can f) : besF (([], 0, []) :: fs) = besF fs := by
  have e : ∀ gs : List Form, (∀ f ∈ gs, Can f) → (gs.map fun f => [f]).map besF = gs := fun gs => by
    induction gs with
    | nil => intro _; rfl
    | cons g gs ih =>
      intro hg
      rw [List.map_cons, List.map_cons, besF_one (hg g List.mem_cons_self), ih fun f hf => hg f (List.mem_cons_of_mem _ hf)]
  have e2 : ∀ gs : List Form, (gs.map fun f => [f]).flatten = gs := fun gs => by
    induction gs with
    | nil => rfl
    | cons g gs ih => rw [List.map_cons, List.flatten_cons, ih]; rfl
  have j := besF_join (L := [] :: fs.map fun f => [f]) (fun l hl f hf => by
    rcases List.mem_cons.mp hl with rfl | hl
    · exact nomatch hf
    · obtain ⟨g, hg, rfl⟩ := List.mem_map.mp hl
      rw [List.mem_singleton] at hf
      subst hf
      exact h _ hg)
  rw [List.map_cons, List.flatten_cons, besF_nil, e fs h, e2 fs] at j
  exact j
theorem besF_nothing {fs gs : List Form} (h : ∀ f ∈ fs ++ gs, Can f) : besF (fs ++ [([], 0, [])] ++ gs) = besF (fs ++ gs) := by
  rw [← besF_cons_nothing h]
  refine besF_perm ?_
  rw [List.append_assoc]
  exact List.perm_middle
theorem rep_permF {α : Type} (k : Nat) : ∀ u : List α, (u ++ (u.map (List.replicate k)).flatten).Perm (u.map (List.replicate (k + 1))).flatten
  | [] => .refl _
  | q :: u => by
    rw [List.map_cons, List.flatten_cons, List.map_cons, List.flatten_cons, List.replicate_succ, List.cons_append, List.cons_append]
    refine List.Perm.cons q ?_
    exact List.perm_append_comm_assoc u _ _ |>.trans ((rep_permF k u).append_left _)
theorem cop_permF {α : Type} (u : List α) : ∀ k, ((List.replicate k u).flatten).Perm (u.map (List.replicate k)).flatten
  | 0 => by
    have : (u.map (List.replicate 0)).flatten = [] := by
      induction u with
      | nil => rfl
      | cons q u ih => rw [List.map_cons, List.flatten_cons, ih]; rfl
    rw [this]
    exact .refl _
  | k + 1 => by
    rw [List.replicate_succ, List.flatten_cons]
    exact ((cop_permF u k).append_left u).trans (rep_permF k u)
theorem manyF_can {f : Form} (h : Can f) (k : Nat) : Can (manyF k f) := besF_can fun g hg => by rw [List.eq_of_mem_replicate hg]; exact h
/-- copies of some beside one another are copies of each -/
theorem many_bes {fs : List Form} (h : ∀ f ∈ fs, Can f) (k : Nat) : besF (fs.map (manyF k)) = manyF k (besF fs) := by
  have a := besF_join (L := fs.map (List.replicate k)) (fun l hl f hf => by
    obtain ⟨g, hg, rfl⟩ := List.mem_map.mp hl
    rw [List.eq_of_mem_replicate hf]
    exact h g hg)
  have b := besF_join (L := List.replicate k fs) (fun l hl f hf => by
    rw [List.eq_of_mem_replicate hl] at hf
    exact h f hf)
  rw [List.map_map] at a
  rw [List.map_replicate] at b
  show besF (fs.map (besF ∘ List.replicate k)) = besF (List.replicate k (besF fs))
  rw [a, b]
  exact (besF_perm (cop_permF fs k)).symm
/-! ### behind one another -/
theorem rowsOf_app (a b : List Form) : rowsOf (a ++ b) = rowsOf a ++ rowsOf b := by unfold rowsOf; rw [List.map_append, List.flatten_append]
theorem then_two {a b : List Form} (ha : ∀ f ∈ a, Can f) (hb : ∀ f ∈ b, Can f) : formOf (rowsOf [formOf (rowsOf a), formOf (rowsOf b)]) = formOf (rowsOf (a ++ b)) := by
  have s := (same_rows (rs := [rowsOf a, rowsOf b]) fun r hr => by
    simp only [List.mem_cons, List.not_mem_nil, or_false] at hr
    rcases hr with rfl | rfl
    · exact rowsOf_nn ha
    · exact rowsOf_nn hb).form
  rw [rowsOf_app]
  show formOf (rowsOf ([rowsOf a, rowsOf b].map formOf)) = _
  rw [s]
  show formOf (rowsOf a ++ (rowsOf b ++ [])) = _
  rw [List.append_nil]
theorem same_nothing : Same (formRow ([], 0, [])) [] := by
  have := same_row (r := []) (fun p hp => nomatch hp)
  rwa [formOf_nil] at this
theorem then_nothing {a b : List Form} (ha : ∀ f ∈ a, Can f) (hb : ∀ f ∈ b, Can f) : formOf (rowsOf (a ++ [([], 0, [])] ++ b)) = formOf (rowsOf (a ++ b)) := by
  have s := ((Same.refl (rowsOf_nn ha)).app same_nothing).app (Same.refl (rowsOf_nn hb))
  rw [rowsOf_app, rowsOf_app, rowsOf_app]
  show formOf (rowsOf a ++ (formRow ([], 0, []) ++ []) ++ rowsOf b) = _
  rw [List.append_nil]
  rw [s.form, List.append_nil]
/-! ### gains -/
theorem ris_upsOf : ∀ fs : List Form, ris (upsOf fs) = (fs.map fun f => ris f.1).sum
  | [] => rfl
  | f :: fs => by
    show ris (f.1 ++ upsOf fs) = _
    rw [ris_app, ris_upsOf fs, List.map_cons, List.sum_cons]
theorem ris_dnsOf : ∀ fs : List Form, ris (dnsOf fs) = (fs.map fun f => ris f.2.2).sum
  | [] => rfl
  | f :: fs => by
    show ris (f.2.2 ++ dnsOf fs) = _
    rw [ris_app, ris_dnsOf fs, List.map_cons, List.sum_cons]
def gainF (f : Form) : Int := ris f.1 + ris f.2.2
theorem gainF_row (f : Form) : ris (formRow f) = gainF f := ris_formRow f
theorem ris_rowsOf : ∀ fs : List Form, ris (rowsOf fs) = (fs.map gainF).sum
  | [] => rfl
  | f :: fs => by
    show ris (formRow f ++ rowsOf fs) = _
    rw [ris_app, ris_rowsOf fs, gainF_row, List.map_cons, List.sum_cons]
theorem gainF_formOf {r : Row} (h : Nn r) : gainF (formOf r) = ris r := by
  rw [ris_form h, formOf_eq h]
  show ris (upsW r) + ris (tnd (upsW (tnd r))) = _
  rw [ris_tnd]
  omega
theorem gainF_besF (fs : List Form) : gainF (besF fs) = (fs.map gainF).sum := by
  show ris (jU (upsOf fs)) + ris (tnd (jU (tnd (dnsOf fs)))) = _
  rw [ris_jU, ris_tnd, ris_jU, ris_tnd, ris_upsOf, ris_dnsOf]
  induction fs with
  | nil => rfl
  | cons f fs ih =>
    rw [List.map_cons, List.map_cons, List.map_cons, List.sum_cons, List.sum_cons, List.sum_cons, ← ih]
    unfold gainF
    omega
/-! ### the least -/
def leastF (f : Form) : Int := f.2.1 - ris f.1
theorem leastF_formOf {r : Row} (h : Nn r) : leastF (formOf r) = need r := by
  rw [formOf_eq h]
  show (whl r).1 + ris (upsW r) - ris (upsW r) = need r
  unfold need
  omega
theorem leastF_turn (f : Form) : leastF (turnF f) = leastF f + gainF f := by
  show f.2.1 - ris (tnd f.2.2) = f.2.1 - ris f.1 + (ris f.1 + ris f.2.2)
  rw [ris_tnd]
  omega
/-- the gaining pairs of a row -/
def pos (W : Row) : Row := W.filter fun p => decide (0 < gn p)
theorem walk_pos : ∀ {W : Row} {s y : Int}, Nn W → need W ≤ s → s + gs (pos W) y ≤ y → gs (pos W) y = ris (pos W)
  | [], _, _, _, _, _ => rfl
  | q :: W, s, y, h, hn, hy => by
    obtain ⟨h1, h2⟩ := h.cons
    rw [need_cons h] at hn
    by_cases c : 0 < gn q
    · have e : pos (q :: W) = q :: pos W := by unfold pos; rw [List.filter_cons_of_pos (by simpa using c)]
      have gp : Gp (pos W) := fun p hp => by
        obtain ⟨a, b⟩ := List.mem_filter.mp hp
        have b' : 0 < gn p := of_decide_eq_true b
        have := (h2 p a).1
        unfold gn at b'
        omega
      have m := gs_mono gp (Int.le_refl y)
      rw [e] at hy ⊢
      rw [gs_cons] at hy ⊢
      have qy : q.1 ≤ y := by
        split at hy <;> omega
      rw [if_pos qy] at hy ⊢
      rw [ris_cons, walk_pos (W := W) (s := s + gn q) h2 (by omega) (by omega)]
    · have e : pos (q :: W) = pos W := by unfold pos; rw [List.filter_cons_of_neg (by simpa using c)]
      rw [e] at hy ⊢
      exact walk_pos (W := W) (s := s + gn q) h2 (by omega) (by omega)
theorem pos_app (a b : Row) : pos (a ++ b) = pos a ++ pos b := List.filter_append ..
theorem pos_rise {u : Row} (h : ∀ q ∈ u, 0 < gn q) : pos u = u := List.filter_eq_self.mpr fun q hq => decide_eq_true (h q hq)
theorem pos_fall {u : Row} (h : ∀ q ∈ u, gn q ≤ 0) : pos u = [] := List.filter_eq_nil_iff.mpr fun q hq => by
  have := h q hq
  simpa using this
theorem pos_formRow {f : Form} (h : Can f) : pos (formRow f) = f.1 := by
  have d := tnd_gn (rise_gn h.down)
  rw [tnd_tnd] at d
  unfold formRow
  rw [pos_app, pos_app, pos_rise (rise_gn h.up), pos_fall d, pos_fall (u := [(f.2.1, f.2.1)]) fun q hq => by
    rw [List.mem_singleton] at hq
    subst hq
    unfold gn
    dsimp only
    omega]
  simp
theorem pos_rowsOf : ∀ {fs : List Form}, (∀ f ∈ fs, Can f) → pos (rowsOf fs) = upsOf fs
  | [], _ => rfl
  | f :: fs, h => by
    show pos (formRow f ++ rowsOf fs) = f.1 ++ upsOf fs
    rw [pos_app, pos_formRow (h f List.mem_cons_self), pos_rowsOf fun g hg => h g (List.mem_cons_of_mem _ hg)]
theorem ups_need {fs : List Form} (h : ∀ f ∈ fs, Can f) : need (jU (upsOf fs)) ≤ need (rowsOf fs) := by
  have gp := upsOf_gp h
  have n0 := need_nn (rowsOf fs)
  obtain ⟨e, _⟩ := jU_end gp (need (rowsOf fs))
  have fx := e.fix
  have w := walk_pos (rowsOf_nn h) (Int.le_refl (need (rowsOf fs))) (y := rch (jU (upsOf fs)) (need (rowsOf fs))) (by rw [pos_rowsOf h]; omega)
  rw [pos_rowsOf h] at w
  refine rise_lt (jU_rise gp) n0 ?_
  rw [ris_jU]
  omega
theorem ris_up_nn {f : Form} (h : Can f) : 0 ≤ ris f.1 ∧ ris f.2.2 ≤ 0 := by
  have a := gs_mono h.gpU (Int.le_refl 0)
  have b := gs_mono h.gpD (Int.le_refl 0)
  rw [ris_tnd] at b
  omega
theorem tops_need : ∀ {fs : List Form}, (∀ f ∈ fs, Can f) → ∀ f ∈ fs, f.2.1 ≤ need (rowsOf fs) + ris (upsOf fs)
  | [], _, f, hf => nomatch hf
  | g :: fs, h, f, hf => by
    have hg := h g List.mem_cons_self
    have hfs : ∀ f ∈ fs, Can f := fun f hf => h f (List.mem_cons_of_mem _ hf)
    have n : need (rowsOf (g :: fs)) = max (need (formRow g)) (need (rowsOf fs) - ris (formRow g)) := need_app hg.nn (rowsOf_nn hfs)
    have r : ris (upsOf (g :: fs)) = ris g.1 + ris (upsOf fs) := ris_app _ _
    have u := gs_mono (upsOf_gp hfs) (Int.le_refl 0)
    have c := ris_up_nn hg
    have e := hg.need
    have e2 := ris_formRow g
    rw [n, r]
    rcases List.mem_cons.mp hf with rfl | hf
    · omega
    · have := tops_need hfs f hf
      omega
/-- beside one another the least is no greater than one behind another -/
theorem bes_least {fs : List Form} (h : ∀ f ∈ fs, Can f) : leastF (besF fs) ≤ need (rowsOf fs) := by
  have gU := upsOf_gp h
  have gD := dnsOf_gp h
  have a := ups_need h
  have ht : ∀ f ∈ (fs.map turnF).reverse, Can f := fun f hf => by
    obtain ⟨g, hg, rfl⟩ := List.mem_map.mp (List.mem_reverse.mp hf)
    exact (h g hg).turn
  have b := ups_need ht
  rw [rowsOf_turn, need_tnd (rowsOf_nn h), ris_rowsOf] at b
  have pm : (upsOf (fs.map turnF).reverse).Perm (tnd (dnsOf fs)) := by
    have e : (fs.map turnF).map (·.1) = (fs.map (·.2.2)).map tnd := by rw [List.map_map, List.map_map]; rfl
    unfold upsOf dnsOf
    exact ((List.reverse_perm (fs.map turnF)).map _).flatten.trans (by rw [e]; exact tnd_flat _)
  rw [jU_perm pm] at b
  have sums : (fs.map gainF).sum = ris (upsOf fs) + ris (dnsOf fs) := by
    rw [ris_upsOf, ris_dnsOf]
    clear h gU gD a ht b pm
    induction fs with
    | nil => rfl
    | cons f fs ih =>
      rw [List.map_cons, List.map_cons, List.map_cons, List.sum_cons, List.sum_cons, List.sum_cons, ih]
      unfold gainF
      omega
  have l1 := rise_last_eq (jU_rise gU)
  have l2 := rise_last_eq (jU_rise gD)
  rw [ris_jU] at l1 l2
  rw [ris_tnd] at l2
  have n0 := need_nn (rowsOf fs)
  have u0 := gs_mono gU (Int.le_refl 0)
  show greatest (gend (jU (upsOf fs)) (tnd (jU (tnd (dnsOf fs)))) :: fs.map (·.2.1)) - ris (jU (upsOf fs)) ≤ _
  rw [ris_jU]
  obtain ⟨c1, _⟩ := greatest_is (gend (jU (upsOf fs)) (tnd (jU (tnd (dnsOf fs)))) :: fs.map (·.2.1)) (by simp)
  have key : greatest (gend (jU (upsOf fs)) (tnd (jU (tnd (dnsOf fs)))) :: fs.map (·.2.1)) ≤ need (rowsOf fs) + ris (upsOf fs) := by
    rcases List.mem_cons.mp c1 with q | q
    · rw [q, gend_tnd2]
      omega
    · obtain ⟨f, hf, e⟩ := List.mem_map.mp q
      rw [← e]
      exact tops_need h f hf
  omega
end Px

set_option Elab.async false
set_option linter.all false
set_option maxRecDepth 100000
set_option maxHeartbeats 1000000
/-! Px, part BX: is_form lets forms by. -/
namespace Px
open PySem L2
open L (pD)
def nums (u : Row) : List Int := (u.map fun p => [p.1, p.2]).flatten
theorem nums_cons (p : Int × Int) (u : Row) : nums (p :: u) = p.1 :: p.2 :: nums u := rfl
theorem nums_rise : ∀ {u : Row} {a : Int}, Rise a u → (nums u).Pairwise (· < ·) ∧ ∀ x ∈ nums u, a ≤ x
  | [], _, _ => ⟨.nil, fun x hx => nomatch (show x ∈ ([] : List Int) from hx)⟩
  | q :: u, a, h => by
    obtain ⟨h1, h2, h3⟩ := h
    obtain ⟨a1, a2⟩ := nums_rise h3
    rw [nums_cons]
    refine ⟨List.pairwise_cons.mpr ⟨fun y hy => ?_, List.pairwise_cons.mpr ⟨fun y hy => ?_, a1⟩⟩, fun x hx => ?_⟩
    · rcases List.mem_cons.mp hy with rfl | hy
      · exact h2
      · have := a2 y hy
        omega
    · have := a2 y hy
      omega
    · rcases List.mem_cons.mp hx with rfl | hx
      · exact h1
      · rcases List.mem_cons.mp hx with rfl | hx
        · omega
        · have := a2 x hx
          omega
theorem nums_len (u : Row) : (nums u).length = 2 * u.length := by
  induction u with
  | nil => rfl
  | cons p u ih => rw [nums_cons, List.length_cons, List.length_cons, List.length_cons, ih]; omega
def pairNums (d : D) : List D := match d with
  | .tup xs => xs
  | _ => []
theorem pairNums_map (u : Row) : ((u.map pD).map pairNums).flatten = (nums u).map D.int := by
  unfold nums
  rw [List.map_map, List.map_flatten, List.map_map]
  rfl
theorem dBools_true : ∀ l : List D, dBools (l.map fun _ => D.bl true) = some (l.map fun _ => true)
  | [] => rfl
  | d :: l => by
    show (dBools (l.map fun _ => D.bl true)).map (true :: ·) = _
    rw [dBools_true l]
    rfl
theorem all_true (l : List D) : opBi .all [.fresh (.lst (l.map fun _ => D.bl true))] = some (.val (.bl true)) := by
  show (dBools (l.map fun _ => D.bl true)).map (fun ns => Rv.val (.bl (ns.all id))) = _
  rw [dBools_true]
  show some (Rv.val (.bl ((l.map fun _ => true).all id))) = _
  congr 3
  induction l with
  | nil => rfl
  | cons d l ih => rw [List.map_cons, List.all_cons, ih]; rfl
namespace M
variable {T : String → Option Fn} {G : String → Option D} {wf : Nat}
theorem is_whole_eq (hT : T "is_whole" = some ir_is_whole) {i : Int} (h : 0 ≤ i) (n : Nat) (S : Sto) : callN T G wf (n + 1) "is_whole" [.int i] S = .ok (.val (.bl true)) S := by
  rw [call_eq hT rfl]
  unfold ir_is_whole
  simp -implicitDefEqProofs [h]
theorem is_pair_eq (hW : T "is_whole" = some ir_is_whole) (hT : T "is_pair" = some ir_is_pair) {p : Int × Int} (h : 0 ≤ p.1 ∧ 0 ≤ p.2) (n : Nat) (S : Sto) : callN T G wf (n + 2) "is_pair" [pD p] S = .ok (.val (.bl true)) S := by
  rw [call_eq hT rfl]
  have e1 := is_whole_eq (G := G) (wf := wf) hW h.1 n S
  have e2 := is_whole_eq (G := G) (wf := wf) hW h.2 n S
  unfold ir_is_pair pD
  simp -implicitDefEqProofs [e1, e2, eqD_int]
theorem are_ups_eq (hW : T "is_whole" = some ir_is_whole) (hP : T "is_pair" = some ir_is_pair) (hT : T "are_ups" = some ir_are_ups) {u : Row} (h : Rise 0 u) (hl : u.length ≤ 1000) (n : Nat) (S : Sto) : callN T G wf (n + 3) "are_ups" [.tup (u.map pD)] S = .ok (.val (.bl true)) S := by
  rw [call_eq hT rfl]
  have gp := rise_gp (Int.le_refl 0) h
  have k0 : evE ⟨callN T G wf (n + 2), G, wf⟩ c_are_ups_0 [.val (.tup (u.map pD)), .emp, .emp, .emp, .emp] S = .ok (.fresh (.lst ((u.map pD).map fun _ => D.bl true))) S := by
    unfold c_are_ups_0
    rw [ev_comp_map (items := u.map pD) (fun _ => D.bl true) ?_ ?_ fun x hx => ?_]
    · simp -implicitDefEqProofs
    · rw [List.length_map]; unfold sizeLine; omega
    · obtain ⟨p, hp, rfl⟩ := List.mem_map.mp hx
      refine ⟨_, rfl, rfl, ?_⟩
      have := gp p hp
      have e := is_pair_eq (G := G) (wf := wf) hW hP (p := p) (by omega) n S
      simp -implicitDefEqProofs [e]
  have k1 : evE ⟨callN T G wf (n + 2), G, wf⟩ c_are_ups_1 [.val (.tup (u.map pD)), .emp, .emp, .emp, .emp] S = .ok (.fresh (.lst ((nums u).map D.int))) S := by
    unfold c_are_ups_1
    rw [ev_comp2 (items := u.map pD) pairNums id ?_ ?_ fun x hx => ?_]
    · rw [pairNums_map, List.map_id]
    · simp -implicitDefEqProofs
    · rw [pairNums_map, List.length_map, nums_len]; unfold sizeLine; omega
    · obtain ⟨p, hp, rfl⟩ := List.mem_map.mp hx
      refine ⟨_, rfl, rfl, ?_, fun y hy => ⟨_, rfl, rfl, ?_⟩⟩
      · unfold pD pairNums
        simp -implicitDefEqProofs
      · simp -implicitDefEqProofs
  obtain ⟨pw, _⟩ := nums_rise h
  have nl := nums_len u
  have k2 : evE ⟨callN T G wf (n + 2), G, wf⟩ c_are_ups_2 [.val (.tup (u.map pD)), .emp, .val (.lst ((nums u).map D.int)), .emp, .emp] S = .ok (.fresh (.lst ((rngD 1 ((nums u).length - 1)).map fun _ => D.bl true))) S := by
    have sl : small62 ((nums u).length : Int) = true := small_of (by omega) (by omega)
    have s1 : small62 1 = true := rfl
    unfold c_are_ups_2
    rw [ev_comp_map (items := rngD 1 ((nums u).length - 1)) (fun _ => D.bl true) ?_ ?_ fun x hx => ?_]
    · have t : opBi .len [.val (.lst ((nums u).map D.int))] = some (.val (.int ((nums u).length : Int))) := by rw [bi_lenL, List.length_map]
      have t2 : ((nums u).length - 1 : Int).toNat = (nums u).length - 1 := by omega
      simp -implicitDefEqProofs [-bi_lenL, t, sl, s1, t2]
    · rw [rng_len]; unfold sizeLine; omega
    · obtain ⟨i, hi⟩ := List.getElem?_of_mem hx
      obtain ⟨rfl, hi2⟩ := rng_get hi
      refine ⟨_, rfl, rfl, ?_⟩
      obtain ⟨v, _, e1, e2⟩ := at_map (f := D.int) (l := nums u) (i := 1 + (i : Int) - 1) (by omega) (by omega)
      obtain ⟨w, _, e3, e4⟩ := at_map (f := D.int) (l := nums u) (i := 1 + (i : Int)) (by omega) (by omega)
      have lt : v < w := by
        obtain ⟨i1, f1⟩ := List.getElem?_eq_some_iff.mp e1
        obtain ⟨i2, f2⟩ := List.getElem?_eq_some_iff.mp e3
        rw [← f1, ← f2]
        exact List.pairwise_iff_getElem.mp pw _ _ i1 i2 (by omega)
      simp -implicitDefEqProofs [e2, e4, lt]
  have b1 := all_true (u.map pD)
  have b2 := all_true (rngD 1 ((nums u).length - 1))
  generalize (rngD 1 ((nums u).length - 1)).map (fun _ => D.bl true) = w1 at *
  generalize (u.map pD).map (fun _ => D.bl true) = w2 at *
  generalize (nums u).map D.int = w3 at *
  generalize u.map pD = w4 at *
  unfold ir_are_ups
  simp -implicitDefEqProofs [k0, k1, k2, b1, b2]
structure _root_.Px.IsfT (T : String → Option Fn) : Prop where
  wh : T "is_whole" = some M.ir_is_whole
  pa : T "is_pair" = some M.ir_is_pair
  au : T "are_ups" = some M.ir_are_ups
  ad : T "are_downs" = some M.ir_are_downs
  fo : T "is_form" = some M.ir_is_form
  tr : T "turned_row" = some L.ir_turned_row
  ge : T "greatest_end" = some M.ir_greatest_end
theorem are_downs_eq (C : IsfT T) {d : Row} (h : Rise 0 (tnd d)) (hl : d.length ≤ 1000) (n : Nat) (S : Sto) : callN T G wf (n + 4) "are_downs" [.tup (d.map pD)] S = .ok (.val (.bl true)) S := by
  rw [call_eq C.ad rfl]
  have nn := (rise_nn (Int.le_refl 0) h).tnd
  rw [tnd_tnd] at nn
  have k0 : evE ⟨callN T G wf (n + 3), G, wf⟩ c_are_downs_0 [.val (.tup (d.map pD)), .emp] S = .ok (.fresh (.lst ((d.map pD).map fun _ => D.bl true))) S := by
    unfold c_are_downs_0
    rw [ev_comp_map (items := d.map pD) (fun _ => D.bl true) ?_ ?_ fun x hx => ?_]
    · simp -implicitDefEqProofs
    · rw [List.length_map]; unfold sizeLine; omega
    · obtain ⟨p, hp, rfl⟩ := List.mem_map.mp hx
      refine ⟨_, rfl, rfl, ?_⟩
      have := nn p hp
      have e := is_pair_eq (G := G) (wf := wf) C.wh C.pa (p := p) this (n + 1) S
      simp -implicitDefEqProofs [e]
  have b1 := all_true (d.map pD)
  have e1 := L.turned_eq (G := G) (wf := wf) C.tr d (by omega) (n + 2) S
  have e2 := are_ups_eq (G := G) (wf := wf) C.wh C.pa C.au h (by rw [tnd_len]; exact hl) n S
  generalize (d.map pD).map (fun _ => D.bl true) = w2 at *
  generalize (tnd d).map pD = w3 at *
  generalize d.map pD = w4 at *
  unfold ir_are_downs
  simp -implicitDefEqProofs [k0, b1, e1, e2]
theorem is_form_eq (C : IsfT T) {f : Form} (h : Can f) (hl : f.1.length + f.2.2.length ≤ 1000) (n : Nat) (S : Sto) : callN T G wf (n + 5) "is_form" [fD f] S = .ok (.val (.bl true)) S := by
  rw [call_eq C.fo rfl]
  have e1 := are_ups_eq (G := G) (wf := wf) C.wh C.pa C.au h.up (by omega) (n + 1) S
  have e2 := are_downs_eq (G := G) (wf := wf) C (d := f.2.2) h.down (by omega) n S
  have e3 := is_pair_eq (G := G) (wf := wf) C.wh C.pa (p := (f.2.1, f.2.1)) ⟨h.t0, h.t0⟩ (n + 2) S
  have e4 := greatest_end_eq (G := G) (wf := wf) C.ge f.1 f.2.2 (n + 3) S
  have t := h.top
  rw [show pD (f.2.1, f.2.1) = .tup [.int f.2.1, .int f.2.1] from rfl] at e3
  unfold ir_is_form fD
  generalize f.1.map pD = w1 at *
  generalize f.2.2.map pD = w2 at *
  generalize gend f.1 f.2.2 = g at *
  generalize f.2.1 = t1 at *
  simp -implicitDefEqProofs [e1, e2, e3, e4, t, eqD_int]
end M
end Px

set_option Elab.async false
set_option linter.all false
set_option maxRecDepth 100000
set_option maxHeartbeats 1000000
/-! Px, part BY: sums and products of copies. -/
namespace Px
theorem Same.cop {a b : Row} (h : Same a b) : ∀ k, Same (cop k a) (cop k b)
  | 0 => Same.refl fun p hp => nomatch (show p ∈ ([] : Row) from hp)
  | k + 1 => by
    rw [cop_succ, cop_succ]
    exact h.app (Same.cop h k)
theorem cop_mul (a b : Nat) (r : Row) : cop a (cop b r) = cop (a * b) r := by
  induction a with
  | zero => rw [Nat.zero_mul]; rfl
  | succ a ih => rw [cop_succ, ih, Nat.succ_mul, Nat.add_comm, cop_add]
theorem copF_mul {f : Form} (h : Can f) (a b : Nat) : copF a (copF b f) = copF (a * b) f := by
  unfold copF
  rw [((same_row (cop_nn h.nn b)).cop a).form, cop_mul]
theorem copF_add {f : Form} (h : Can f) (a b : Nat) : formOf (rowsOf [copF a f, copF b f]) = copF (a + b) f := by
  have s := (same_rows (rs := [cop a (formRow f), cop b (formRow f)]) fun r hr => by
    simp only [List.mem_cons, List.not_mem_nil, or_false] at hr
    rcases hr with rfl | rfl
    · exact cop_nn h.nn a
    · exact cop_nn h.nn b).form
  show formOf (rowsOf ([cop a (formRow f), cop b (formRow f)].map formOf)) = _
  rw [s]
  show formOf (cop a (formRow f) ++ (cop b (formRow f) ++ [])) = _
  rw [List.append_nil, ← cop_add]
  rfl
theorem manyF_add {f : Form} (h : Can f) (a b : Nat) : besF [manyF a f, manyF b f] = manyF (a + b) f := by
  have c : ∀ k, ∀ g ∈ List.replicate k f, Can g := fun k g hg => by rw [List.eq_of_mem_replicate hg]; exact h
  have := besF_cat (c a) (c b)
  rw [List.replicate_append_replicate] at this
  exact this
theorem manyF_mul {f : Form} (h : Can f) (a b : Nat) : manyF a (manyF b f) = manyF (a * b) f := by
  have j := besF_join (L := List.replicate a (List.replicate b f)) fun l hl g hg => by
    rw [List.eq_of_mem_replicate hl] at hg
    rw [List.eq_of_mem_replicate hg]
    exact h
  rw [List.map_replicate, List.flatten_replicate_replicate] at j
  exact j
theorem gainF_copF {f : Form} (h : Can f) (k : Nat) : gainF (copF k f) = (k : Int) * gainF f := by
  unfold copF
  rw [gainF_formOf (cop_nn h.nn k), ris_cop, gainF_row]
theorem gainF_manyF (f : Form) (k : Nat) : gainF (manyF k f) = (k : Int) * gainF f := by
  unfold manyF
  rw [gainF_besF, List.map_replicate]
  induction k with
  | zero => simp
  | succ k ih =>
    rw [List.replicate_succ, List.sum_cons, ih, Int.natCast_add, Int.add_mul]
    omega
end Px

set_option Elab.async false
set_option linter.all false
set_option maxRecDepth 100000
set_option maxHeartbeats 1000000
/-! Px, part BZ: what repr of forms with far greater numbers needs. -/
namespace Px
open PySem L2
open L (pD)
structure Shb (d : D) (k w : Nat) : Prop where
  lv : d.toP.leavesShort 84 = true
  sh : d.toP.showable = true
  cl : d.toP.canLay0 = true
  dp : d.toP.depth ≤ k
  wt : d.toP.weight ≤ w
  ok : PyData.strOk d.toP.shown = true
theorem Shb.repr {d : D} {k w : Nat} (h : Shb d k w) (hk : k ≤ 64) (hw : w ≤ 190000) : opBi .repr [.val d] = some (.val (.str d.toP.shown)) := by
  have h1 := PyData.shown_le 84 (by decide) d.toP h.lv
  have h2 : (84 + 2) * d.toP.weight ≤ 86 * 190000 := Nat.mul_le_mul_left _ (Nat.le_trans h.wt hw)
  have h3 : d.toP.shown.length ≤ sizeLine := by
    rw [show sizeLine = 16777216 by unfold sizeLine; decide]
    omega
  show (if _ then _ else _) = _
  rw [if_pos ⟨h.sh, h.cl, Nat.le_trans h.dp hk, h3⟩]
  rfl
theorem Shb.mono {d : D} {k k' w w' : Nat} (h : Shb d k w) (hk : k ≤ k') (hw : w ≤ w') : Shb d k' w' :=
  ⟨h.lv, h.sh, h.cl, Nat.le_trans h.dp hk, Nat.le_trans h.wt hw, h.ok⟩
theorem shb_int {i : Int} (h : i.natAbs < 10 ^ 80) : Shb (.int i) 0 270 := by
  have e : (PyData.shown (.int i)).length ≤ 84 := by
    have e := PySem.int_text_length_le10 (k := 80) (by decide) h
    show (Str.ofString (toString i)).length ≤ 84
    rw [ofString_length]; exact Nat.le_trans e (by decide)
  have big : (10 : Nat) ^ 80 < 2 ^ 267 := by decide
  have l : i.natAbs.log2 ≤ 266 := log2_lt (k := 266) (Nat.lt_trans h big)
  refine ⟨by simpa [D.toP, PyData.leavesShort] using e, ?_, rfl, Nat.le_refl _, ?_, ?_⟩
  · show decide (i.natAbs.log2 < 1920) = true
    exact decide_eq_true (by omega)
  · show (if i == 0 then 0 else i.natAbs.log2 + 1) ≤ 270
    split <;> omega
  · exact ok_str (toString i)
theorem shb_all : ∀ {xs : List D} {k w : Nat}, (∀ x ∈ xs, Shb x k w) → PyData.leavesShortAll 84 (D.toPs xs) = true ∧ PyData.showableAll (D.toPs xs) = true ∧ PyData.canLayAll0 (D.toPs xs) = true ∧ PyData.depthAll (D.toPs xs) ≤ k ∧ PyData.weightAll (D.toPs xs) ≤ (w + 1) * xs.length
  | [], k, w, _ => ⟨rfl, rfl, rfl, Nat.zero_le _, Nat.zero_le _⟩
  | x :: xs, k, w, h => by
    obtain ⟨a, b, c, d, e⟩ := shb_all (xs := xs) fun y hy => h y (List.mem_cons_of_mem _ hy)
    have hx := h x List.mem_cons_self
    refine ⟨?_, ?_, ?_, ?_, ?_⟩
    · simp only [D.toPs, PyData.leavesShortAll, hx.lv, a, Bool.and_self]
    · simp only [D.toPs, PyData.showableAll, hx.sh, b, Bool.and_self]
    · simp only [D.toPs, PyData.canLayAll0, hx.cl, c, Bool.and_self]
    · simp only [D.toPs, PyData.depthAll]
      exact Nat.max_le.mpr ⟨hx.dp, d⟩
    · simp only [D.toPs, PyData.weightAll, List.length_cons]
      have q := hx.wt
      rw [Nat.mul_add, Nat.mul_one]
      omega
theorem shb_tup {xs : List D} {k w n : Nat} (h : ∀ x ∈ xs, Shb x k w) (hn : xs.length ≤ n) : Shb (.tup xs) (k + 1) ((w + 1) * n) := by
  obtain ⟨a, b, c, d, e⟩ := shb_all h
  refine ⟨by simpa [D.toP, PyData.leavesShort] using a, by simpa [D.toP, PyData.showable] using b, by simpa [D.toP, PyData.canLay0] using c, ?_, ?_, ?_⟩
  · simp only [D.toP, PyData.depth]; omega
  · simp only [D.toP, PyData.weight]
    exact Nat.le_trans e (Nat.mul_le_mul_left _ hn)
  · simp only [D.toP, PyData.shown]
    refine ok_tuple fun t ht => ?_
    obtain ⟨x, hx, rfl⟩ := shown_mem ht
    exact (h x hx).ok
theorem shb_row {B : Int} (hB : B < 10 ^ 80) {ps : Row} {n : Nat} (h : RowLe B ps) (hn : ps.length ≤ n) : Shb (.tup (ps.map pD)) 2 (543 * n) :=
  shb_tup (k := 1) (w := 542) (fun x hx => by
    obtain ⟨p, hp, rfl⟩ := List.mem_map.mp hx
    obtain ⟨a, b, c, d⟩ := h p hp
    refine shb_tup (xs := [D.int p.1, D.int p.2]) (k := 0) (w := 270) (n := 2) (fun x hx => ?_) (Nat.le_refl 2)
    simp only [List.mem_cons, List.not_mem_nil, or_false] at hx
    rcases hx with rfl | rfl
    · exact shb_int (by omega)
    · exact shb_int (by omega)) (by rw [List.length_map]; exact hn)
/-- forms with far numbers -/
theorem shb_form {B : Int} (hB : B < 10 ^ 80) {n : Nat} {f : Form} (h : FormLe B n f) : Shb (fD f) 3 ((543 * n + 271) * 3) := by
  have t0 := h.t0
  have t1 := h.t1
  have ll := h.len
  refine shb_tup (xs := [.tup (f.1.map pD), .int f.2.1, .tup (f.2.2.map pD)]) (k := 2) (w := 543 * n + 270) (n := 3) (fun x hx => ?_) (Nat.le_refl 3)
  simp only [List.mem_cons, List.not_mem_nil, or_false] at hx
  rcases hx with rfl | rfl | rfl
  · exact (shb_row hB (n := n) h.up (by omega)).mono (Nat.le_refl _) (by omega)
  · exact (shb_int (i := f.2.1) (by omega)).mono (by decide) (by omega)
  · exact (shb_row hB (n := n) h.down (by omega)).mono (Nat.le_refl _) (by omega)
theorem repB {B : Int} {m : Nat} {f : Form} (h : FormLe B m f) (hB : B < 10 ^ 80) (hm : m ≤ 100) : opBi .repr [.val (fD f)] = some (.val (.str (fD f).toP.shown)) ∧ eqD (.str (fD f).toP.shown) (.str (fD f).toP.shown) = some true := by
  have s := shb_form hB h
  exact ⟨s.repr (by decide) (by omega), eqD_strSelf s.ok⟩
end Px

set_option Elab.async false
set_option linter.all false
set_option maxRecDepth 100000
set_option maxHeartbeats 1000000
/-! Px, part CA: same. -/
namespace Px
open PySem L2
open L (pD)
namespace M
def c_same_0 : Ex := .comp [("one", 2), ("other", 3)] (.tup (.cons (.nm 2) (.cons (.nm 3) .nil))) (.zip (.var 0) (.var 1)) .nop (.call "same" (.cons (.var 2) (.cons (.var 3) .nil)))
def ir_same : Fn := ⟨2, ["thing", "due", "one", "other"], (.cons (.ife (.isin (.var 1) true [.tuple])
 (.cons (.ife (.or (.not (.isin (.var 0) true [.tuple])) (.cmp .ne (.bi .len (.cons (.var 0) .nil)) (.bi .len (.cons (.var 1) .nil))))
 (.cons (.ret (.bl false))
 .nil)
 .nil)
 (.cons (.ret (.bi .all (.cons c_same_0 .nil)))
 .nil))
 .nil)
 (.cons (.ife (.or (.cmp .isN (.var 1) .non) (.cmp .isN (.var 0) .non))
 (.cons (.ret (.and (.cmp .isN (.var 1) .non) (.cmp .isN (.var 0) .non)))
 .nil)
 .nil)
 (.cons (.ife (.or (.isin (.var 1) true [.bool]) (.isin (.var 0) true [.bool]))
 (.cons (.ret (.and (.isin (.var 1) true [.bool]) (.and (.isin (.var 0) true [.bool]) (.cmp .eq (.var 0) (.var 1)))))
 .nil)
 .nil)
 (.cons (.ret (.and (.isin (.var 0) false [.int, .str]) (.and (.cmp .eq (.isin (.var 0) true [.int]) (.isin (.var 1) true [.int])) (.cmp .eq (.var 0) (.var 1)))))
 .nil))))⟩
end M
/-- numbers, and tuples of such, k deep -/
def Tw : Nat → D → Prop
  | _, .int _ => True
  | k + 1, .tup xs => xs.length ≤ 100000 ∧ ∀ x ∈ xs, Tw k x
  | _, _ => False
noncomputable def eqB (a b : D) : Bool := @decide (a = b) (Classical.propDecidable _)
theorem eqB_self (a : D) : eqB a a = true := by unfold eqB; exact @decide_eq_true _ (Classical.propDecidable _) rfl
theorem eqB_ne {a b : D} (h : a ≠ b) : eqB a b = false := by unfold eqB; exact @decide_eq_false _ (Classical.propDecidable _) h
theorem eqB_iff {a b : D} : eqB a b = true ↔ a = b := by unfold eqB; exact @decide_eq_true_iff _ (Classical.propDecidable _)
noncomputable def gS : D → D
  | .tup [x, y] => .bl (eqB x y)
  | _ => .non
theorem gS_zip : ∀ (xs ys : List D), xs.length = ys.length → ∃ bs : List Bool, dBools ((zipD xs ys).map gS) = some bs ∧ bs.all id = eqB (.tup xs) (.tup ys)
  | [], [], _ => ⟨[], rfl, (eqB_self _).symm⟩
  | x :: xs, y :: ys, h => by
    obtain ⟨bs, e1, e2⟩ := gS_zip xs ys (by simpa using h)
    refine ⟨eqB x y :: bs, ?_, ?_⟩
    · show (dBools ((zipD xs ys).map gS)).map (eqB x y :: ·) = _
      rw [e1]; rfl
    · show (eqB x y && bs.all id) = _
      rw [e2]
      by_cases c : x = y
      · subst c
        rw [eqB_self, Bool.true_and]
        by_cases d : xs = ys
        · subst d; rw [eqB_self, eqB_self]
        · rw [eqB_ne (by intro q; cases q; exact d rfl), eqB_ne (by intro q; cases q; exact d rfl)]
      · rw [eqB_ne c, Bool.false_and, eqB_ne (by intro q; cases q; exact c rfl)]
theorem zipD_len : ∀ (xs ys : List D), xs.length = ys.length → (zipD xs ys).length = xs.length
  | [], [], _ => rfl
  | x :: xs, y :: ys, h => by
    have := zipD_len xs ys (by simpa using h)
    show (zipD xs ys).length + 1 = _
    rw [this]; rfl
namespace M
variable {T : String → Option Fn} {G : String → Option D} {wf : Nat}
theorem same_eq (hT : T "same" = some ir_same) (S : Sto) (n : Nat) : ∀ (k : Nat) (due thing : D), Tw k due → callN T G wf (n + k + 1) "same" [thing, due] S = .ok (.val (.bl (eqB thing due))) S
  | k, .int i, thing, _ => by
    rw [call_eq hT rfl]
    unfold ir_same
    cases thing with
    | int j =>
      by_cases c : j = i
      · subst c
        rw [eqB_self]
        simp -implicitDefEqProofs [isIn, D.ty, Ty.sub, eqD_int, eqD_bl, D.isNon]
      · rw [eqB_ne (by intro q; cases q; exact c rfl)]
        simp -implicitDefEqProofs [isIn, D.ty, Ty.sub, eqD_int, eqD_bl, c]
    | non => rw [eqB_ne (by intro q; cases q)]; simp -implicitDefEqProofs [isIn, D.ty, Ty.sub, eqD_int, eqD_bl, D.isNon]
    | bl b => rw [eqB_ne (by intro q; cases q)]; simp -implicitDefEqProofs [isIn, D.ty, Ty.sub, eqD_int, eqD_bl, D.isNon]
    | str b => rw [eqB_ne (by intro q; cases q)]; simp -implicitDefEqProofs [isIn, D.ty, Ty.sub, eqD_int, eqD_bl, D.isNon]
    | tup b => rw [eqB_ne (by intro q; cases q)]; simp -implicitDefEqProofs [isIn, D.ty, Ty.sub, eqD_int, eqD_bl, D.isNon]
    | lst b => rw [eqB_ne (by intro q; cases q)]; simp -implicitDefEqProofs [isIn, D.ty, Ty.sub, eqD_int, eqD_bl, D.isNon]
    | scr b => rw [eqB_ne (by intro q; cases q)]; simp -implicitDefEqProofs [isIn, D.ty, Ty.sub, eqD_int, eqD_bl, D.isNon]
    | dic b c => rw [eqB_ne (by intro q; cases q)]; simp -implicitDefEqProofs [isIn, D.ty, Ty.sub, eqD_int, eqD_bl, D.isNon]
    | ref b => rw [eqB_ne (by intro q; cases q)]; simp -implicitDefEqProofs [isIn, D.ty, Ty.sub, eqD_int, eqD_bl, D.isNon]
  | k + 1, .tup ys, thing, h => by
    rw [call_eq hT rfl]
    obtain ⟨hl, hy⟩ := h
    by_cases ct : ∃ xs, thing = .tup xs
    · obtain ⟨xs, rfl⟩ := ct
      by_cases cl : xs.length = ys.length
      · have key : evE ⟨callN T G wf (n + (k + 1)), G, wf⟩ c_same_0 [.val (.tup xs), .val (.tup ys), .emp, .emp] S = .ok (.fresh (.lst ((zipD xs ys).map gS))) S := by
          unfold c_same_0
          rw [ev_comp_map (items := zipD xs ys) gS ?_ ?_ fun x hx => ?_]
          · simp -implicitDefEqProofs
          · rw [zipD_len xs ys cl, cl]; unfold sizeLine; omega
          · obtain ⟨⟨a, b⟩, hp, rfl⟩ := List.mem_map.mp hx
            have hb : b ∈ ys := (List.of_mem_zip hp).2
            have e : callN T G wf (n + (k + 1)) "same" [a, b] S = _ := same_eq hT S n k b a (hy b hb)
            refine ⟨_, rfl, rfl, ?_⟩
            show (evE _ _ _ _).data = _
            simp -implicitDefEqProofs [e]
            rfl
        obtain ⟨bs, e1, e2⟩ := gS_zip xs ys cl
        unfold ir_same
        have ea : opBi .all [.fresh (.lst ((zipD xs ys).map gS))] = some (.val (.bl (eqB (.tup xs) (.tup ys)))) := by
          show (dBools ((zipD xs ys).map gS)).map (fun ns => Rv.val (.bl (ns.all id))) = _
          rw [e1, Option.map_some, e2]
        simp -implicitDefEqProofs [key, ea, eqD_int, cl]
      · rw [eqB_ne (by intro q; cases q; exact cl rfl)]
        unfold ir_same
        have c2 : ¬ (xs.length : Int) = (ys.length : Int) := by omega
        simp -implicitDefEqProofs [eqD_int, c2]
    · rw [eqB_ne (by intro q; exact ct ⟨ys, q⟩)]
      unfold ir_same
      cases thing with
      | tup xs => exact absurd ⟨xs, rfl⟩ ct
      | _ => simp -implicitDefEqProofs [isIn, D.ty, Ty.sub, D.isNon]
  | 0, .tup ys, thing, h => by cases h
  | k, .non, thing, h => by cases k <;> cases h
  | k, .bl _, thing, h => by cases k <;> cases h
  | k, .str _, thing, h => by cases k <;> cases h
  | k, .lst _, thing, h => by cases k <;> cases h
  | k, .scr _, thing, h => by cases k <;> cases h
  | k, .dic _ _, thing, h => by cases k <;> cases h
  | k, .ref _, thing, h => by cases k <;> cases h
end M
theorem tw_int (k : Nat) (i : Int) : Tw k (.int i) := by cases k <;> exact trivial
theorem tw_row (k : Nat) (r : List (Int × Int)) (h : r.length ≤ 100000) : Tw (k + 2) (.tup (r.map pD)) := by
  refine ⟨by rw [List.length_map]; exact h, fun x hx => ?_⟩
  obtain ⟨p, _, rfl⟩ := List.mem_map.mp hx
  refine ⟨by show 2 ≤ _; omega, fun y hy => ?_⟩
  simp only [List.mem_cons, List.not_mem_nil, or_false] at hy
  rcases hy with rfl | rfl <;> exact tw_int _ _
theorem tw_cut (ps : List (Int × Int)) (hl : ps.length ≤ 90000) (f m : Nat) : Tw 3 (cutD ps f m) := by
  refine ⟨by show 3 ≤ _; omega, fun x hx => ?_⟩
  simp only [List.mem_cons, List.not_mem_nil, or_false] at hx
  rcases hx with rfl | rfl | rfl
  · exact tw_row 0 _ (by have := upsF_len ps; omega)
  · refine ⟨by show 2 ≤ _; omega, fun y hy => ?_⟩
    simp only [List.mem_cons, List.not_mem_nil, or_false] at hy
    rcases hy with rfl | rfl <;> exact tw_int _ _
  · exact tw_row 0 _ (by have := downsF_len ps m; omega)
theorem greatest_leD : ∀ (l : List Int) (x : Int), x ∈ l → x ≤ greatest l
  | [y], x, h => by
    rw [List.mem_singleton] at h
    subst h
    exact Int.le_refl _
  | y :: z :: r, x, h => by
    have ih := greatest_leD (z :: r)
    unfold greatest
    rcases List.mem_cons.mp h with rfl | h
    · split <;> omega
    · have := ih x h
      split <;> omega
theorem greatest_memD : ∀ (l : List Int), l ≠ [] → greatest l ∈ l
  | [y], _ => List.mem_singleton.mpr rfl
  | y :: z :: r, _ => by
    have ih := greatest_memD (z :: r) (by simp)
    unfold greatest
    split
    · exact List.mem_cons_of_mem _ ih
    · exact List.mem_cons_self
theorem greatest_isD {l : List Int} {m : Int} (h : m ∈ l) (u : ∀ x ∈ l, x ≤ m) : greatest l = m :=
  Int.le_antisymm (u _ (greatest_memD l fun e => by rw [e] at h; cases h)) (greatest_leD l m h)
theorem cov_le {e : Int} : ∀ (l : List (Int × Int)) (a : Int), Cov e a l → a ≤ e ∧ ∀ u ∈ l, a ≤ u.1 ∧ u.1 < u.2 ∧ u.2 ≤ e
  | [], a, h => by cases h; exact ⟨Int.le_refl _, fun u hu => nomatch hu⟩
  | u :: l, a, h => by
    obtain ⟨h1, h2, h3⟩ := h
    obtain ⟨q1, q2⟩ := cov_le l u.2 h3
    refine ⟨by omega, fun v hv => ?_⟩
    rcases List.mem_cons.mp hv with rfl | hv
    · exact ⟨by omega, h2, q1⟩
    · obtain ⟨a1, a2, a3⟩ := q2 v hv
      exact ⟨by omega, a2, a3⟩
theorem cut_end {ps : List (Int × Int)} {f f' : Nat} (h4 : (upsF ps = [] ∧ f = 0) ∨ ∃ (V : List (Int × Int)) (u : Int × Int), upsF ps = V ++ [u] ∧ u.2 = (f : Int)) (h4' : (upsF ps = [] ∧ f' = 0) ∨ ∃ (V : List (Int × Int)) (u : Int × Int), upsF ps = V ++ [u] ∧ u.2 = (f' : Int)) : f' = f := by
  rcases h4 with ⟨a, b⟩ | ⟨V, u, a, b⟩
  · rcases h4' with ⟨a', b'⟩ | ⟨V', u', a', b'⟩
    · rw [b, b']
    · rw [a] at a'; simp at a'
  · rcases h4' with ⟨a', b'⟩ | ⟨V', u', a', b'⟩
    · rw [a] at a'; simp at a'
    · rw [a] at a'
      have := List.append_inj_right' a' rfl
      simp at this
      subst this
      omega
namespace L
variable {T : String → Option Fn} {G : String → Option D} {wf : Nat}
theorem cut_eqA (hG : T "gain" = some ir_gain) (hU : T "up_end" = some ir_up_end) (hO : T "ups_of" = some ir_ups_of) (hL : T "last_return" = some ir_last_return) (hR : T "turned_row" = some ir_turned_row) (hC : T "cut" = some ir_cut)
    (ps : List (Int × Int)) (hl : ps.length ≤ 100000) (hw : ps.length + 1 < wf) :
    ∃ f m : Nat, (∀ n S, callN T G wf (n + 4) "cut" [.tup (ps.map pD)] S = .ok (.val (cutD ps f m)) S) ∧ f ≤ m ∧ m ≤ ps.length ∧
      lrF ps f = (m : Int) ∧ ((upsF ps = [] ∧ f = 0) ∨ ∃ (V : List (Int × Int)) (u : Int × Int), upsF ps = V ++ [u] ∧ u.2 = (f : Int)) := by
  obtain ⟨f, m, e, h1, h2, h3, h4⟩ := cut_eqD (G := G) (wf := wf) hG hU hO hL hR hC ps hl hw 0
  refine ⟨f, m, fun n S => ?_, h1, h2, h3, h4⟩
  obtain ⟨f', m', e', _, _, h3', h4'⟩ := cut_eqD (G := G) (wf := wf) hG hU hO hL hR hC ps hl hw n
  obtain rfl := cut_end h4 h4'
  obtain rfl : m' = m := by rw [h3] at h3'; omega
  exact e' S
end L
end Px

set_option Elab.async false
set_option linter.all false
set_option maxRecDepth 100000
set_option maxHeartbeats 1000000
/-! Px, part CB: a stretch gathered where it dips deepest. -/
namespace Px
open PySem L2
open L (pD)
theorem need_app_le {a b : Row} (ha : Nn a) (hb : Nn b) (p : Int) : need (a ++ b) ≤ p ↔ need a ≤ p ∧ need b ≤ p + ris a := by
  rw [need_app ha hb]
  constructor
  · intro h; exact ⟨by omega, by omega⟩
  · rintro ⟨h1, h2⟩; omega
theorem need_cons_le {q : Int × Int} {a : Row} (h : Nn (q :: a)) (p : Int) : need (q :: a) ≤ p ↔ q.1 ≤ p ∧ need a ≤ p + gn q := by
  rw [need_cons h]
  constructor
  · intro h; exact ⟨by omega, by omega⟩
  · rintro ⟨h1, h2⟩; omega
section
variable {α : Type} (o : α → Bool) (e : α → Int × Int)
theorem ris_split : ∀ X : List α, ris (X.map e) = ris ((X.filter o).map e) + ris ((X.filter fun x => !o x).map e)
  | [] => rfl
  | x :: X => by
    rw [List.map_cons, ris_cons, ris_split X]
    cases c : o x with
    | true =>
      rw [List.filter_cons_of_pos c, List.filter_cons_of_neg (by simp [c]), List.map_cons, ris_cons]
      omega
    | false =>
      rw [List.filter_cons_of_neg (by simp [c]), List.filter_cons_of_pos (by simp [c]), List.map_cons, ris_cons]
      omega
/-- own steps out of the way: what is left needs no more, as long as they had gained no more than d -/
theorem shed : ∀ (X : List α) (p d : Int), Nn (X.map e) → need (X.map e) ≤ p → (∀ k, ris (((X.filter o).map e).take k) ≤ d) → need ((X.filter fun x => !o x).map e) ≤ p + d
  | [], p, d, _, h, k => by
    have a : (0 : Int) ≤ p := h
    have b : (0 : Int) ≤ d := k 0
    show (0 : Int) ≤ p + d
    omega
  | x :: X, p, d, nn, h, k => by
    rw [List.map_cons] at nn h
    obtain ⟨h1, h2⟩ := (need_cons_le nn p).mp h
    have nn' : Nn (X.map e) := fun q hq => nn q (List.mem_cons_of_mem _ hq)
    cases c : o x with
    | true =>
      rw [List.filter_cons_of_neg (by simp [c])]
      have q := shed X (p + gn (e x)) (d - gn (e x)) nn' h2 fun j => by
        have := k (j + 1)
        rw [List.filter_cons_of_pos c, List.map_cons, List.take_succ_cons, ris_cons] at this
        omega
      omega
    | false =>
      have q := shed X (p + gn (e x)) d nn' h2 fun j => by
        have := k j
        rwa [List.filter_cons_of_neg (by simp [c])] at this
      have b : (0 : Int) ≤ d := k 0
      rw [List.filter_cons_of_pos (by simp [c]), List.map_cons]
      refine (need_cons_le (fun z hz => ?_) (p + d)).mpr ⟨by omega, by omega⟩
      rcases List.mem_cons.mp hz with rfl | hz
      · exact nn _ List.mem_cons_self
      · obtain ⟨y, hy, rfl⟩ := List.mem_map.mp hz
        exact nn' _ (List.mem_map.mpr ⟨y, (List.mem_filter.mp hy).1, rfl⟩)
end
/-- the pair's dip -/
def dip (r : Row) (i : Nat) : Int := ht r i - (r.getD i (0, 0)).1
/-- a stretch that may be gathered at s -/
structure Gat (r : Row) (s : Nat) : Prop where
  lt : s < r.length
  lo : ∀ i, i ≤ s → ht r i ≤ 0
  hi : ∀ i, s < i → i ≤ r.length → ht r i ≤ ht r r.length
  dp : ∀ i, i < r.length → dip r s ≤ dip r i
theorem dp_succ (r : Row) (k : Nat) : dp r (k + 1) = mn (dp r k) (dip r k) := rfl
theorem dp_ge {r : Row} {c : Int} (h0 : c ≤ 0) : ∀ k, (∀ j, j < k → c ≤ dip r j) → c ≤ dp r k
  | 0, _ => h0
  | k + 1, h => by
    have a := dp_ge h0 k fun j hj => h j (by omega)
    have b := h k (by omega)
    rw [dp_succ]
    unfold mn
    split <;> omega
theorem dp_dip (r : Row) {j k : Nat} (h : j < k) : dp r k ≤ dip r j := by
  refine Int.le_trans (dp_le r (show j + 1 ≤ k from h)) ?_
  rw [dp_succ]
  unfold mn
  split <;> omega
theorem dp_gt {r : Row} {c : Int} (h0 : c < 0) (k : Nat) (h : ∀ j, j < k → c < dip r j) : c < dp r k := by
  have := dp_ge (r := r) (c := c + 1) (by omega) k fun j hj => by have := h j hj; omega
  omega
theorem need_dip {r : Row} {c : Int} (h0 : c ≤ 0) (h : ∀ j, j < r.length → c ≤ dip r j) : need r ≤ - c := by
  have a := (whl_take r r.length (Nat.le_refl _)).1
  rw [List.take_length] at a
  have b := dp_ge h0 r.length h
  unfold need
  omega
theorem ris_take (r : Row) (k : Nat) : ris (r.take k) = ht r k := rfl
theorem ht_take (r : Row) {n i : Nat} (h : i ≤ n) : ht (r.take n) i = ht r i := by
  unfold ht
  rw [List.take_take, Nat.min_eq_left h]
theorem dip_take (r : Row) {n i : Nat} (h : i < n) : dip (r.take n) i = dip r i := by
  unfold dip
  rw [ht_take r (Nat.le_of_lt h), List.getD_eq_getElem?_getD, List.getD_eq_getElem?_getD, List.getElem?_take, if_pos h]
theorem gather_le {α : Type} (o : α → Bool) (e : α → Int × Int) {X Y own : List α} {sp : α} {r : Row} {s : Nat} (G : Gat r s) (hX : (X.filter o).map e = r.take s) (hs : e sp = r.getD s (0, 0)) (hY : (Y.filter o).map e = r.drop (s + 1)) (ho : own.map e = r)
    (nn : Nn ((X ++ sp :: Y).map e)) : need (((X.filter fun x => !o x) ++ (own ++ Y.filter fun x => !o x)).map e) ≤ need ((X ++ sp :: Y).map e) := by
  have em : (X ++ sp :: Y).map e = X.map e ++ e sp :: Y.map e := by rw [List.map_append, List.map_cons]
  rw [em] at nn ⊢
  generalize hp : need (X.map e ++ e sp :: Y.map e) = p
  have n1 : Nn (X.map e) := fun q hq => nn q (List.mem_append.mpr (.inl hq))
  have n2 : Nn (e sp :: Y.map e) := fun q hq => nn q (List.mem_append.mpr (.inr hq))
  have n3 : Nn (Y.map e) := fun q hq => n2 q (List.mem_cons_of_mem _ hq)
  obtain ⟨p1, p2⟩ := (need_app_le n1 n2 p).mp (Int.le_of_eq hp)
  obtain ⟨p3, p4⟩ := (need_cons_le n2 _).mp p2
  have sub : ∀ (Z : List α) (p : α → Bool), Nn (Z.map e) → Nn ((Z.filter p).map e) := fun Z p h q hq => by
    obtain ⟨y, hy, rfl⟩ := List.mem_map.mp hq
    exact h _ (List.mem_map.mpr ⟨y, (List.mem_filter.mp hy).1, rfl⟩)
  have nr : Nn r := fun q hq => by
    have e1 : r = r.take s ++ (r.getD s (0, 0)) :: r.drop (s + 1) := by
      have := (List.take_append_drop s r).symm
      rw [List.drop_eq_getElem_cons G.lt] at this
      rw [List.getD_eq_getElem?_getD, List.getElem?_eq_getElem G.lt]
      exact this
    rw [e1, ← hX, ← hs, ← hY] at hq
    rcases List.mem_append.mp hq with hq | hq
    · exact sub X o n1 q hq
    · rcases List.mem_cons.mp hq with rfl | hq
      · exact n2 _ List.mem_cons_self
      · exact sub Y o n3 q hq
  have x1 := shed o e X p 0 n1 p1 fun k => by
    rw [hX, List.take_take, ris_take]
    exact G.lo _ (Nat.min_le_right _ _)
  have rs := ris_split o e X
  rw [hX, ris_take] at rs
  have hg : ht r (s + 1) = ht r s + gn (e sp) := by rw [ht_succ, hs]
  have x2 : need r ≤ p + ris ((X.filter fun x => !o x).map e) := by
    have c0 : dip r s ≤ 0 := by
      have a := G.lo s (Nat.le_refl _)
      have b := nr (r.getD s (0, 0)) (by
        rw [List.getD_eq_getElem?_getD, List.getElem?_eq_getElem G.lt]
        exact List.getElem_mem G.lt)
      unfold dip
      omega
    have := need_dip c0 G.dp
    unfold dip at this
    rw [← hs] at this
    omega
  have x3 := shed o e Y (p + ris (X.map e) + gn (e sp)) (ht r r.length - ht r (s + 1)) n3 p4 fun k => by
    rw [hY]
    have e2 : ris ((r.drop (s + 1)).take k) = ht r (s + 1 + k) - ht r (s + 1) := by
      rw [ris_take, ht_drop]
    rw [e2]
    by_cases c : s + 1 + k ≤ r.length
    · have := G.hi (s + 1 + k) (by omega) c
      omega
    · rw [ht_all r (by omega)]
      exact Int.le_refl _
  rw [List.map_append, List.map_append, ho]
  refine (need_app_le (sub X _ n1) (nr.app (sub Y _ n3)) p).mpr ⟨by omega, (need_app_le nr (sub Y _ n3) _).mpr ⟨x2, ?_⟩⟩
  have e3 : ris r = ht r r.length := by unfold ht; rw [List.take_length]; rfl
  rw [e3]
  omega
theorem gat_up {r : Row} (hr : Nn r) (h : 0 < fu r) {s : Nat} (hs : s < fu r) (h1 : ∀ i, i < fu r → dip r s ≤ dip r i) (h2 : ∀ i, i < s → dip r s < dip r i) : Gat (r.take (fu r)) s := by
  have le := fu_le r
  have ln : (r.take (fu r)).length = fu r := by rw [List.length_take]; omega
  obtain ⟨b1, b2⟩ := fu_best h
  have m0 : dip r s ≤ 0 := by
    have a := h1 0 h
    have z : dip r 0 ≤ 0 := by
      unfold dip
      rw [ht_zero, List.getD_eq_getElem?_getD, List.getElem?_eq_getElem (by omega)]
      have := hr r[0] (List.getElem_mem _)
      show 0 - (r[0]).1 ≤ 0
      omega
    omega
  have dl : dp r (fu r) = dip r s := Int.le_antisymm (dp_dip r hs) (dp_ge m0 _ h1)
  refine ⟨by rw [ln]; exact hs, fun i hi => ?_, fun i hi hl => ?_, fun i hi => ?_⟩
  · rw [ht_take r (by omega)]
    rcases Int.lt_or_le 0 (ht r i) with c | c
    · exfalso
      have q := b2 i (by omega) c
      rw [dl] at q
      by_cases z : dip r s = 0
      · have : s = 0 := by
          rcases Nat.eq_zero_or_pos s with w | w
          · exact w
          · have a := h2 0 w
            have z : dip r 0 ≤ 0 := by
              unfold dip
              rw [ht_zero, List.getD_eq_getElem?_getD, List.getElem?_eq_getElem (by omega)]
              have := hr r[0] (List.getElem_mem _)
              show 0 - (r[0]).1 ≤ 0
              omega
            omega
        have i0 : i = 0 := by omega
        subst i0
        rw [ht_zero] at c
        omega
      · have := dp_gt (c := dip r s) (by omega) i fun j hj => h2 j (by omega)
        omega
    · exact c
  · rw [ln] at hl ⊢
    rw [ht_take r hl, ht_take r (Nat.le_refl _)]
    rcases Int.lt_or_le 0 (ht r i) with c | c
    · have q := b2 i (by omega) c
      have d1 : dp r i ≤ dip r s := dp_dip r hi
      have d2 : dip r s ≤ dp r i := dp_ge m0 i fun j hj => h1 j (by omega)
      rw [dl] at q
      omega
    · omega
  · rw [ln] at hi
    rw [dip_take r hs, dip_take r hi]
    exact h1 i hi
theorem gat_flat {r : Row} {s : Nat} (hs : s < r.length) (h : ∀ i, i ≤ r.length → ht r i ≤ 0) (hz : ht r r.length = 0) (h1 : ∀ i, i < r.length → dip r s ≤ dip r i) : Gat r s :=
  ⟨hs, fun i hi => h i (by omega), fun i _ hl => by rw [hz]; exact h i hl, h1⟩
theorem dip_tnd (r : Row) {i : Nat} (h : i < r.length) : dip (tnd r) i = dip r (r.length - 1 - i) - ht r r.length := by
  have e1 : (tnd r).getD i (0, 0) = sw (r.getD (r.length - 1 - i) (0, 0)) := by
    unfold tnd
    rw [List.getD_eq_getElem?_getD, List.getD_eq_getElem?_getD, List.getElem?_map, List.getElem?_reverse h]
    cases r[r.length - 1 - i]? <;> rfl
  have e2 := ht_succ r (r.length - 1 - i)
  rw [show r.length - 1 - i + 1 = r.length - i by omega] at e2
  unfold dip
  rw [e1, ht_tnd r (by omega), e2]
  unfold gn sw
  dsimp only
  omega
theorem gat_tnd {r : Row} {s : Nat} (G : Gat r s) : Gat (tnd r) (r.length - 1 - s) := by
  have l := G.lt
  have z : ht (tnd r) r.length = - ht r r.length := by rw [ht_tnd r (Nat.le_refl _), Nat.sub_self, ht_zero]; omega
  refine ⟨by rw [tnd_len]; omega, fun i hi => ?_, fun i hi hl => ?_, fun i hi => ?_⟩
  · rw [ht_tnd r (by omega)]
    have := G.hi (r.length - i) (by omega) (by omega)
    omega
  · rw [tnd_len] at hl ⊢
    rw [z, ht_tnd r hl]
    have := G.lo (r.length - i) (by omega)
    omega
  · rw [tnd_len] at hi
    rw [dip_tnd r (by omega), dip_tnd r hi, show r.length - 1 - (r.length - 1 - s) = s by omega]
    have := G.dp (r.length - 1 - i) (by omega)
    omega
/-! ### pairs among pairs -/
theorem pair_shaped (p : Int × Int) : SeqAt.shaped (pD p).toP = true := by
  obtain ⟨a, b⟩ := ints_shaped [p.1, p.2]
  exact shaped_tup a (Nat.le_of_eq b) (by decide)
theorem pair_eqv (p q : Int × Int) : PyData.eqv (pD p).toP (pD q).toP = decide (p = q) := by
  obtain ⟨a, b⟩ := p
  obtain ⟨c, d⟩ := q
  show PyData.eqv (D.tup [.int a, .int b]).toP (D.tup [.int c, .int d]).toP = _
  simp [D.toP, D.toPs, PyData.eqv, PyData.eqvAll]
  by_cases h1 : a = c <;> by_cases h2 : b = d <;> simp [h1, h2]
theorem eqD_pD (p q : Int × Int) : eqD (pD p) (pD q) = some (decide (p = q)) := by
  unfold eqD
  rw [if_pos ⟨pair_shaped p, pair_shaped q⟩, pair_eqv]
theorem inD_pD (p : Int × Int) (l : List (Int × Int)) : inD (pD p) (l.map pD) = some (decide (p ∈ l)) := by
  obtain ⟨a, b⟩ := pairs_shaped l
  unfold inD
  rw [if_pos ⟨pair_shaped p, shaped_lst a b (by decide)⟩]
  congr 1
  clear a b
  induction l with
  | nil => rfl
  | cons q l ih =>
    show (PyData.eqv (pD q).toP (pD p).toP || (D.toPs (l.map pD)).any _) = _
    rw [ih, pair_eqv]
    by_cases h : q = p
    · subst h; simp
    · have h' : ¬ p = q := fun e => h e.symm
      simp [h, h']
theorem gat_up' {w r : Row} (hr : Nn r) (h : 0 < fu r) (hw : w = r.take (fu r)) {s : Nat} (hs : s < w.length) (h1 : ∀ i, i < w.length → dip w s ≤ dip w i) (h2 : ∀ i, i < s → dip w s < dip w i) : Gat w s := by
  subst hw
  have le := fu_le r
  have ln : (r.take (fu r)).length = fu r := by rw [List.length_take]; omega
  rw [ln] at hs h1
  refine gat_up hr h hs (fun i hi => ?_) fun i hi => ?_
  · have := h1 i hi
    rwa [dip_take r hs, dip_take r hi] at this
  · have := h2 i hi
    rwa [dip_take r hs, dip_take r (by omega)] at this
theorem gat_down {w r : Row} (hr : Nn r) (h : 0 < fu r) (hw : w = r.take (fu r)) {s : Nat} (hs : s < w.length) (h1 : ∀ i, i < w.length → dip (tnd w) s ≤ dip (tnd w) i) (h2 : ∀ i, s < i → i < w.length → dip (tnd w) s < dip (tnd w) i) : Gat (tnd w) s := by
  have q := gat_tnd (gat_up' hr h hw (s := w.length - 1 - s) (by omega) (fun i hi => ?_) fun i hi => ?_)
  · rwa [show w.length - 1 - (w.length - 1 - s) = s by omega] at q
  · have := h1 (w.length - 1 - i) (by omega)
    rw [dip_tnd w hs, dip_tnd w (by omega), show w.length - 1 - (w.length - 1 - i) = i by omega] at this
    omega
  · have := h2 (w.length - 1 - i) (by omega) (by omega)
    rw [dip_tnd w hs, dip_tnd w (by omega), show w.length - 1 - (w.length - 1 - i) = i by omega] at this
    omega
/-- an up begins where it begins -/
theorem upsG_at (r : Row) : ∀ (m f : Nat), f ≤ r.length → ∀ u ∈ upsG r m f, ∃ a : Nat, u = ((a : Int), ((a + fu (r.drop a) : Nat) : Int)) ∧ 0 < fu (r.drop a) ∧ a + fu (r.drop a) ≤ r.length
  | 0, f, hf, u, hu => nomatch hu
  | m + 1, f, hf, u, hu => by
    unfold upsG at hu
    have e := upE_drop r hf
    have le := fu_le (r.drop f)
    rw [List.length_drop] at le
    by_cases c : fu (r.drop f) = 0
    · rw [e, c, if_neg (by omega)] at hu
      cases hu
    · rw [e, if_pos (by omega), show ((f : Int) + (fu (r.drop f) : Int)).toNat = f + fu (r.drop f) by omega] at hu
      rcases List.mem_cons.mp hu with rfl | hu
      · exact ⟨f, by rw [Int.natCast_add], by omega, by omega⟩
      · exact upsG_at r m _ (by omega) u hu
theorem upsF_at (r : Row) {u : Int × Int} (h : u ∈ upsF r) : ∃ a : Nat, u = ((a : Int), ((a + fu (r.drop a) : Nat) : Int)) ∧ 0 < fu (r.drop a) ∧ a + fu (r.drop a) ≤ r.length ∧ seg r u = (r.drop a).take (fu (r.drop a)) := by
  obtain ⟨a, rfl, h1, h2⟩ := upsG_at r _ 0 (Nat.zero_le _) u h
  refine ⟨a, rfl, h1, h2, ?_⟩
  unfold seg
  dsimp only
  rw [Int.toNat_natCast, Int.toNat_natCast, show a + fu (r.drop a) - a = fu (r.drop a) by omega]
end Px

namespace Px
open PySem L2
def ir_gain : Fn := ⟨1, ["pair"], (.cons (.ret (.bin .sub (.ix (.var 0) (.int 1)) (.ix (.var 0) (.int 0))))
 .nil)⟩
def ir_joined : Fn := ⟨2, ["one", "other", "need"], (.cons (.asg (.nm 2) (.bi .max2 (.cons (.ix (.var 0) (.int 0)) (.cons (.bin .sub (.ix (.var 1) (.int 0)) (.call "gain" (.cons (.var 0) .nil))) .nil))))
 (.cons (.ret (.tup (.cons (.var 2) (.cons (.bin .add (.bin .add (.var 2) (.call "gain" (.cons (.var 0) .nil))) (.call "gain" (.cons (.var 1) .nil))) .nil))))
 .nil))⟩
def b_whole_0 : Sxs := (.cons (.asg (.nm 1) (.call "joined" (.cons (.var 1) (.cons (.var 2) .nil))))
 (.cons (.frz 1)
 .nil))
def ir_whole : Fn := ⟨1, ["row", "found", "pair"], (.cons (.asg (.nm 1) (.tup (.cons (.int 0) (.cons (.int 0) .nil))))
 (.cons (.loop (.nm 2) (.val (.var 0)) b_whole_0)
 (.cons (.retv 1)
 .nil)))⟩
def c_turned_row_0 : Ex := .comp [("need", 1), ("leave", 2)] (.tup (.cons (.nm 1) (.cons (.nm 2) .nil))) (.val (.rev (.var 0))) .nop (.tup (.cons (.var 2) (.cons (.var 1) .nil)))
def ir_turned_row : Fn := ⟨1, ["row", "need", "leave"], (.cons (.ret (.bi .tuple (.cons c_turned_row_0 .nil)))
 .nil)⟩
def b_up_end_0 : Sxs := (.cons (.asg (.nm 3) (.bi .min2 (.cons (.var 3) (.cons (.bin .sub (.var 2) (.ix (.ix (.var 0) (.var 6)) (.int 0))) .nil))))
 (.cons (.aug 2 .add (.call "gain" (.cons (.ix (.var 0) (.var 6)) .nil)))
 (.cons (.ife (.and (.cmp .gt (.var 4) (.var 1)) (.cmp .lt (.var 3) (.ix (.var 5) (.int 0))))
 (.cons (.retv 4)
 .nil)
 .nil)
 (.cons (.ife (.and (.cmp .gt (.var 2) (.int 0)) (.or (.cmp .eq (.var 4) (.var 1)) (.cmp .ge (.var 2) (.ix (.var 5) (.int 1)))))
 (.cons (.asg (.tup (.cons (.nm 5) (.cons (.nm 4) .nil))) (.tup (.cons (.tup (.cons (.var 3) (.cons (.var 2) .nil))) (.cons (.bin .add (.var 6) (.int 1)) .nil))))
 .nil)
 .nil)
 .nil))))
def ir_up_end : Fn := ⟨2, ["row", "first", "height", "dip", "end", "best", "at"], (.cons (.asg (.tup (.cons (.nm 2) (.cons (.nm 3) (.cons (.nm 4) .nil)))) (.tup (.cons (.int 0) (.cons (.int 0) (.cons (.var 1) .nil)))))
 (.cons (.asg (.nm 5) (.tup (.cons (.int 0) (.cons (.int 0) .nil))))
 (.cons (.loop (.nm 6) (.rng2 (.var 1) (.bi .len (.cons (.var 0) .nil))) b_up_end_0)
 (.cons (.retv 4)
 .nil))))⟩
def b_ups_of_0 : Sxs := (.cons (.app 1 (.tup (.cons (.var 2) (.cons (.var 3) .nil))))
 (.cons (.asg (.nm 2) (.var 3))
 (.cons (.asg (.nm 3) (.call "up_end" (.cons (.var 0) (.cons (.var 2) .nil))))
 (.cons (.frz 3)
 .nil))))
def ir_ups_of : Fn := ⟨1, ["row", "found", "first", "end"], (.cons (.asg (.nm 1) (.list .nil))
 (.cons (.asg (.nm 2) (.int 0))
 (.cons (.asg (.nm 3) (.call "up_end" (.cons (.var 0) (.cons (.var 2) .nil))))
 (.cons (.frz 3)
 (.cons (.whl (.cmp .gt (.var 3) (.var 2)) b_ups_of_0)
 (.cons (.retv 1)
 .nil))))))⟩
def b_last_return_0 : Sxs := (.cons (.aug 2 .add (.call "gain" (.cons (.ix (.var 0) (.var 4)) .nil)))
 (.cons (.ife (.cmp .eq (.var 2) (.int 0))
 (.cons (.asg (.nm 3) (.bin .add (.var 4) (.int 1)))
 (.cons (.frz 3)
 .nil))
 .nil)
 .nil))
def ir_last_return : Fn := ⟨2, ["row", "first", "height", "found", "at"], (.cons (.asg (.tup (.cons (.nm 2) (.cons (.nm 3) .nil))) (.tup (.cons (.int 0) (.cons (.var 1) .nil))))
 (.cons (.loop (.nm 4) (.rng2 (.var 1) (.bi .len (.cons (.var 0) .nil))) b_last_return_0)
 (.cons (.retv 3)
 .nil)))⟩
def c_cut_0 : Ex := .comp [("begin", 6), ("end", 7)] (.tup (.cons (.nm 6) (.cons (.nm 7) .nil))) (.val (.rev (.var 4))) .nop (.tup (.cons (.bin .sub (.bi .len (.cons (.var 0) .nil)) (.var 7)) (.cons (.bin .sub (.bi .len (.cons (.var 0) .nil)) (.var 6)) .nil)))
def ir_cut : Fn := ⟨1, ["row", "ups", "first", "last", "back", "downs", "begin", "end"], (.cons (.asg (.nm 1) (.call "ups_of" (.cons (.var 0) .nil)))
 (.cons (.frz 1)
 (.cons (.asg (.nm 2) (.ife (.var 1) (.ix (.ix (.var 1) (.neg (.int 1))) (.int 1)) (.int 0)))
 (.cons (.asg (.nm 3) (.call "last_return" (.cons (.var 0) (.cons (.var 2) .nil))))
 (.cons (.frz 3)
 (.cons (.asg (.nm 4) (.call "ups_of" (.cons (.call "turned_row" (.cons (.sl (.var 0) (.yes (.var 3)) .no) .nil)) .nil)))
 (.cons (.frz 4)
 (.cons (.asg (.nm 5) c_cut_0)
 (.cons (.frz 5)
 (.cons (.ret (.tup (.cons (.bi .tuple (.cons (.var 1) .nil)) (.cons (.tup (.cons (.var 2) (.cons (.var 3) .nil))) (.cons (.bi .tuple (.cons (.var 5) .nil)) .nil)))))
 .nil))))))))))⟩
def c_greatest_end_0 : Ex := .comp [("need", 2), ("leave", 3)] (.tup (.cons (.nm 2) (.cons (.nm 3) .nil))) (.val (.sl (.var 0) (.yes (.neg (.int 1))) .no)) .nop (.var 3)
def c_greatest_end_1 : Ex := .comp [("need", 2), ("leave", 3)] (.tup (.cons (.nm 2) (.cons (.nm 3) .nil))) (.val (.sl (.var 1) .no (.yes (.int 1)))) .nop (.var 2)
def ir_greatest_end : Fn := ⟨2, ["up", "down", "need", "leave"], (.cons (.ret (.bi .maxL (.cons (.bin .add (.bin .add (.list (.cons (.int 0) .nil)) c_greatest_end_0) c_greatest_end_1) .nil)))
 .nil)⟩
def c_form_of_0 : Ex := .comp [("first", 5), ("last", 6)] (.tup (.cons (.nm 5) (.cons (.nm 6) .nil))) (.val (.var 1)) .nop (.call "whole" (.cons (.sl (.var 0) (.yes (.var 5)) (.yes (.var 6))) .nil))
def c_form_of_1 : Ex := .comp [("first", 5), ("last", 6)] (.tup (.cons (.nm 5) (.cons (.nm 6) .nil))) (.val (.var 3)) .nop (.call "whole" (.cons (.sl (.var 0) (.yes (.var 5)) (.yes (.var 6))) .nil))
def ir_form_of : Fn := ⟨1, ["row", "ups", "middle", "downs", "up", "first", "last", "down"], (.cons (.asg (.tup (.cons (.nm 1) (.cons (.nm 2) (.cons (.nm 3) .nil)))) (.call "cut" (.cons (.var 0) .nil)))
 (.cons (.asg (.nm 4) (.bi .tuple (.cons c_form_of_0 .nil)))
 (.cons (.asg (.nm 7) (.bi .tuple (.cons c_form_of_1 .nil)))
 (.cons (.ret (.tup (.cons (.var 4) (.cons (.bi .max2 (.cons (.call "greatest_end" (.cons (.var 4) (.cons (.var 7) .nil))) (.cons (.ix (.call "whole" (.cons (.sl (.var 0) (.yes (.ix (.var 2) (.int 0))) (.yes (.ix (.var 2) (.int 1)))) .nil)) (.int 0)) .nil))) (.cons (.var 7) .nil)))))
 .nil))))⟩
def c_deck_0 : Ex := .comp [("_law_cell", 2)] (.nm 2) (.val (.sl (.var 0) .no (.yes (.int 63)))) .nop (.bi .abs (.cons (.var 2) .nil))
def c_deck_1 : Ex := .comp [("_law_cell", 2)] (.nm 2) (.val (.var 1)) (.cmp .ge (.var 2) (.bin .pow (.int 10) (.int 18))) (.var 2)
def ir_deck : Fn := ⟨1, ["_law_script", "_law_cells", "_law_cell"], (.cons (.asg (.nm 1) (.bin .add c_deck_0 (.list (.cons (.int 11) .nil))))
 (.cons (.frz 1)
 (.cons (.ret (.list (.cons (.shr c_deck_1) (.cons (.var 1) (.cons (.int 0) (.cons (.int 62) .nil))))))
 .nil)))⟩
def b_next_0 : Sxs := (.cons (.asg (.nm 2) (.ixr (.ixr (.var 0) (.int 0)) (.int 0)))
 (.cons (.ife (.cmp .gt (.var 2) (.int 0))
 (.cons (.setixr (.ixr (.var 0) (.int 0)) (.int 0) (.bin .fdiv (.var 2) (.var 1)))
 (.cons (.ret (.bin .mod (.var 2) (.var 1)))
 .nil))
 .nil)
 (.cons (.expr (.popr (.ixr (.var 0) (.int 0)) (.yes (.int 0))))
 .nil)))
def ir_next : Fn := ⟨2, ["_law_deck_here", "_law_many", "_law_cell"], (.cons (.whl (.cmpr .ne (.ixr (.var 0) (.int 0)) (.list .nil)) b_next_0)
 (.cons (.setix 0 (.int 2) (.bin .add (.ixr (.var 0) (.int 2)) (.int 1)))
 (.cons (.asg (.nm 2) (.ixr (.ixr (.var 0) (.int 1)) (.bin .mod (.ixr (.var 0) (.int 2)) (.bi .len (.cons (.ixr (.var 0) (.int 1)) .nil)))))
 (.cons (.setix 0 (.int 3) (.bin .mod (.bin .add (.bin .add (.bin .mul (.ixr (.var 0) (.int 3)) (.int 48271)) (.bin .mod (.var 2) (.int 2147483629))) (.bin .mul (.int 30011) (.ixr (.var 0) (.int 2)))) (.int 2147483647)))
 (.cons (.ret (.bin .mod (.bin .fdiv (.bin .mod (.bin .mul (.ixr (.var 0) (.int 3)) (.ixr (.var 0) (.int 3))) (.int 2147483629)) (.int 16)) (.var 1)))
 .nil)))))⟩
def c_turned_0 : Ex := .comp [("_law_need", 1), ("_law_leave", 2)] (.tup (.cons (.nm 1) (.cons (.nm 2) .nil))) (.val (.rev (.var 0))) .nop (.tup (.cons (.var 2) (.cons (.var 1) .nil)))
def ir_turned : Fn := ⟨1, ["_law_row_here", "_law_need", "_law_leave"], (.cons (.ret (.bi .tuple (.cons c_turned_0 .nil)))
 .nil)⟩
def ir_number : Fn := ⟨1, ["_law_deck_here", "_law_way"], (.cons (.asg (.nm 1) (.call "_law_next" (.cons (.var 0) (.cons (.int 14) .nil))))
 (.cons (.frz 1)
 (.cons (.ife (.cmp .eq (.var 1) (.int 0))
 (.cons (.ret (.bin .sub (.bin .pow (.int 10) (.int 12)) (.call "_law_next" (.cons (.var 0) (.cons (.int 3) .nil)))))
 .nil)
 .nil)
 (.cons (.ret (.call "_law_next" (.cons (.var 0) (.cons (.ix (.list (.cons (.int 1) (.cons (.int 3) (.cons (.int 6) (.cons (.int 10) .nil))))) (.bin .mod (.var 1) (.int 4))) .nil))))
 .nil))))⟩
def b_path_0 : Sxs := (.cons (.asg (.nm 5) (.bi .max2 (.cons (.int 0) (.cons (.bin .add (.var 3) (.call "_law_next" (.cons (.var 0) (.cons (.ix (.list (.cons (.int 3) (.cons (.int 8) (.cons (.int 20) .nil)))) (.call "_law_next" (.cons (.var 0) (.cons (.int 3) .nil)))) .nil)))) .nil))))
 (.cons (.asg (.nm 6) (.bi .max2 (.cons (.int 0) (.cons (.bin .sub (.bin .add (.var 5) (.call "_law_next" (.cons (.var 0) (.cons (.int 9) .nil)))) (.int 4)) .nil))))
 (.cons (.app 2 (.tup (.cons (.var 5) (.cons (.var 6) .nil))))
 (.cons (.asg (.nm 3) (.bin .sub (.bin .add (.var 3) (.var 6)) (.var 5)))
 (.cons (.frz 3)
 .nil)))))
def ir_path : Fn := ⟨2, ["_law_deck_here", "_law_most", "_law_found", "_law_at", "_law_k", "_law_need", "_law_leave"], (.cons (.asg (.nm 2) (.list .nil))
 (.cons (.asg (.nm 3) (.int 0))
 (.cons (.loop (.nm 4) (.rng1 (.call "_law_next" (.cons (.var 0) (.cons (.bin .add (.var 1) (.int 1)) .nil)))) b_path_0)
 (.cons (.ret (.bi .tuple (.cons (.var 2) .nil)))
 .nil))))⟩
def b_row_0 : Sxs := (.cons (.app 4 (.tup (.cons (.call "_law_number" (.cons (.var 0) .nil)) (.cons (.call "_law_number" (.cons (.var 0) .nil)) .nil))))
 .nil)
def ir_row : Fn := ⟨2, ["_law_deck_here", "_law_most", "_law_way", "_law_row_here", "_law_found", "_law_k"], (.cons (.asg (.nm 2) (.call "_law_next" (.cons (.var 0) (.cons (.int 3) .nil))))
 (.cons (.frz 2)
 (.cons (.ife (.cmp .eq (.var 2) (.int 0))
 (.cons (.ret (.call "_law_path" (.cons (.var 0) (.cons (.var 1) .nil))))
 .nil)
 .nil)
 (.cons (.ife (.cmp .eq (.var 2) (.int 1))
 (.cons (.asg (.nm 3) (.call "_law_path" (.cons (.var 0) (.cons (.bin .fdiv (.var 1) (.int 2)) .nil))))
 (.cons (.frz 3)
 (.cons (.ret (.bin .add (.var 3) (.var 3)))
 .nil)))
 .nil)
 (.cons (.asg (.nm 4) (.list .nil))
 (.cons (.loop (.nm 5) (.rng1 (.call "_law_next" (.cons (.var 0) (.cons (.bin .add (.var 1) (.int 1)) .nil)))) b_row_0)
 (.cons (.ret (.bi .tuple (.cons (.var 4) .nil)))
 .nil)))))))⟩
def b_brought_0 : Sxs := (.cons (.ife (.cmp .lt (.var 1) (.var 3))
 (.cons (.retv 2)
 .nil)
 .nil)
 (.cons (.asg (.nm 1) (.bin .sub (.bin .add (.var 1) (.var 4)) (.var 3)))
 (.cons (.frz 1)
 (.cons (.asg (.nm 2) (.bi .max2 (.cons (.var 2) (.cons (.var 1) .nil))))
 .nil))))
def ir_brought : Fn := ⟨2, ["_law_row_here", "_law_purse", "_law_found", "_law_need", "_law_leave"], (.cons (.asg (.nm 2) (.var 1))
 (.cons (.loop (.tup (.cons (.nm 3) (.cons (.nm 4) .nil))) (.val (.var 0)) b_brought_0)
 (.cons (.retv 2)
 .nil)))⟩
def b_purses_0 : Sxs := (.cons (.ext 1 (.list (.cons (.bin .sub (.bin .sub (.var 3) (.var 2)) (.int 1)) (.cons (.bin .sub (.var 3) (.var 2)) (.cons (.bin .add (.bin .sub (.var 3) (.var 2)) (.int 1)) .nil)))))
 (.cons (.asg (.nm 2) (.bin .sub (.bin .add (.var 2) (.var 4)) (.var 3)))
 (.cons (.frz 2)
 .nil)))
def c_purses_0 : Ex := .comp [("_law_purse", 5)] (.nm 5) (.val (.sset (.var 1))) (.cmp .ge (.var 5) (.int 0)) (.var 5)
def ir_purses : Fn := ⟨1, ["_law_row_here", "_law_found", "_law_at", "_law_need", "_law_leave", "_law_purse"], (.cons (.asg (.nm 1) (.lrng (.int 8)))
 (.cons (.asg (.nm 2) (.int 0))
 (.cons (.loop (.tup (.cons (.nm 3) (.cons (.nm 4) .nil))) (.val (.var 0)) b_purses_0)
 (.cons (.ret c_purses_0)
 .nil))))⟩
def b_same_up_0 : Sxs := (.cons (.ife (.cmp .ne (.call "_law_brought" (.cons (.var 0) (.cons (.var 2) .nil))) (.call "_law_brought" (.cons (.var 1) (.cons (.var 2) .nil))))
 (.cons (.ret (.bl false))
 .nil)
 .nil)
 .nil)
def b_same_up_1 : Sxs := (.cons (.ext 3 (.var 4))
 .nil)
def ir_same_up : Fn := ⟨2, ["_law_row_here", "_law_up", "_law_purse", "_law_numbers", "_law_pair"], (.cons (.loop (.nm 2) (.val (.bin .add (.call "_law_purses" (.cons (.var 0) .nil)) (.call "_law_purses" (.cons (.var 1) .nil)))) b_same_up_0)
 (.cons (.asg (.nm 3) (.list .nil))
 (.cons (.loop (.nm 4) (.val (.var 1)) b_same_up_1)
 (.cons (.ret (.cmp .eq (.var 3) (.sset (.var 3))))
 .nil))))⟩
def b_is_borne_0 : Sxs := (.cons (.ife (.cmp .lt (.var 1) (.var 2))
 (.cons (.ret (.bl false))
 .nil)
 .nil)
 (.cons (.asg (.nm 1) (.bin .sub (.bin .add (.var 1) (.var 3)) (.var 2)))
 (.cons (.frz 1)
 .nil)))
def ir_is_borne : Fn := ⟨2, ["_law_row_here", "_law_purse", "_law_need", "_law_leave"], (.cons (.loop (.tup (.cons (.nm 2) (.cons (.nm 3) .nil))) (.val (.var 0)) b_is_borne_0)
 (.cons (.ret (.bl true))
 .nil))⟩
def c_law_0 : Ex := .comp [("_law_need", 8), ("_law_leave", 9)] (.tup (.cons (.nm 8) (.cons (.nm 9) .nil))) (.val (.var 4)) .nop (.bin .sub (.var 9) (.var 8))
def b_law_0 : Sxs := (.cons (.asg (.nm 3) (.call "_law_row" (.cons (.var 1) (.cons (.var 2) .nil))))
 (.cons (.frz 3)
 (.cons (.asg (.tup (.cons (.nm 4) (.cons (.nm 5) (.cons (.nm 6) .nil)))) (.call "form_of" (.cons (.var 3) .nil)))
 (.cons (.ife (.or (.not (.call "_law_same_up" (.cons (.var 3) (.cons (.var 4) .nil)))) (.not (.call "_law_same_up" (.cons (.call "_law_turned" (.cons (.var 3) .nil)) (.cons (.call "_law_turned" (.cons (.var 6) .nil)) .nil)))))
 (.cons (.ret (.bl false))
 .nil)
 .nil)
 (.cons (.asg (.nm 7) (.bin .sub (.var 5) (.bi .sum (.cons c_law_0 .nil))))
 (.cons (.frz 7)
 (.cons (.ife (.or (.cmp .lt (.var 7) (.int 0)) (.or (.not (.call "_law_is_borne" (.cons (.var 3) (.cons (.var 7) .nil)))) (.and (.cmp .gt (.var 7) (.int 0)) (.call "_law_is_borne" (.cons (.var 3) (.cons (.bin .sub (.var 7) (.int 1)) .nil))))))
 (.cons (.ret (.bl false))
 .nil)
 .nil)
 .nil)))))))
def ir_law : Fn := ⟨1, ["_law_script", "_law_deck_here", "_law_most", "_law_row_here", "_law_up", "_law_top", "_law_down", "_law_purse", "_law_need", "_law_leave"], (.cons (.asg (.nm 1) (.call "_law_deck" (.cons (.var 0) .nil)))
 (.cons (.shr 1)
 (.cons (.loop (.nm 2) (.val (.list (.cons (.int 16) (.cons (.int 9) (.cons (.int 6) (.cons (.int 4) .nil)))))) b_law_0)
 (.cons (.ret (.bl true))
 .nil))))⟩
def tab : String → Option Fn
  | "gain" => some ir_gain
  | "joined" => some ir_joined
  | "whole" => some ir_whole
  | "turned_row" => some ir_turned_row
  | "up_end" => some ir_up_end
  | "ups_of" => some ir_ups_of
  | "last_return" => some ir_last_return
  | "cut" => some ir_cut
  | "greatest_end" => some ir_greatest_end
  | "form_of" => some ir_form_of
  | "_law_deck" => some ir_deck
  | "_law_next" => some ir_next
  | "_law_turned" => some ir_turned
  | "_law_number" => some ir_number
  | "_law_path" => some ir_path
  | "_law_row" => some ir_row
  | "_law_brought" => some ir_brought
  | "_law_purses" => some ir_purses
  | "_law_same_up" => some ir_same_up
  | "_law_is_borne" => some ir_is_borne
  | "law" => some ir_law
  | _ => none
def GD : String → Option D
  | _ => none
def gls : List String := []
def DEEP : Nat := 24
def FUEL : Nat := 4096
def fns : List String := ["gain", "joined", "whole", "turned_row", "up_end", "ups_of", "last_return", "cut", "greatest_end", "form_of", "_law_deck", "_law_next", "_law_turned", "_law_number", "_law_path", "_law_row", "_law_brought", "_law_purses", "_law_same_up", "_law_is_borne", "law"]
end Px

set_option Elab.async false
set_option linter.all false
set_option maxRecDepth 100000
set_option maxHeartbeats 0
namespace Px
open PySem PySem.Spec PyProof.Rows L2

def top (i : Nat) : Stmt := PySem.Challenge.pw_stintpurse_k16_whole_forms_by_purses.main.body.getD i (.Pass ⟨0, 0, 0, 0⟩)
section
variable {K : PySem.W.Frag} {mg : Str → Option Value} {h : Heap} {a : Addr} {kV doc pm cdv ct oc : Value} {an od : Option Addr} {osl : Array (Option Value)}
theorem def_gain (X : K.In h) (G : h.Ns mainGlobals mg) (h1 : PySem.W.nsIn K mainGlobals "gain" = some (some (.ref a))) (h2 : K.lookup a = some ⟨oc, od, .func (PySem.W.fnOf "gain" "gain" (defArgs (top 1)) (defBody (top 1)) (defScope (top 1)) .none kV doc pm an cdv ct), osl⟩) (h3 : PySem.W.codeIn K cdv "gain" = true) (h4 : PySem.W.keepIn K (.ref a) = true) : DefOk K mg fns gls "gain" ir_gain :=
  DefOk.of (top 1) ["pair"] X G h1 h2 h3 h4 (fun us hl => match us, hl with | [_], _ => rfl) ⟨rfl, rfl, rfl, by decide +kernel, rfl, by decide +kernel, by decide +kernel⟩ rfl (by decide +kernel)
theorem def_joined (X : K.In h) (G : h.Ns mainGlobals mg) (h1 : PySem.W.nsIn K mainGlobals "joined" = some (some (.ref a))) (h2 : K.lookup a = some ⟨oc, od, .func (PySem.W.fnOf "joined" "joined" (defArgs (top 2)) (defBody (top 2)) (defScope (top 2)) .none kV doc pm an cdv ct), osl⟩) (h3 : PySem.W.codeIn K cdv "joined" = true) (h4 : PySem.W.keepIn K (.ref a) = true) : DefOk K mg fns gls "joined" ir_joined :=
  DefOk.of (top 2) ["one", "other"] X G h1 h2 h3 h4 (fun us hl => match us, hl with | [_, _], _ => rfl) ⟨rfl, rfl, rfl, by decide +kernel, rfl, by decide +kernel, by decide +kernel⟩ rfl (by decide +kernel)
theorem def_whole (X : K.In h) (G : h.Ns mainGlobals mg) (h1 : PySem.W.nsIn K mainGlobals "whole" = some (some (.ref a))) (h2 : K.lookup a = some ⟨oc, od, .func (PySem.W.fnOf "whole" "whole" (defArgs (top 3)) (defBody (top 3)) (defScope (top 3)) .none kV doc pm an cdv ct), osl⟩) (h3 : PySem.W.codeIn K cdv "whole" = true) (h4 : PySem.W.keepIn K (.ref a) = true) : DefOk K mg fns gls "whole" ir_whole :=
  DefOk.of (top 3) ["row"] X G h1 h2 h3 h4 (fun us hl => match us, hl with | [_], _ => rfl) ⟨rfl, rfl, rfl, by decide +kernel, rfl, by decide +kernel, by decide +kernel⟩ rfl (by decide +kernel)
theorem def_turned_row (X : K.In h) (G : h.Ns mainGlobals mg) (h1 : PySem.W.nsIn K mainGlobals "turned_row" = some (some (.ref a))) (h2 : K.lookup a = some ⟨oc, od, .func (PySem.W.fnOf "turned_row" "turned_row" (defArgs (top 4)) (defBody (top 4)) (defScope (top 4)) .none kV doc pm an cdv ct), osl⟩) (h3 : PySem.W.codeIn K cdv "turned_row" = true) (h4 : PySem.W.keepIn K (.ref a) = true) : DefOk K mg fns gls "turned_row" ir_turned_row :=
  DefOk.of (top 4) ["row"] X G h1 h2 h3 h4 (fun us hl => match us, hl with | [_], _ => rfl) ⟨rfl, rfl, rfl, by decide +kernel, rfl, by decide +kernel, by decide +kernel⟩ rfl (by decide +kernel)
theorem def_up_end (X : K.In h) (G : h.Ns mainGlobals mg) (h1 : PySem.W.nsIn K mainGlobals "up_end" = some (some (.ref a))) (h2 : K.lookup a = some ⟨oc, od, .func (PySem.W.fnOf "up_end" "up_end" (defArgs (top 6)) (defBody (top 6)) (defScope (top 6)) .none kV doc pm an cdv ct), osl⟩) (h3 : PySem.W.codeIn K cdv "up_end" = true) (h4 : PySem.W.keepIn K (.ref a) = true) : DefOk K mg fns gls "up_end" ir_up_end :=
  DefOk.of (top 6) ["row", "first"] X G h1 h2 h3 h4 (fun us hl => match us, hl with | [_, _], _ => rfl) ⟨rfl, rfl, rfl, by decide +kernel, rfl, by decide +kernel, by decide +kernel⟩ rfl (by decide +kernel)
theorem def_ups_of (X : K.In h) (G : h.Ns mainGlobals mg) (h1 : PySem.W.nsIn K mainGlobals "ups_of" = some (some (.ref a))) (h2 : K.lookup a = some ⟨oc, od, .func (PySem.W.fnOf "ups_of" "ups_of" (defArgs (top 7)) (defBody (top 7)) (defScope (top 7)) .none kV doc pm an cdv ct), osl⟩) (h3 : PySem.W.codeIn K cdv "ups_of" = true) (h4 : PySem.W.keepIn K (.ref a) = true) : DefOk K mg fns gls "ups_of" ir_ups_of :=
  DefOk.of (top 7) ["row"] X G h1 h2 h3 h4 (fun us hl => match us, hl with | [_], _ => rfl) ⟨rfl, rfl, rfl, by decide +kernel, rfl, by decide +kernel, by decide +kernel⟩ rfl (by decide +kernel)
theorem def_last_return (X : K.In h) (G : h.Ns mainGlobals mg) (h1 : PySem.W.nsIn K mainGlobals "last_return" = some (some (.ref a))) (h2 : K.lookup a = some ⟨oc, od, .func (PySem.W.fnOf "last_return" "last_return" (defArgs (top 8)) (defBody (top 8)) (defScope (top 8)) .none kV doc pm an cdv ct), osl⟩) (h3 : PySem.W.codeIn K cdv "last_return" = true) (h4 : PySem.W.keepIn K (.ref a) = true) : DefOk K mg fns gls "last_return" ir_last_return :=
  DefOk.of (top 8) ["row", "first"] X G h1 h2 h3 h4 (fun us hl => match us, hl with | [_, _], _ => rfl) ⟨rfl, rfl, rfl, by decide +kernel, rfl, by decide +kernel, by decide +kernel⟩ rfl (by decide +kernel)
theorem def_cut (X : K.In h) (G : h.Ns mainGlobals mg) (h1 : PySem.W.nsIn K mainGlobals "cut" = some (some (.ref a))) (h2 : K.lookup a = some ⟨oc, od, .func (PySem.W.fnOf "cut" "cut" (defArgs (top 9)) (defBody (top 9)) (defScope (top 9)) .none kV doc pm an cdv ct), osl⟩) (h3 : PySem.W.codeIn K cdv "cut" = true) (h4 : PySem.W.keepIn K (.ref a) = true) : DefOk K mg fns gls "cut" ir_cut :=
  DefOk.of (top 9) ["row"] X G h1 h2 h3 h4 (fun us hl => match us, hl with | [_], _ => rfl) ⟨rfl, rfl, rfl, by decide +kernel, rfl, by decide +kernel, by decide +kernel⟩ rfl (by decide +kernel)
theorem def_greatest_end (X : K.In h) (G : h.Ns mainGlobals mg) (h1 : PySem.W.nsIn K mainGlobals "greatest_end" = some (some (.ref a))) (h2 : K.lookup a = some ⟨oc, od, .func (PySem.W.fnOf "greatest_end" "greatest_end" (defArgs (top 11)) (defBody (top 11)) (defScope (top 11)) .none kV doc pm an cdv ct), osl⟩) (h3 : PySem.W.codeIn K cdv "greatest_end" = true) (h4 : PySem.W.keepIn K (.ref a) = true) : DefOk K mg fns gls "greatest_end" ir_greatest_end :=
  DefOk.of (top 11) ["up", "down"] X G h1 h2 h3 h4 (fun us hl => match us, hl with | [_, _], _ => rfl) ⟨rfl, rfl, rfl, by decide +kernel, rfl, by decide +kernel, by decide +kernel⟩ rfl (by decide +kernel)
theorem def_form_of (X : K.In h) (G : h.Ns mainGlobals mg) (h1 : PySem.W.nsIn K mainGlobals "form_of" = some (some (.ref a))) (h2 : K.lookup a = some ⟨oc, od, .func (PySem.W.fnOf "form_of" "form_of" (defArgs (top 12)) (defBody (top 12)) (defScope (top 12)) .none kV doc pm an cdv ct), osl⟩) (h3 : PySem.W.codeIn K cdv "form_of" = true) (h4 : PySem.W.keepIn K (.ref a) = true) : DefOk K mg fns gls "form_of" ir_form_of :=
  DefOk.of (top 12) ["row"] X G h1 h2 h3 h4 (fun us hl => match us, hl with | [_], _ => rfl) ⟨rfl, rfl, rfl, by decide +kernel, rfl, by decide +kernel, by decide +kernel⟩ rfl (by decide +kernel)
theorem def_deck (X : K.In h) (G : h.Ns mainGlobals mg) (h1 : PySem.W.nsIn K mainGlobals "_law_deck" = some (some (.ref a))) (h2 : K.lookup a = some ⟨oc, od, .func (PySem.W.fnOf "_law_deck" "_law_deck" (defArgs (top 14)) (defBody (top 14)) (defScope (top 14)) .none kV doc pm an cdv ct), osl⟩) (h3 : PySem.W.codeIn K cdv "_law_deck" = true) (h4 : PySem.W.keepIn K (.ref a) = true) : DefOk K mg fns gls "_law_deck" ir_deck :=
  DefOk.of (top 14) ["_law_script"] X G h1 h2 h3 h4 (fun us hl => match us, hl with | [_], _ => rfl) ⟨rfl, rfl, rfl, by decide +kernel, rfl, by decide +kernel, by decide +kernel⟩ rfl (by decide +kernel)
theorem def_next (X : K.In h) (G : h.Ns mainGlobals mg) (h1 : PySem.W.nsIn K mainGlobals "_law_next" = some (some (.ref a))) (h2 : K.lookup a = some ⟨oc, od, .func (PySem.W.fnOf "_law_next" "_law_next" (defArgs (top 15)) (defBody (top 15)) (defScope (top 15)) .none kV doc pm an cdv ct), osl⟩) (h3 : PySem.W.codeIn K cdv "_law_next" = true) (h4 : PySem.W.keepIn K (.ref a) = true) : DefOk K mg fns gls "_law_next" ir_next :=
  DefOk.of (top 15) ["_law_deck_here", "_law_many"] X G h1 h2 h3 h4 (fun us hl => match us, hl with | [_, _], _ => rfl) ⟨rfl, rfl, rfl, by decide +kernel, rfl, by decide +kernel, by decide +kernel⟩ rfl (by decide +kernel)
theorem def_turned (X : K.In h) (G : h.Ns mainGlobals mg) (h1 : PySem.W.nsIn K mainGlobals "_law_turned" = some (some (.ref a))) (h2 : K.lookup a = some ⟨oc, od, .func (PySem.W.fnOf "_law_turned" "_law_turned" (defArgs (top 16)) (defBody (top 16)) (defScope (top 16)) .none kV doc pm an cdv ct), osl⟩) (h3 : PySem.W.codeIn K cdv "_law_turned" = true) (h4 : PySem.W.keepIn K (.ref a) = true) : DefOk K mg fns gls "_law_turned" ir_turned :=
  DefOk.of (top 16) ["_law_row_here"] X G h1 h2 h3 h4 (fun us hl => match us, hl with | [_], _ => rfl) ⟨rfl, rfl, rfl, by decide +kernel, rfl, by decide +kernel, by decide +kernel⟩ rfl (by decide +kernel)
theorem def_number (X : K.In h) (G : h.Ns mainGlobals mg) (h1 : PySem.W.nsIn K mainGlobals "_law_number" = some (some (.ref a))) (h2 : K.lookup a = some ⟨oc, od, .func (PySem.W.fnOf "_law_number" "_law_number" (defArgs (top 17)) (defBody (top 17)) (defScope (top 17)) .none kV doc pm an cdv ct), osl⟩) (h3 : PySem.W.codeIn K cdv "_law_number" = true) (h4 : PySem.W.keepIn K (.ref a) = true) : DefOk K mg fns gls "_law_number" ir_number :=
  DefOk.of (top 17) ["_law_deck_here"] X G h1 h2 h3 h4 (fun us hl => match us, hl with | [_], _ => rfl) ⟨rfl, rfl, rfl, by decide +kernel, rfl, by decide +kernel, by decide +kernel⟩ rfl (by decide +kernel)
theorem def_path (X : K.In h) (G : h.Ns mainGlobals mg) (h1 : PySem.W.nsIn K mainGlobals "_law_path" = some (some (.ref a))) (h2 : K.lookup a = some ⟨oc, od, .func (PySem.W.fnOf "_law_path" "_law_path" (defArgs (top 18)) (defBody (top 18)) (defScope (top 18)) .none kV doc pm an cdv ct), osl⟩) (h3 : PySem.W.codeIn K cdv "_law_path" = true) (h4 : PySem.W.keepIn K (.ref a) = true) : DefOk K mg fns gls "_law_path" ir_path :=
  DefOk.of (top 18) ["_law_deck_here", "_law_most"] X G h1 h2 h3 h4 (fun us hl => match us, hl with | [_, _], _ => rfl) ⟨rfl, rfl, rfl, by decide +kernel, rfl, by decide +kernel, by decide +kernel⟩ rfl (by decide +kernel)
theorem def_row (X : K.In h) (G : h.Ns mainGlobals mg) (h1 : PySem.W.nsIn K mainGlobals "_law_row" = some (some (.ref a))) (h2 : K.lookup a = some ⟨oc, od, .func (PySem.W.fnOf "_law_row" "_law_row" (defArgs (top 19)) (defBody (top 19)) (defScope (top 19)) .none kV doc pm an cdv ct), osl⟩) (h3 : PySem.W.codeIn K cdv "_law_row" = true) (h4 : PySem.W.keepIn K (.ref a) = true) : DefOk K mg fns gls "_law_row" ir_row :=
  DefOk.of (top 19) ["_law_deck_here", "_law_most"] X G h1 h2 h3 h4 (fun us hl => match us, hl with | [_, _], _ => rfl) ⟨rfl, rfl, rfl, by decide +kernel, rfl, by decide +kernel, by decide +kernel⟩ rfl (by decide +kernel)
theorem def_brought (X : K.In h) (G : h.Ns mainGlobals mg) (h1 : PySem.W.nsIn K mainGlobals "_law_brought" = some (some (.ref a))) (h2 : K.lookup a = some ⟨oc, od, .func (PySem.W.fnOf "_law_brought" "_law_brought" (defArgs (top 20)) (defBody (top 20)) (defScope (top 20)) .none kV doc pm an cdv ct), osl⟩) (h3 : PySem.W.codeIn K cdv "_law_brought" = true) (h4 : PySem.W.keepIn K (.ref a) = true) : DefOk K mg fns gls "_law_brought" ir_brought :=
  DefOk.of (top 20) ["_law_row_here", "_law_purse"] X G h1 h2 h3 h4 (fun us hl => match us, hl with | [_, _], _ => rfl) ⟨rfl, rfl, rfl, by decide +kernel, rfl, by decide +kernel, by decide +kernel⟩ rfl (by decide +kernel)
theorem def_purses (X : K.In h) (G : h.Ns mainGlobals mg) (h1 : PySem.W.nsIn K mainGlobals "_law_purses" = some (some (.ref a))) (h2 : K.lookup a = some ⟨oc, od, .func (PySem.W.fnOf "_law_purses" "_law_purses" (defArgs (top 21)) (defBody (top 21)) (defScope (top 21)) .none kV doc pm an cdv ct), osl⟩) (h3 : PySem.W.codeIn K cdv "_law_purses" = true) (h4 : PySem.W.keepIn K (.ref a) = true) : DefOk K mg fns gls "_law_purses" ir_purses :=
  DefOk.of (top 21) ["_law_row_here"] X G h1 h2 h3 h4 (fun us hl => match us, hl with | [_], _ => rfl) ⟨rfl, rfl, rfl, by decide +kernel, rfl, by decide +kernel, by decide +kernel⟩ rfl (by decide +kernel)
theorem def_same_up (X : K.In h) (G : h.Ns mainGlobals mg) (h1 : PySem.W.nsIn K mainGlobals "_law_same_up" = some (some (.ref a))) (h2 : K.lookup a = some ⟨oc, od, .func (PySem.W.fnOf "_law_same_up" "_law_same_up" (defArgs (top 22)) (defBody (top 22)) (defScope (top 22)) .none kV doc pm an cdv ct), osl⟩) (h3 : PySem.W.codeIn K cdv "_law_same_up" = true) (h4 : PySem.W.keepIn K (.ref a) = true) : DefOk K mg fns gls "_law_same_up" ir_same_up :=
  DefOk.of (top 22) ["_law_row_here", "_law_up"] X G h1 h2 h3 h4 (fun us hl => match us, hl with | [_, _], _ => rfl) ⟨rfl, rfl, rfl, by decide +kernel, rfl, by decide +kernel, by decide +kernel⟩ rfl (by decide +kernel)
theorem def_is_borne (X : K.In h) (G : h.Ns mainGlobals mg) (h1 : PySem.W.nsIn K mainGlobals "_law_is_borne" = some (some (.ref a))) (h2 : K.lookup a = some ⟨oc, od, .func (PySem.W.fnOf "_law_is_borne" "_law_is_borne" (defArgs (top 23)) (defBody (top 23)) (defScope (top 23)) .none kV doc pm an cdv ct), osl⟩) (h3 : PySem.W.codeIn K cdv "_law_is_borne" = true) (h4 : PySem.W.keepIn K (.ref a) = true) : DefOk K mg fns gls "_law_is_borne" ir_is_borne :=
  DefOk.of (top 23) ["_law_row_here", "_law_purse"] X G h1 h2 h3 h4 (fun us hl => match us, hl with | [_, _], _ => rfl) ⟨rfl, rfl, rfl, by decide +kernel, rfl, by decide +kernel, by decide +kernel⟩ rfl (by decide +kernel)
theorem def_law (X : K.In h) (G : h.Ns mainGlobals mg) (h1 : PySem.W.nsIn K mainGlobals "law" = some (some (.ref a))) (h2 : K.lookup a = some ⟨oc, od, .func (PySem.W.fnOf "law" "law" (defArgs (top 24)) (defBody (top 24)) (defScope (top 24)) .none kV doc pm an cdv ct), osl⟩) (h3 : PySem.W.codeIn K cdv "law" = true) (h4 : PySem.W.keepIn K (.ref a) = true) : DefOk K mg fns gls "law" ir_law :=
  DefOk.of (top 24) ["_law_script"] X G h1 h2 h3 h4 (fun us hl => match us, hl with | [_], _ => rfl) ⟨rfl, rfl, rfl, by decide +kernel, rfl, by decide +kernel, by decide +kernel⟩ rfl (by decide +kernel)
end
theorem all_mk {P : Program} {w : World} {K : PySem.W.Frag} {mg : Str → Option Value} {h : Heap} (X : K.In h) (G : h.Ns mainGlobals mg)
  {a0 : Addr} {kV0 doc0 pm0 cd0 ct0 oc0 : Value} {an0 od0 : Option Addr} {sl0 : Array (Option Value)} (x0 : PySem.W.nsIn K mainGlobals "gain" = some (some (.ref a0))) (l0 : K.lookup a0 = some ⟨oc0, od0, .func (PySem.W.fnOf "gain" "gain" (defArgs (top 1)) (defBody (top 1)) (defScope (top 1)) .none kV0 doc0 pm0 an0 cd0 ct0), sl0⟩) (c0 : PySem.W.codeIn K cd0 "gain" = true) (k0 : PySem.W.keepIn K (.ref a0) = true)
  {a1 : Addr} {kV1 doc1 pm1 cd1 ct1 oc1 : Value} {an1 od1 : Option Addr} {sl1 : Array (Option Value)} (x1 : PySem.W.nsIn K mainGlobals "joined" = some (some (.ref a1))) (l1 : K.lookup a1 = some ⟨oc1, od1, .func (PySem.W.fnOf "joined" "joined" (defArgs (top 2)) (defBody (top 2)) (defScope (top 2)) .none kV1 doc1 pm1 an1 cd1 ct1), sl1⟩) (c1 : PySem.W.codeIn K cd1 "joined" = true) (k1 : PySem.W.keepIn K (.ref a1) = true)
  {a2 : Addr} {kV2 doc2 pm2 cd2 ct2 oc2 : Value} {an2 od2 : Option Addr} {sl2 : Array (Option Value)} (x2 : PySem.W.nsIn K mainGlobals "whole" = some (some (.ref a2))) (l2 : K.lookup a2 = some ⟨oc2, od2, .func (PySem.W.fnOf "whole" "whole" (defArgs (top 3)) (defBody (top 3)) (defScope (top 3)) .none kV2 doc2 pm2 an2 cd2 ct2), sl2⟩) (c2 : PySem.W.codeIn K cd2 "whole" = true) (k2 : PySem.W.keepIn K (.ref a2) = true)
  {a3 : Addr} {kV3 doc3 pm3 cd3 ct3 oc3 : Value} {an3 od3 : Option Addr} {sl3 : Array (Option Value)} (x3 : PySem.W.nsIn K mainGlobals "turned_row" = some (some (.ref a3))) (l3 : K.lookup a3 = some ⟨oc3, od3, .func (PySem.W.fnOf "turned_row" "turned_row" (defArgs (top 4)) (defBody (top 4)) (defScope (top 4)) .none kV3 doc3 pm3 an3 cd3 ct3), sl3⟩) (c3 : PySem.W.codeIn K cd3 "turned_row" = true) (k3 : PySem.W.keepIn K (.ref a3) = true)
  {a4 : Addr} {kV4 doc4 pm4 cd4 ct4 oc4 : Value} {an4 od4 : Option Addr} {sl4 : Array (Option Value)} (x4 : PySem.W.nsIn K mainGlobals "up_end" = some (some (.ref a4))) (l4 : K.lookup a4 = some ⟨oc4, od4, .func (PySem.W.fnOf "up_end" "up_end" (defArgs (top 6)) (defBody (top 6)) (defScope (top 6)) .none kV4 doc4 pm4 an4 cd4 ct4), sl4⟩) (c4 : PySem.W.codeIn K cd4 "up_end" = true) (k4 : PySem.W.keepIn K (.ref a4) = true)
  {a5 : Addr} {kV5 doc5 pm5 cd5 ct5 oc5 : Value} {an5 od5 : Option Addr} {sl5 : Array (Option Value)} (x5 : PySem.W.nsIn K mainGlobals "ups_of" = some (some (.ref a5))) (l5 : K.lookup a5 = some ⟨oc5, od5, .func (PySem.W.fnOf "ups_of" "ups_of" (defArgs (top 7)) (defBody (top 7)) (defScope (top 7)) .none kV5 doc5 pm5 an5 cd5 ct5), sl5⟩) (c5 : PySem.W.codeIn K cd5 "ups_of" = true) (k5 : PySem.W.keepIn K (.ref a5) = true)
  {a6 : Addr} {kV6 doc6 pm6 cd6 ct6 oc6 : Value} {an6 od6 : Option Addr} {sl6 : Array (Option Value)} (x6 : PySem.W.nsIn K mainGlobals "last_return" = some (some (.ref a6))) (l6 : K.lookup a6 = some ⟨oc6, od6, .func (PySem.W.fnOf "last_return" "last_return" (defArgs (top 8)) (defBody (top 8)) (defScope (top 8)) .none kV6 doc6 pm6 an6 cd6 ct6), sl6⟩) (c6 : PySem.W.codeIn K cd6 "last_return" = true) (k6 : PySem.W.keepIn K (.ref a6) = true)
  {a7 : Addr} {kV7 doc7 pm7 cd7 ct7 oc7 : Value} {an7 od7 : Option Addr} {sl7 : Array (Option Value)} (x7 : PySem.W.nsIn K mainGlobals "cut" = some (some (.ref a7))) (l7 : K.lookup a7 = some ⟨oc7, od7, .func (PySem.W.fnOf "cut" "cut" (defArgs (top 9)) (defBody (top 9)) (defScope (top 9)) .none kV7 doc7 pm7 an7 cd7 ct7), sl7⟩) (c7 : PySem.W.codeIn K cd7 "cut" = true) (k7 : PySem.W.keepIn K (.ref a7) = true)
  {a8 : Addr} {kV8 doc8 pm8 cd8 ct8 oc8 : Value} {an8 od8 : Option Addr} {sl8 : Array (Option Value)} (x8 : PySem.W.nsIn K mainGlobals "greatest_end" = some (some (.ref a8))) (l8 : K.lookup a8 = some ⟨oc8, od8, .func (PySem.W.fnOf "greatest_end" "greatest_end" (defArgs (top 11)) (defBody (top 11)) (defScope (top 11)) .none kV8 doc8 pm8 an8 cd8 ct8), sl8⟩) (c8 : PySem.W.codeIn K cd8 "greatest_end" = true) (k8 : PySem.W.keepIn K (.ref a8) = true)
  {a9 : Addr} {kV9 doc9 pm9 cd9 ct9 oc9 : Value} {an9 od9 : Option Addr} {sl9 : Array (Option Value)} (x9 : PySem.W.nsIn K mainGlobals "form_of" = some (some (.ref a9))) (l9 : K.lookup a9 = some ⟨oc9, od9, .func (PySem.W.fnOf "form_of" "form_of" (defArgs (top 12)) (defBody (top 12)) (defScope (top 12)) .none kV9 doc9 pm9 an9 cd9 ct9), sl9⟩) (c9 : PySem.W.codeIn K cd9 "form_of" = true) (k9 : PySem.W.keepIn K (.ref a9) = true)
  {a10 : Addr} {kV10 doc10 pm10 cd10 ct10 oc10 : Value} {an10 od10 : Option Addr} {sl10 : Array (Option Value)} (x10 : PySem.W.nsIn K mainGlobals "_law_deck" = some (some (.ref a10))) (l10 : K.lookup a10 = some ⟨oc10, od10, .func (PySem.W.fnOf "_law_deck" "_law_deck" (defArgs (top 14)) (defBody (top 14)) (defScope (top 14)) .none kV10 doc10 pm10 an10 cd10 ct10), sl10⟩) (c10 : PySem.W.codeIn K cd10 "_law_deck" = true) (k10 : PySem.W.keepIn K (.ref a10) = true)
  {a11 : Addr} {kV11 doc11 pm11 cd11 ct11 oc11 : Value} {an11 od11 : Option Addr} {sl11 : Array (Option Value)} (x11 : PySem.W.nsIn K mainGlobals "_law_next" = some (some (.ref a11))) (l11 : K.lookup a11 = some ⟨oc11, od11, .func (PySem.W.fnOf "_law_next" "_law_next" (defArgs (top 15)) (defBody (top 15)) (defScope (top 15)) .none kV11 doc11 pm11 an11 cd11 ct11), sl11⟩) (c11 : PySem.W.codeIn K cd11 "_law_next" = true) (k11 : PySem.W.keepIn K (.ref a11) = true)
  {a12 : Addr} {kV12 doc12 pm12 cd12 ct12 oc12 : Value} {an12 od12 : Option Addr} {sl12 : Array (Option Value)} (x12 : PySem.W.nsIn K mainGlobals "_law_turned" = some (some (.ref a12))) (l12 : K.lookup a12 = some ⟨oc12, od12, .func (PySem.W.fnOf "_law_turned" "_law_turned" (defArgs (top 16)) (defBody (top 16)) (defScope (top 16)) .none kV12 doc12 pm12 an12 cd12 ct12), sl12⟩) (c12 : PySem.W.codeIn K cd12 "_law_turned" = true) (k12 : PySem.W.keepIn K (.ref a12) = true)
  {a13 : Addr} {kV13 doc13 pm13 cd13 ct13 oc13 : Value} {an13 od13 : Option Addr} {sl13 : Array (Option Value)} (x13 : PySem.W.nsIn K mainGlobals "_law_number" = some (some (.ref a13))) (l13 : K.lookup a13 = some ⟨oc13, od13, .func (PySem.W.fnOf "_law_number" "_law_number" (defArgs (top 17)) (defBody (top 17)) (defScope (top 17)) .none kV13 doc13 pm13 an13 cd13 ct13), sl13⟩) (c13 : PySem.W.codeIn K cd13 "_law_number" = true) (k13 : PySem.W.keepIn K (.ref a13) = true)
  {a14 : Addr} {kV14 doc14 pm14 cd14 ct14 oc14 : Value} {an14 od14 : Option Addr} {sl14 : Array (Option Value)} (x14 : PySem.W.nsIn K mainGlobals "_law_path" = some (some (.ref a14))) (l14 : K.lookup a14 = some ⟨oc14, od14, .func (PySem.W.fnOf "_law_path" "_law_path" (defArgs (top 18)) (defBody (top 18)) (defScope (top 18)) .none kV14 doc14 pm14 an14 cd14 ct14), sl14⟩) (c14 : PySem.W.codeIn K cd14 "_law_path" = true) (k14 : PySem.W.keepIn K (.ref a14) = true)
  {a15 : Addr} {kV15 doc15 pm15 cd15 ct15 oc15 : Value} {an15 od15 : Option Addr} {sl15 : Array (Option Value)} (x15 : PySem.W.nsIn K mainGlobals "_law_row" = some (some (.ref a15))) (l15 : K.lookup a15 = some ⟨oc15, od15, .func (PySem.W.fnOf "_law_row" "_law_row" (defArgs (top 19)) (defBody (top 19)) (defScope (top 19)) .none kV15 doc15 pm15 an15 cd15 ct15), sl15⟩) (c15 : PySem.W.codeIn K cd15 "_law_row" = true) (k15 : PySem.W.keepIn K (.ref a15) = true)
  {a16 : Addr} {kV16 doc16 pm16 cd16 ct16 oc16 : Value} {an16 od16 : Option Addr} {sl16 : Array (Option Value)} (x16 : PySem.W.nsIn K mainGlobals "_law_brought" = some (some (.ref a16))) (l16 : K.lookup a16 = some ⟨oc16, od16, .func (PySem.W.fnOf "_law_brought" "_law_brought" (defArgs (top 20)) (defBody (top 20)) (defScope (top 20)) .none kV16 doc16 pm16 an16 cd16 ct16), sl16⟩) (c16 : PySem.W.codeIn K cd16 "_law_brought" = true) (k16 : PySem.W.keepIn K (.ref a16) = true)
  {a17 : Addr} {kV17 doc17 pm17 cd17 ct17 oc17 : Value} {an17 od17 : Option Addr} {sl17 : Array (Option Value)} (x17 : PySem.W.nsIn K mainGlobals "_law_purses" = some (some (.ref a17))) (l17 : K.lookup a17 = some ⟨oc17, od17, .func (PySem.W.fnOf "_law_purses" "_law_purses" (defArgs (top 21)) (defBody (top 21)) (defScope (top 21)) .none kV17 doc17 pm17 an17 cd17 ct17), sl17⟩) (c17 : PySem.W.codeIn K cd17 "_law_purses" = true) (k17 : PySem.W.keepIn K (.ref a17) = true)
  {a18 : Addr} {kV18 doc18 pm18 cd18 ct18 oc18 : Value} {an18 od18 : Option Addr} {sl18 : Array (Option Value)} (x18 : PySem.W.nsIn K mainGlobals "_law_same_up" = some (some (.ref a18))) (l18 : K.lookup a18 = some ⟨oc18, od18, .func (PySem.W.fnOf "_law_same_up" "_law_same_up" (defArgs (top 22)) (defBody (top 22)) (defScope (top 22)) .none kV18 doc18 pm18 an18 cd18 ct18), sl18⟩) (c18 : PySem.W.codeIn K cd18 "_law_same_up" = true) (k18 : PySem.W.keepIn K (.ref a18) = true)
  {a19 : Addr} {kV19 doc19 pm19 cd19 ct19 oc19 : Value} {an19 od19 : Option Addr} {sl19 : Array (Option Value)} (x19 : PySem.W.nsIn K mainGlobals "_law_is_borne" = some (some (.ref a19))) (l19 : K.lookup a19 = some ⟨oc19, od19, .func (PySem.W.fnOf "_law_is_borne" "_law_is_borne" (defArgs (top 23)) (defBody (top 23)) (defScope (top 23)) .none kV19 doc19 pm19 an19 cd19 ct19), sl19⟩) (c19 : PySem.W.codeIn K cd19 "_law_is_borne" = true) (k19 : PySem.W.keepIn K (.ref a19) = true)
  {a20 : Addr} {kV20 doc20 pm20 cd20 ct20 oc20 : Value} {an20 od20 : Option Addr} {sl20 : Array (Option Value)} (x20 : PySem.W.nsIn K mainGlobals "law" = some (some (.ref a20))) (l20 : K.lookup a20 = some ⟨oc20, od20, .func (PySem.W.fnOf "law" "law" (defArgs (top 24)) (defBody (top 24)) (defScope (top 24)) .none kV20 doc20 pm20 an20 cd20 ct20), sl20⟩) (c20 : PySem.W.codeIn K cd20 "law" = true) (k20 : PySem.W.keepIn K (.ref a20) = true)
  (z0 : PySem.W.nsIn K mainGlobals "len" = some none)
  (z1 : PySem.W.nsIn K mainGlobals "abs" = some none)
  (z2 : PySem.W.nsIn K mainGlobals "max" = some none)
  (z3 : PySem.W.nsIn K mainGlobals "min" = some none)
  (z4 : PySem.W.nsIn K mainGlobals "sum" = some none)
  (z5 : PySem.W.nsIn K mainGlobals "all" = some none)
  (z6 : PySem.W.nsIn K mainGlobals "any" = some none)
  (z7 : PySem.W.nsIn K mainGlobals "tuple" = some none)
  (z8 : PySem.W.nsIn K mainGlobals "list" = some none)
  (z9 : PySem.W.nsIn K mainGlobals "repr" = some none)
  (z10 : PySem.W.nsIn K mainGlobals "isinstance" = some none)
  (z11 : PySem.W.nsIn K mainGlobals "range" = some none)
  (z12 : PySem.W.nsIn K mainGlobals "enumerate" = some none)
  (z13 : PySem.W.nsIn K mainGlobals "zip" = some none)
  (z14 : PySem.W.nsIn K mainGlobals "int" = some none)
  (z15 : PySem.W.nsIn K mainGlobals "bool" = some none)
  (z16 : PySem.W.nsIn K mainGlobals "str" = some none)
  (z17 : PySem.W.nsIn K mainGlobals "dict" = some none)
  (z18 : PySem.W.nsIn K mainGlobals "sorted" = some none)
  (z19 : PySem.W.nsIn K mainGlobals "set" = some none)
  (z20 : PySem.W.nsIn K mainGlobals "reversed" = some none)
   :
  ∀ base : Heap, FnAt P w K mg base DEEP "law" (callN tab GD FUEL DEEP "law") := fun base => by
  refine tower (fns := fns) (gls := gls) (fun f hf => ?_) (fun b hb => ?_) (fun x hx => ?_) DEEP "law" (by decide)
  · unfold fns at hf
    simp only [List.mem_cons, List.not_mem_nil, or_false] at hf
    rcases hf with rfl | rfl | rfl | rfl | rfl | rfl | rfl | rfl | rfl | rfl | rfl | rfl | rfl | rfl | rfl | rfl | rfl | rfl | rfl | rfl | rfl
    · exact ⟨_, rfl, def_gain X G x0 l0 c0 k0⟩
    · exact ⟨_, rfl, def_joined X G x1 l1 c1 k1⟩
    · exact ⟨_, rfl, def_whole X G x2 l2 c2 k2⟩
    · exact ⟨_, rfl, def_turned_row X G x3 l3 c3 k3⟩
    · exact ⟨_, rfl, def_up_end X G x4 l4 c4 k4⟩
    · exact ⟨_, rfl, def_ups_of X G x5 l5 c5 k5⟩
    · exact ⟨_, rfl, def_last_return X G x6 l6 c6 k6⟩
    · exact ⟨_, rfl, def_cut X G x7 l7 c7 k7⟩
    · exact ⟨_, rfl, def_greatest_end X G x8 l8 c8 k8⟩
    · exact ⟨_, rfl, def_form_of X G x9 l9 c9 k9⟩
    · exact ⟨_, rfl, def_deck X G x10 l10 c10 k10⟩
    · exact ⟨_, rfl, def_next X G x11 l11 c11 k11⟩
    · exact ⟨_, rfl, def_turned X G x12 l12 c12 k12⟩
    · exact ⟨_, rfl, def_number X G x13 l13 c13 k13⟩
    · exact ⟨_, rfl, def_path X G x14 l14 c14 k14⟩
    · exact ⟨_, rfl, def_row X G x15 l15 c15 k15⟩
    · exact ⟨_, rfl, def_brought X G x16 l16 c16 k16⟩
    · exact ⟨_, rfl, def_purses X G x17 l17 c17 k17⟩
    · exact ⟨_, rfl, def_same_up X G x18 l18 c18 k18⟩
    · exact ⟨_, rfl, def_is_borne X G x19 l19 c19 k19⟩
    · exact ⟨_, rfl, def_law X G x20 l20 c20 k20⟩
  · unfold blts at hb
    simp only [List.mem_cons, List.not_mem_nil, or_false] at hb
    rcases hb with rfl | rfl | rfl | rfl | rfl | rfl | rfl | rfl | rfl | rfl | rfl | rfl | rfl | rfl | rfl | rfl | rfl | rfl | rfl | rfl | rfl
    · exact PySem.W.mg_none_of X G z0
    · exact PySem.W.mg_none_of X G z1
    · exact PySem.W.mg_none_of X G z2
    · exact PySem.W.mg_none_of X G z3
    · exact PySem.W.mg_none_of X G z4
    · exact PySem.W.mg_none_of X G z5
    · exact PySem.W.mg_none_of X G z6
    · exact PySem.W.mg_none_of X G z7
    · exact PySem.W.mg_none_of X G z8
    · exact PySem.W.mg_none_of X G z9
    · exact PySem.W.mg_none_of X G z10
    · exact PySem.W.mg_none_of X G z11
    · exact PySem.W.mg_none_of X G z12
    · exact PySem.W.mg_none_of X G z13
    · exact PySem.W.mg_none_of X G z14
    · exact PySem.W.mg_none_of X G z15
    · exact PySem.W.mg_none_of X G z16
    · exact PySem.W.mg_none_of X G z17
    · exact PySem.W.mg_none_of X G z18
    · exact PySem.W.mg_none_of X G z19
    · exact PySem.W.mg_none_of X G z20
  · unfold gls at hx
    simp only [List.mem_cons, List.not_mem_nil, or_false] at hx
end Px

set_option Elab.async false
set_option linter.all false
set_option maxRecDepth 100000
set_option maxHeartbeats 1000000
namespace Px
open PySem L2
abbrev Tn : String → Option Fn := tab
abbrev G0 : String → Option D := fun _ => none
theorem cT : CutT Tn := ⟨rfl, rfl, rfl, rfl, rfl, rfl, rfl, rfl, rfl, rfl⟩
open L (pD)
theorem fuel_big : 70 < FUEL := by unfold FUEL; decide
/-! ### what a row brings -/
theorem brought_loop (F : Cf) (S : Sto) (row : D) : ∀ (ps : Row) (p f : Int) (u v : Slot), p ≤ f → ∃ sl', (loopL (.tup (.cons (.nm 3) (.cons (.nm 4) .nil))) (exB F b_brought_0) (ps.map pD) [.val row, .val (.int p), .val (.int f), u, v] S = .ok (.rt (.val (.int (max f (rch ps p)))), sl') S) ∨
    ∃ p' u' v', loopL (.tup (.cons (.nm 3) (.cons (.nm 4) .nil))) (exB F b_brought_0) (ps.map pD) [.val row, .val (.int p), .val (.int f), u, v] S = .ok (.nx, [.val row, .val (.int p'), .val (.int (max f (rch ps p))), u', v']) S
  | [], p, f, u, v, h => by
    refine ⟨[], .inr ⟨p, u, v, ?_⟩⟩
    have : max f (rch [] p) = f := by show max f p = f; omega
    rw [this]
    rfl
  | q :: ps, p, f, u, v, h => by
    rw [List.map_cons]
    have eb : bindT (.tup (.cons (.nm 3) (.cons (.nm 4) .nil))) (pD q) [.val row, .val (.int p), .val (.int f), u, v] = some [.val row, .val (.int p), .val (.int f), .val (.int q.1), .val (.int q.2)] := rfl
    unfold loopL
    rw [eb, rch_cons]
    by_cases c : p < q.1
    · rw [if_pos c]
      refine ⟨[.val row, .val (.int p), .val (.int f), .val (.int q.1), .val (.int q.2)], .inl ?_⟩
      have : max f p = f := by omega
      rw [this]
      unfold b_brought_0
      simp -implicitDefEqProofs [c]
    · rw [if_neg c]
      have hg : gn q = q.2 - q.1 := rfl
      have e1 : exB F b_brought_0 [.val row, .val (.int p), .val (.int f), .val (.int q.1), .val (.int q.2)] S = .ok (.nx, [.val row, .val (.int (p + gn q)), .val (.int (if p + gn q > f then p + gn q else f)), .val (.int q.1), .val (.int q.2)]) S := by
        have z : p + q.2 - q.1 = p + gn q := by omega
        unfold b_brought_0
        simp -implicitDefEqProofs [c, z]
      have hm : (if p + gn q > f then p + gn q else f) = max f (p + gn q) := by split <;> omega
      rw [hm] at e1
      obtain ⟨sl', h2⟩ := brought_loop F S row ps (p + gn q) (max f (p + gn q)) (.val (.int q.1)) (.val (.int q.2)) (by omega)
      have g := rch_ge ps (p + gn q)
      have hk : max (max f (p + gn q)) (rch ps (p + gn q)) = max f (max p (rch ps (p + gn q))) := by omega
      rw [hk] at h2
      show ∃ sl', ((exB F b_brought_0 _ S).bind _ = _) ∨ ∃ p' u' v', (exB F b_brought_0 _ S).bind _ = _
      rw [e1]
      exact ⟨sl', h2⟩
theorem brought_eq (ps : Row) (p : Int) (n : Nat) (S : Sto) : callN Tn G0 FUEL (n + 1) "_law_brought" [.tup (ps.map pD), .int p] S = .ok (.val (.int (rch ps p))) S := by
  rw [call_eq (show Tn "_law_brought" = some ir_brought from rfl) rfl]
  obtain ⟨sl', h⟩ := brought_loop ⟨callN Tn G0 FUEL n, G0, FUEL⟩ S (.tup (ps.map pD)) ps p p .emp .emp (Int.le_refl _)
  have g := rch_ge ps p
  have e : max p (rch ps p) = rch ps p := by omega
  rw [e] at h
  generalize ps.map pD = w at *
  generalize rch ps p = v at *
  unfold ir_brought
  rcases h with h | ⟨p', u', v', h⟩
  · simp -implicitDefEqProofs [h]
  · simp -implicitDefEqProofs [h]
/-! ### purses that matter -/
theorem insI_len (k : Int) : ∀ l : List Int, (insI k l).length ≤ l.length + 1
  | [] => Nat.le_refl _
  | x :: l => by
    have := insI_len k l
    unfold insI
    split
    · simp
    · split
      · simp
      · simp only [List.length_cons]; omega
theorem ssetI_len : ∀ l : List Int, (ssetI l).length ≤ l.length
  | [] => Nat.le_refl _
  | x :: l => by
    have a := insI_len x (ssetI l)
    have b := ssetI_len l
    show (insI x (ssetI l)).length ≤ l.length + 1
    omega
theorem ssetI_rise : ∀ {l : List Int}, l.Pairwise (· < ·) → ssetI l = l
  | [], _ => rfl
  | x :: l, h => by
    obtain ⟨h1, h2⟩ := List.pairwise_cons.mp h
    show insI x (ssetI l) = x :: l
    rw [ssetI_rise h2]
    cases l with
    | nil => rfl
    | cons y l =>
      unfold insI
      rw [if_pos (h1 y List.mem_cons_self)]
theorem purses_eq (ps : Row) (hl : ps.length ≤ 16) (n : Nat) (S : Sto) : ∃ ns : List Int, callN Tn G0 FUEL (n + 1) "_law_purses" [.tup (ps.map pD)] S = .ok (.fresh (.lst (ns.map D.int))) S ∧ (∀ x ∈ ns, 0 ≤ x) ∧ ns.length ≤ 64 := by
  rw [call_eq (show Tn "_law_purses" = some ir_purses from rfl) rfl]
  obtain ⟨sl', S', e, rfl, ms, at', x3, x4, rfl, hm⟩ := loop_inv0 (t := .tup (.cons (.nm 3) (.cons (.nm 4) .nil))) (b := exB ⟨callN Tn G0 FUEL n, G0, FUEL⟩ b_purses_0) (items := ps.map pD) (sl := [.val (.tup (ps.map pD)), .own (.lst (rngD 0 8)), .val (.int 0), .emp, .emp, .emp]) (S := S)
    (fun i sl S' => S' = S ∧ ∃ (ms : List Int) (at' : Int) (x3 x4 : Slot), sl = [.val (.tup (ps.map pD)), .own (.lst (ms.map D.int)), .val (.int at'), x3, x4, .emp] ∧ ms.length = 8 + 3 * i) ⟨rfl, (List.range 8).map fun (i : Nat) => (0 + (i : Int)), 0, .emp, .emp, by unfold rngD; rw [List.map_map]; rfl, rfl⟩ (by
      rintro i v sl S' hy ⟨rfl, ms, at', x3, x4, rfl, hm⟩
      rw [List.getElem?_map] at hy
      obtain ⟨q, hq, rfl⟩ := Option.map_eq_some_iff.mp hy
      have il : i < ps.length := (List.getElem?_eq_some_iff.mp hq).1
      refine ⟨_, [.val (.tup (ps.map pD)), .own (.lst ((ms ++ [q.1 - at' - 1, q.1 - at', q.1 - at' + 1]).map D.int)), .val (.int (at' + q.2 - q.1)), .val (.int q.1), .val (.int q.2), .emp], _, rfl, ?_, rfl, _, _, _, _, rfl, by rw [List.length_append, hm]; show _ + 3 = _; omega⟩
      have ln : (ms.map D.int).length + 3 ≤ sizeLine := by rw [List.length_map]; unfold sizeLine; omega
      rw [List.map_append]
      generalize ms.map D.int = w at *
      generalize ps.map pD = w2 at *
      unfold b_purses_0
      simp -implicitDefEqProofs [ln, lstAt, chg, extD, D.seq])
  rw [List.length_map] at hm
  have l1 : ms.length < 4000 ∧ (ssetI ms).length < 64 := ⟨by omega, by have := ssetI_len ms; omega⟩
  refine ⟨(ssetI ms).filter fun x => decide (0 ≤ x), ?_, fun x hx => of_decide_eq_true (List.mem_filter.mp hx).2, by have := List.length_filter_le (fun x : Int => decide (0 ≤ x)) (ssetI ms); omega⟩
  have key : ∀ z0 z2 z3 z4 : Slot, evE ⟨callN Tn G0 FUEL n, G0, FUEL⟩ c_purses_0 [z0, .own (.lst (ms.map D.int)), z2, z3, z4, .emp] S' = .ok (.fresh (.lst (((ssetI ms).filter fun x => decide (0 ≤ x)).map D.int))) S' := fun z0 z2 z3 z4 => by
    unfold c_purses_0
    rw [ev_comp_filter (items := (ssetI ms).map D.int) (fun d => match d with | .int x => decide (0 ≤ x) | _ => false) id ?_ ?_ fun x hx => ?_]
    · rw [List.map_id, List.filter_map]
      rfl
    · have dn := dInts_map ms
      generalize ms.map D.int = w at *
      simp -implicitDefEqProofs [dn, l1.1, l1.2]
    · rw [List.length_map]; unfold sizeLine; omega
    · obtain ⟨k, _, rfl⟩ := List.mem_map.mp hx
      refine ⟨_, rfl, ?_, fun _ => ?_⟩
      · simp -implicitDefEqProofs
      · simp -implicitDefEqProofs
  have s8 : rngD 0 (Int.toNat 8) = rngD 0 8 := rfl
  generalize ((ssetI ms).filter fun x => decide (0 ≤ x)).map D.int = w0 at *
  generalize ms.map D.int = w at *
  generalize ps.map pD = w2 at *
  unfold ir_purses
  simp -implicitDefEqProofs [e, key, s8]
theorem eqD_ints (ns : List Int) : eqD (.lst (ns.map D.int)) (.lst (ns.map D.int)) = some true := by
  obtain ⟨a, b⟩ := ints_shaped ns
  have sh := shaped_lst a (Nat.le_of_eq b) (by decide)
  unfold eqD
  rw [if_pos ⟨sh, sh⟩]
  congr 1
  show PyData.eqvAll (D.toPs (ns.map D.int)) (D.toPs (ns.map D.int)) = true
  clear a b sh
  induction ns with
  | nil => rfl
  | cons n ns ih =>
    show (PyData.eqv (D.int n).toP (D.int n).toP && _) = true
    rw [ih, Bool.and_true]
    simp [D.toP, PyData.eqv]
def fl (W : List (Int × Int)) : List Int := W.flatMap fun p => [p.1, p.2]
theorem fl_len (a : List (Int × Int)) : (fl a).length = 2 * a.length := by
  induction a with
  | nil => rfl
  | cons p a ih => show (p.1 :: p.2 :: fl a).length = _; rw [List.length_cons, List.length_cons, ih, List.length_cons]; omega
theorem fl_rise : ∀ {u : List (Int × Int)} {a : Int}, Rise a u → (fl u).Pairwise (· < ·) ∧ ∀ x ∈ fl u, a ≤ x
  | [], a, _ => ⟨List.Pairwise.nil, fun x hx => nomatch hx⟩
  | q :: u, a, h => by
    obtain ⟨h1, h2, h3⟩ := h
    obtain ⟨p, m⟩ := fl_rise h3
    have e : fl (q :: u) = q.1 :: q.2 :: fl u := rfl
    rw [e]
    refine ⟨List.pairwise_cons.mpr ⟨fun x hx => ?_, List.pairwise_cons.mpr ⟨fun x hx => ?_, p⟩⟩, fun x hx => ?_⟩
    · rcases List.mem_cons.mp hx with rfl | hx
      · exact h2
      · have := m x hx; omega
    · have := m x hx; omega
    · rcases List.mem_cons.mp hx with rfl | hx
      · exact h1
      · rcases List.mem_cons.mp hx with rfl | hx
        · omega
        · have := m x hx; omega
theorem same_up_eq (r : Row) (hr : Nn r) (hl : r.length ≤ 16) (n : Nat) (S : Sto) : callN Tn G0 FUEL (n + 2) "_law_same_up" [.tup (r.map pD), .tup ((upsW r).map pD)] S = .ok (.val (.bl true)) S := by
  rw [call_eq (show Tn "_law_same_up" = some ir_same_up from rfl) rfl]
  have ul : (upsW r).length ≤ 16 := by have := upsW_len r; omega
  obtain ⟨ns, e1, n1, l1⟩ := purses_eq r hl n S
  obtain ⟨ms, e2, n2, l2⟩ := purses_eq (upsW r) ul n S
  have hk : opBinD .add (.lst (ns.map D.int)) (.lst (ms.map D.int)) = some (.fresh (.lst ((ns ++ ms).map D.int))) := by
    rw [ob_addL, if_pos (by rw [List.length_map, List.length_map]; unfold sizeLine; omega), List.map_append]
  obtain ⟨sl', S', e3, rfl, x, rfl⟩ := loop_inv0 (t := .nm 2) (b := exB ⟨callN Tn G0 FUEL (n + 1), G0, FUEL⟩ b_same_up_0) (items := (ns ++ ms).map D.int) (sl := [.val (.tup (r.map pD)), .val (.tup ((upsW r).map pD)), .emp, .emp, .emp]) (S := S)
    (fun i sl S' => S' = S ∧ ∃ x, sl = [.val (.tup (r.map pD)), .val (.tup ((upsW r).map pD)), x, .emp, .emp]) ⟨rfl, _, rfl⟩ (by
      rintro i v sl S' hy ⟨rfl, x, rfl⟩
      obtain ⟨k, hk, rfl⟩ := List.mem_map.mp (List.mem_of_getElem? hy)
      have k0 : 0 ≤ k := (List.mem_append.mp hk).elim (n1 k) (n2 k)
      have a1 := brought_eq r k n S'
      have a2 := brought_eq (upsW r) k n S'
      rw [rch_ups hr k0] at a2
      refine ⟨_, [.val (.tup (r.map pD)), .val (.tup ((upsW r).map pD)), .val (.int k), .emp, .emp], _, rfl, ?_, rfl, _, rfl⟩
      generalize r.map pD = w1 at *
      generalize (upsW r).map pD = w2 at *
      unfold b_same_up_0
      simp -implicitDefEqProofs [a1, a2, eqD_int])
  obtain ⟨sl', S', e4, rfl, y, rfl⟩ := loop_inv0 (t := .nm 4) (b := exB ⟨callN Tn G0 FUEL (n + 1), G0, FUEL⟩ b_same_up_1) (items := (upsW r).map pD) (sl := [.val (.tup (r.map pD)), .val (.tup ((upsW r).map pD)), x, .own (.lst []), .emp]) (S := S')
    (fun i sl S'' => S'' = S' ∧ ∃ y, sl = [.val (.tup (r.map pD)), .val (.tup ((upsW r).map pD)), x, .own (.lst ((fl ((upsW r).take i)).map D.int)), y]) ⟨rfl, _, rfl⟩ (by
      rintro i v sl S'' hy ⟨rfl, y, rfl⟩
      rw [List.getElem?_map] at hy
      obtain ⟨q, hq, rfl⟩ := Option.map_eq_some_iff.mp hy
      refine ⟨_, [.val (.tup (r.map pD)), .val (.tup ((upsW r).map pD)), x, .own (.lst ((fl ((upsW r).take (i + 1))).map D.int)), .val (pD q)], _, rfl, ?_, rfl, _, rfl⟩
      have ef : (fl ((upsW r).take (i + 1))).map D.int = (fl ((upsW r).take i)).map D.int ++ [.int q.1, .int q.2] := by
        unfold fl
        rw [List.take_add_one, hq, Option.toList_some, List.flatMap_append, List.map_append]
        rfl
      have ln : ((fl ((upsW r).take i)).map D.int).length + 2 ≤ sizeLine := by rw [List.length_map, fl_len, List.length_take]; unfold sizeLine; omega
      have hp : pD q = .tup [.int q.1, .int q.2] := rfl
      rw [ef, hp]
      generalize (fl ((upsW r).take i)).map D.int = w0 at *
      generalize r.map pD = w1 at *
      generalize (upsW r).map pD = w2 at *
      unfold b_same_up_1
      simp -implicitDefEqProofs [ln, lstAt, chg, extD, D.seq])
  rw [List.length_map, List.take_length] at e4
  have sf := ssetI_rise (fl_rise (upsW_rise hr)).1
  have l3 : (fl (upsW r)).length < 4000 ∧ (fl (upsW r)).length < 64 := by rw [fl_len]; omega
  have dn := dInts_map (fl (upsW r))
  have eq := eqD_ints (fl (upsW r))
  have sq : (D.lst ((ns ++ ms).map D.int)).seq = some ((ns ++ ms).map D.int) := rfl
  generalize (ns ++ ms).map D.int = w0 at *
  generalize ns.map D.int = w1 at *
  generalize ms.map D.int = w2 at *
  generalize hfl : (fl (upsW r)).map D.int = w3 at *
  generalize (upsW r).map pD = w4 at *
  generalize r.map pD = w5 at *
  unfold ir_same_up
  simp -implicitDefEqProofs [-ob_addL, e1, e2, hk, e3, e4, dn, sf, l3.1, l3.2, hfl, eq]
/-! ### borne -/
theorem borne_loop (F : Cf) (S : Sto) : ∀ (ps : Row) (row : D) (p : Int) (u v : Slot), Nn ps → 0 ≤ p →
    (need ps ≤ p → ∃ p' u' v', loopL (.tup (.cons (.nm 2) (.cons (.nm 3) .nil))) (exB F b_is_borne_0) (ps.map pD) [.val row, .val (.int p), u, v] S = .ok (.nx, [.val row, .val (.int p'), u', v']) S) ∧
    (p < need ps → ∃ sl', loopL (.tup (.cons (.nm 2) (.cons (.nm 3) .nil))) (exB F b_is_borne_0) (ps.map pD) [.val row, .val (.int p), u, v] S = .ok (.rt (.val (.bl false)), sl') S)
  | [], row, p, u, v, _, h => ⟨fun _ => ⟨p, u, v, rfl⟩, fun c => by rw [need_nil] at c; omega⟩
  | q :: ps, row, p, u, v, nn, h => by
    have eb : bindT (.tup (.cons (.nm 2) (.cons (.nm 3) .nil))) (pD q) [.val row, .val (.int p), u, v] = some [.val row, .val (.int p), .val (.int q.1), .val (.int q.2)] := rfl
    have hg : gn q = q.2 - q.1 := rfl
    have hq := nn q List.mem_cons_self
    have nn' : Nn ps := fun z hz => nn z (List.mem_cons_of_mem _ hz)
    have nc := need_cons_le nn p
    have e0 : p < q.1 → exB F b_is_borne_0 [.val row, .val (.int p), .val (.int q.1), .val (.int q.2)] S = .ok (.rt (.val (.bl false)), [.val row, .val (.int p), .val (.int q.1), .val (.int q.2)]) S := fun c => by
      unfold b_is_borne_0
      simp -implicitDefEqProofs [c]
    have e1 : ¬ p < q.1 → exB F b_is_borne_0 [.val row, .val (.int p), .val (.int q.1), .val (.int q.2)] S = .ok (.nx, [.val row, .val (.int (p + gn q)), .val (.int q.1), .val (.int q.2)]) S := fun c => by
      have z : p + q.2 - q.1 = p + gn q := by omega
      unfold b_is_borne_0
      simp -implicitDefEqProofs [c, z]
    rw [List.map_cons]
    unfold loopL
    rw [eb]
    dsimp only
    by_cases c : p < q.1
    · rw [e0 c]
      exact ⟨fun hb => by have := (nc.mp hb).1; omega, fun _ => ⟨_, rfl⟩⟩
    · rw [e1 c]
      obtain ⟨i1, i2⟩ := borne_loop F S ps row (p + gn q) (.val (.int q.1)) (.val (.int q.2)) nn' (by omega)
      exact ⟨fun hb => i1 (nc.mp hb).2, fun hb => i2 (by
        rcases Int.lt_or_le (p + gn q) (need ps) with w | w
        · exact w
        · have := nc.mpr ⟨by omega, w⟩
          omega)⟩
theorem borne_eq (ps : Row) (nn : Nn ps) (p : Int) (h : 0 ≤ p) (n : Nat) (S : Sto) : callN Tn G0 FUEL (n + 1) "_law_is_borne" [.tup (ps.map pD), .int p] S = .ok (.val (.bl (decide (need ps ≤ p)))) S := by
  rw [call_eq (show Tn "_law_is_borne" = some ir_is_borne from rfl) rfl]
  obtain ⟨i1, i2⟩ := borne_loop ⟨callN Tn G0 FUEL n, G0, FUEL⟩ S ps (.tup (ps.map pD)) p .emp .emp nn h
  by_cases c : need ps ≤ p
  · obtain ⟨p', u', v', e⟩ := i1 c
    rw [decide_eq_true c]
    generalize ps.map pD = w at *
    unfold ir_is_borne
    simp -implicitDefEqProofs [e]
  · obtain ⟨sl', e⟩ := i2 (by omega)
    rw [decide_eq_false c]
    generalize ps.map pD = w at *
    unfold ir_is_borne
    simp -implicitDefEqProofs [e]
theorem turn_ok (n : Nat) {c : Nat} {S : Sto} (hS : DkOk (c + 300) S) {m : Int} (m0 : 0 ≤ m) (m1 : m ≤ 16) (a x3 x4 x5 x6 x7 : Slot) :
    ∃ y3 y4 y5 y6 y7 S', exB ⟨callN Tn G0 FUEL (n + 5), G0, FUEL⟩ b_law_0 [a, .val (.ref 1), .val (.int m), x3, x4, x5, x6, x7, .emp, .emp] S = .ok (.nx, [a, .val (.ref 1), .val (.int m), y3, y4, y5, y6, y7, .emp, .emp]) S' ∧ DkOk c S' := by
  obtain ⟨r, S1, e1, hr, lr, h1⟩ := M.row_ok (T := Tn) (G := G0) (wf := FUEL) rfl rfl rfl rfl fuel_big (c := c) hS (m := m) m0 (by omega) (n + 2)
  have rl : r.length ≤ 16 := by omega
  have e2 := M.form_of_eq (G := G0) (wf := FUEL) cT r hr.nn (by omega) (by unfold FUEL; omega) n S1
  have e3 := same_up_eq r hr.nn rl (n + 3) S1
  have e4 := same_up_eq (tnd r) hr.nn.tnd (by rw [tnd_len]; exact rl) (n + 3) S1
  have e5 := M.law_turned_eqN (T := Tn) (G := G0) (wf := FUEL) (show Tn "_law_turned" = some ir_turned from rfl) rfl rfl rfl r (by omega) (n + 4) S1
  have ul := upsW_len (tnd r)
  rw [tnd_len] at ul
  have e6 := M.law_turned_eqN (T := Tn) (G := G0) (wf := FUEL) (show Tn "_law_turned" = some ir_turned from rfl) rfl rfl rfl (tnd (upsW (tnd r))) (by rw [tnd_len]; omega) (n + 4) S1
  rw [tnd_tnd] at e6
  have hn0 := need_nn r
  have e7 := borne_eq r hr.nn (need r) hn0 (n + 4) S1
  rw [decide_eq_true (Int.le_refl _)] at e7
  have hfo : fD (formOf r) = .tup [.tup ((upsW r).map pD), .int (need r + ris (upsW r)), .tup ((tnd (upsW (tnd r))).map pD)] := by
    rw [formOf_eq hr.nn]
    rfl
  rw [hfo] at e2
  have ul0 := upsW_len r
  have key : ∀ z0 z1 z2 z3 z5 z6 z7 : Slot, evE ⟨callN Tn G0 FUEL (n + 5), G0, FUEL⟩ c_law_0 [z0, z1, z2, z3, .val (.tup ((upsW r).map pD)), z5, z6, z7, .emp, .emp] S1 = .ok (.fresh (.lst (((upsW r).map gn).map D.int))) S1 := fun z0 z1 z2 z3 z5 z6 z7 => by
    unfold c_law_0
    rw [ev_comp_map (items := (upsW r).map pD) fgD ?_ ?_ fun x hx => ?_]
    · rw [List.map_map, List.map_map]; rfl
    · simp -implicitDefEqProofs
    · rw [List.length_map]; unfold sizeLine; omega
    · obtain ⟨p, _, rfl⟩ := List.mem_map.mp hx
      refine ⟨_, rfl, rfl, ?_⟩
      simp -implicitDefEqProofs
      rfl
  have b1 := bi_sumF ((upsW r).map gn)
  rw [show ((upsW r).map gn).sum = ris (upsW r) from rfl] at b1
  have z1 : need r + ris (upsW r) - ris (upsW r) = need r := by omega
  have z2 : ¬ need r < 0 := by omega
  refine ⟨.val (.tup (r.map pD)), .val (.tup ((upsW r).map pD)), .val (.int (need r + ris (upsW r))), .val (.tup ((tnd (upsW (tnd r))).map pD)), .val (.int (need r)), S1, ?_, h1⟩
  by_cases c0 : 0 < need r
  · have e8 := borne_eq r hr.nn (need r - 1) (by omega) (n + 4) S1
    rw [decide_eq_false (by omega)] at e8
    clear hfo hn0 ul ul0 hr lr h1 hS rl
    generalize ((upsW r).map gn).map D.int = w1 at *
    generalize (upsW (tnd r)).map pD = w3 at *
    generalize (tnd (upsW (tnd r))).map pD = w2 at *
    generalize (upsW r).map pD = w4 at *
    generalize (tnd r).map pD = w5 at *
    generalize r.map pD = w6 at *
    generalize ris (upsW r) = v1 at *
    generalize need r = v2 at *
    unfold b_law_0
    simp -implicitDefEqProofs [e1, e2, e3, e4, e5, e6, e7, e8, key, b1, z1, z2, c0]
  · clear hfo hn0 ul ul0 hr lr h1 hS rl
    generalize ((upsW r).map gn).map D.int = w1 at *
    generalize (upsW (tnd r)).map pD = w3 at *
    generalize (tnd (upsW (tnd r))).map pD = w2 at *
    generalize (upsW r).map pD = w4 at *
    generalize (tnd r).map pD = w5 at *
    generalize r.map pD = w6 at *
    generalize ris (upsW r) = v1 at *
    generalize need r = v2 at *
    unfold b_law_0
    simp -implicitDefEqProofs [e1, e2, e3, e4, e5, e6, e7, key, b1, z1, z2, c0]
theorem plain_law (ns : List Int) (hn : ns.length ≤ 63) (_ : ∀ z ∈ ns, Builtin.Int.intBits z ≤ 1048576) : ∃ S', callN tab (fun _ => none) FUEL DEEP "law" [.scr (ns.map D.int)] [] = .ok (.val (.bl true)) S' := by
  rw [show DEEP = 23 + 1 from rfl, call_eq (n := 23) (show tab "law" = some ir_law from rfl) rfl]
  obtain ⟨gs, cs, e1, h1⟩ := M.deck_ok (T := Tn) (G := G0) (wf := FUEL) rfl hn 22
  obtain ⟨sl', S', e2, hS, x2, x3, x4, x5, x6, x7, rfl⟩ := loop_inv0 (t := .nm 2) (b := exB ⟨callN Tn G0 FUEL 23, G0, FUEL⟩ b_law_0) (items := [.int 16, .int 9, .int 6, .int 4]) (sl := [.val (.scr (ns.map D.int)), .val (.ref 1), .emp, .emp, .emp, .emp, .emp, .emp, .emp, .emp]) (S := [.lst (gs.map .int), .lst [.ref 0, .lst (cs.map .int), .int 0, .int 62]])
    (fun i sl S => DkOk (50000 - 300 * i) S ∧ ∃ x2 x3 x4 x5 x6 x7, sl = [.val (.scr (ns.map D.int)), .val (.ref 1), x2, x3, x4, x5, x6, x7, .emp, .emp]) ⟨h1.less (by decide), _, _, _, _, _, _, rfl⟩ (by
      rintro i v sl S hy ⟨hS, x2, x3, x4, x5, x6, x7, rfl⟩
      have hi : i < 4 := (List.getElem?_eq_some_iff.mp hy).1
      obtain ⟨m, rfl, m0, m1⟩ : ∃ m : Int, v = .int m ∧ 0 ≤ m ∧ m ≤ 16 := by
        have hv := List.mem_of_getElem? hy
        simp only [List.mem_cons, List.not_mem_nil, or_false] at hv
        rcases hv with rfl | rfl | rfl | rfl
        · exact ⟨16, rfl, by decide, by decide⟩
        · exact ⟨9, rfl, by decide, by decide⟩
        · exact ⟨6, rfl, by decide, by decide⟩
        · exact ⟨4, rfl, by decide, by decide⟩
      obtain ⟨_, _, _, _, _, S', q, h'⟩ := turn_ok 18 (c := 50000 - 300 * (i + 1)) (hS.less (by omega)) m0 m1 (.val (.scr (ns.map D.int))) x3 x4 x5 x6 x7
      exact ⟨_, _, S', rfl, q, h', _, _, _, _, _, _, rfl⟩)
  refine ⟨S', ?_⟩
  unfold ir_law
  simp -implicitDefEqProofs [e1, e2]
end Px

set_option Elab.async false
open PySem PySem.W PyProof.Rows
set_option maxRecDepth 100000 in
set_option maxHeartbeats 0 in
theorem PySem.Challenge.cw_stintpurse_k16_whole_forms_by_purses_holds : PySem.Challenge.rw_stintpurse_k16_whole_forms_by_purses.Holds := by
  w_on; o_law; k_head; (case hw => w_witness2)
  k_fill
  refine Px.walk_px (l := PySem.Challenge.rw_stintpurse_k16_whole_forms_by_purses) (n := 63) (k := Px.DEEP) (φ := Px.callN Px.tab Px.GD Px.FUEL Px.DEEP "law") rfl (by decide) rfl rfl ⟨rfl, by decide, by decide⟩ (fun w h Y => PySem.W.kIn_of Y) ?F Px.plain_law
  case F =>
    intro w mg h KX G
    refine' Px.all_mk KX G ?x0 ?l0 ?c0 ?k0 ?x1 ?l1 ?c1 ?k1 ?x2 ?l2 ?c2 ?k2 ?x3 ?l3 ?c3 ?k3 ?x4 ?l4 ?c4 ?k4 ?x5 ?l5 ?c5 ?k5 ?x6 ?l6 ?c6 ?k6 ?x7 ?l7 ?c7 ?k7 ?x8 ?l8 ?c8 ?k8 ?x9 ?l9 ?c9 ?k9 ?x10 ?l10 ?c10 ?k10 ?x11 ?l11 ?c11 ?k11 ?x12 ?l12 ?c12 ?k12 ?x13 ?l13 ?c13 ?k13 ?x14 ?l14 ?c14 ?k14 ?x15 ?l15 ?c15 ?k15 ?x16 ?l16 ?c16 ?k16 ?x17 ?l17 ?c17 ?k17 ?x18 ?l18 ?c18 ?k18 ?x19 ?l19 ?c19 ?k19 ?x20 ?l20 ?c20 ?k20 ?z0 ?z1 ?z2 ?z3 ?z4 ?z5 ?z6 ?z7 ?z8 ?z9 ?z10 ?z11 ?z12 ?z13 ?z14 ?z15 ?z16 ?z17 ?z18 ?z19 ?z20
    (case x0 => k_is)
    (case l0 => k_is)
    (case c0 => k_is)
    (case k0 => k_is)
    (case x1 => k_is)
    (case l1 => k_is)
    (case c1 => k_is)
    (case k1 => k_is)
    (case x2 => k_is)
    (case l2 => k_is)
    (case c2 => k_is)
    (case k2 => k_is)
    (case x3 => k_is)
    (case l3 => k_is)
    (case c3 => k_is)
    (case k3 => k_is)
    (case x4 => k_is)
    (case l4 => k_is)
    (case c4 => k_is)
    (case k4 => k_is)
    (case x5 => k_is)
    (case l5 => k_is)
    (case c5 => k_is)
    (case k5 => k_is)
    (case x6 => k_is)
    (case l6 => k_is)
    (case c6 => k_is)
    (case k6 => k_is)
    (case x7 => k_is)
    (case l7 => k_is)
    (case c7 => k_is)
    (case k7 => k_is)
    (case x8 => k_is)
    (case l8 => k_is)
    (case c8 => k_is)
    (case k8 => k_is)
    (case x9 => k_is)
    (case l9 => k_is)
    (case c9 => k_is)
    (case k9 => k_is)
    (case x10 => k_is)
    (case l10 => k_is)
    (case c10 => k_is)
    (case k10 => k_is)
    (case x11 => k_is)
    (case l11 => k_is)
    (case c11 => k_is)
    (case k11 => k_is)
    (case x12 => k_is)
    (case l12 => k_is)
    (case c12 => k_is)
    (case k12 => k_is)
    (case x13 => k_is)
    (case l13 => k_is)
    (case c13 => k_is)
    (case k13 => k_is)
    (case x14 => k_is)
    (case l14 => k_is)
    (case c14 => k_is)
    (case k14 => k_is)
    (case x15 => k_is)
    (case l15 => k_is)
    (case c15 => k_is)
    (case k15 => k_is)
    (case x16 => k_is)
    (case l16 => k_is)
    (case c16 => k_is)
    (case k16 => k_is)
    (case x17 => k_is)
    (case l17 => k_is)
    (case c17 => k_is)
    (case k17 => k_is)
    (case x18 => k_is)
    (case l18 => k_is)
    (case c18 => k_is)
    (case k18 => k_is)
    (case x19 => k_is)
    (case l19 => k_is)
    (case c19 => k_is)
    (case k19 => k_is)
    (case x20 => k_is)
    (case l20 => k_is)
    (case c20 => k_is)
    (case k20 => k_is)
    (case z0 => k_is)
    (case z1 => k_is)
    (case z2 => k_is)
    (case z3 => k_is)
    (case z4 => k_is)
    (case z5 => k_is)
    (case z6 => k_is)
    (case z7 => k_is)
    (case z8 => k_is)
    (case z9 => k_is)
    (case z10 => k_is)
    (case z11 => k_is)
    (case z12 => k_is)
    (case z13 => k_is)
    (case z14 => k_is)
    (case z15 => k_is)
    (case z16 => k_is)
    (case z17 => k_is)
    (case z18 => k_is)
    (case z19 => k_is)
    (case z20 => k_is)
#print axioms PySem.Challenge.cw_stintpurse_k16_whole_forms_by_purses_holds
