import PyProof.Rows.All
import Wide.All
import OpenK.AllK
import Wide.FinOn
import HandS.ForMost
import HandS.Wide
import HandS.Flow
import HandS.Style
import HandS.TupAny
import HandS.TupMul
import HandS.Deep
import HandS.IsInst
import HandS.NoneIn
import HandS.Walk
import HandS.Zip
import HandS.TupLe
import HandS.EndBits
import HandS.ForExc
import HandS.ExcInit
import HandS.ExcField
import HandS.ClsMeth
import KE.KExcIs
import PyProof.Rows.IntBool
import HandS.SortRule
import HandS.SortInts
import PyProof.TupleOfSeq
import HandS.SortOrd
import HandS.Sort
import PyProof.ReprRoads
import PyProof.CallFns
import HandS.CallRecv
import HandS.ExcIs
import HandS.ExcValue
import HandS.SetFor
import HandS.Strs
import HandS.Conv
import KE.GoesMore
import KE.GoesEnum
import HandS.More
import HandS.Iter
import HandS.Dict
import KE.KDictZip
import HandS.TryMany
import PySem.Challenge.RW_stintpurse_k02_rows_borne
set_option Elab.async false
set_option linter.all false
set_option maxRecDepth 100000
namespace Px
open PySem L2
/-- plain data; scr: the law's script; ref: a shared object of the store -/
inductive D where
  | non | bl (b : Bool) | int (i : Int) | str (s : Str)
  | tup (xs : List D) | lst (xs : List D) | scr (xs : List D)
  | dic (kvs : List (Key × Int))
  | ref (i : Nat)
deriving Inhabited
/-- a refusal: its class, its fields -/
structure Xn where
  cls : String
  fs : List (String × D)
deriving Inhabited
/-- the content of a thing that may be changed -/
inductive Cn where
  | lst (xs : List D)
  | dic (kvs : List (Key × D))
  | dit (kvs : List (List Int × D))
  | err (x : Xn)
deriving Inhabited
def Cn.frz : Cn → D
  | .lst xs => .lst xs
  | .dic _ => .non
  | .dit _ => .non
  | .err _ => .non
abbrev Sto := List Cn
/-- what an expression gives: data; a new thing that nobody else holds; the thing of a local name -/
inductive Rv where
  | val (d : D) | fresh (c : Cn) | own (c : Cn)
deriving Inhabited
inductive Slot where
  | emp | val (d : D) | own (c : Cn)
deriving Inhabited
abbrev Slots := List Slot
inductive Res (α : Type) where
  | ok (a : α) (S : Sto) | exc (x : Xn) (S : Sto) | stuck
deriving Inhabited
def Res.bind {α β : Type} (r : Res α) (k : α → Sto → Res β) : Res β :=
  match r with
  | .ok a S => k a S
  | .exc x S => .exc x S
  | .stuck => .stuck
@[simp] theorem Res.bind_ok {α β : Type} (a : α) (S : Sto) (k : α → Sto → Res β) : (Res.ok a S).bind k = k a S := rfl
@[simp] theorem Res.bind_exc {α β : Type} (x : Xn) (S : Sto) (k : α → Sto → Res β) : (Res.exc x S : Res α).bind k = .exc x S := rfl
@[simp] theorem Res.bind_stuck {α β : Type} (k : α → Sto → Res β) : (Res.stuck : Res α).bind k = .stuck := rfl
/-- where no exception may pass -/
def Res.noX {α : Type} (r : Res α) : Res α :=
  match r with
  | .exc _ _ => .stuck
  | r => r
@[simp] theorem Res.noX_ok {α : Type} (a : α) (S : Sto) : (Res.ok a S).noX = .ok a S := rfl
@[simp] theorem Res.noX_exc {α : Type} (x : Xn) (S : Sto) : (Res.exc x S : Res α).noX = .stuck := rfl
@[simp] theorem Res.noX_stuck {α : Type} : (Res.stuck : Res α).noX = .stuck := rfl
def Res.opt {α : Type} (o : Option α) (S : Sto) : Res α :=
  match o with
  | some a => .ok a S
  | none => .stuck
@[simp] theorem Res.opt_some {α : Type} (a : α) (S : Sto) : Res.opt (some a) S = .ok a S := rfl
@[simp] theorem Res.opt_none {α : Type} (S : Sto) : Res.opt (none : Option α) S = .stuck := rfl
def kP : Key → PyData
  | .inl i => .int i
  | .inr s => .str s
mutual
def D.toP : D → PyData
  | .non => .none
  | .bl b => .bool b
  | .int i => .int i
  | .str s => .str s
  | .tup xs => .tuple (D.toPs xs)
  | .lst xs => .list (D.toPs xs)
  | .scr xs => .list (D.toPs xs)
  | .dic kvs => .dict (kvs.map fun p => (kP p.1, .int p.2))
  | .ref _ => .dict []
def D.toPs : List D → List PyData
  | [] => []
  | x :: xs => D.toP x :: D.toPs xs
end
mutual
/-- no shared thing within -/
def D.nrf : D → Bool
  | .ref _ => false
  | .tup xs => D.nrfs xs
  | .lst xs => D.nrfs xs
  | .scr xs => D.nrfs xs
  | .non => true
  | .bl _ => true
  | .int _ => true
  | .str _ => true
  | .dic _ => true
def D.nrfs : List D → Bool
  | [] => true
  | x :: xs => D.nrf x && D.nrfs xs
end
/-- a list or tuple of some items, whatever they are, is none without items -/
def eqE : D → D → Option Bool
  | .lst (_ :: _), .lst [] => some false
  | .tup (_ :: _), .tup [] => some false
  | _, _ => none
/-- == of data -/
def eqD (a b : D) : Option Bool :=
  if SeqAt.shaped a.toP = true ∧ SeqAt.shaped b.toP = true then some (PyData.eqv a.toP b.toP) else eqE a b
/-- as data: what escapes is never changed any more -/
def Rv.toD : Rv → Option D
  | .val d => some d
  | .fresh c => some c.frz
  | .own _ => none
/-- as data that is only looked at -/
def Rv.look : Rv → D
  | .val d => d
  | .fresh c => c.frz
  | .own c => c.frz
/-- the items of a list or tuple -/
def D.seq : D → Option (List D)
  | .tup xs => some xs
  | .lst xs => some xs
  | _ => none
def D.truth : D → Option Bool
  | .non => some false
  | .bl b => some b
  | .int i => some (i != 0)
  | .str s => if s.length ≤ sizeLine then some ((s.length : Int) != 0) else none
  | .tup xs => some (!xs.isEmpty)
  | .lst xs => some (!xs.isEmpty)
  | .scr xs => some (!xs.isEmpty)
  | .dic _ => none
  | .ref _ => none
inductive Bop where
  | add | sub | mul | fdiv | mod | pow | shl | shr | band | bor
deriving DecidableEq
inductive Cop where
  | eq | ne | lt | le | gt | ge | isN | notN | isB | notB | inn | nin
deriving DecidableEq
def opBinD (o : Bop) (a b : D) : Option Rv :=
  match o, a, b with
  | .add, .int i, .int j => some (.val (.int (i + j)))
  | .add, .str x, .str y => if x.length + y.length ≤ sizeLine then some (.val (.str (x ++ y))) else none
  | .add, .tup x, .tup y => if x.length + y.length ≤ sizeLine then some (.val (.tup (x ++ y))) else none
  | .add, .lst x, .lst y => if x.length + y.length ≤ sizeLine then some (.fresh (.lst (x ++ y))) else none
  | .add, .bl k, .int j => some (.val (.int ((if k = true then 1 else 0) + j)))
  | .sub, .int i, .int j => some (.val (.int (i - j)))
  | .sub, .bl k, .int j => some (.val (.int ((if k = true then 1 else 0) - j)))
  | .mul, .int i, .int j => if i.natAbs.log2 + j.natAbs.log2 < 100000000 then some (.val (.int (i * j))) else none
  | .mul, .tup x, .int j => if -1000 ≤ j ∧ j ≤ 1000 ∧ x.length ≤ 1000 then some (.val (.tup (List.replicate j.toNat x).flatten)) else none
  | .mul, .lst x, .int j => if -(2 ^ 63) ≤ j ∧ j < 2 ^ 63 ∧ x.length * j.toNat ≤ sizeLine then some (.fresh (.lst (List.replicate j.toNat x).flatten)) else none
  | .fdiv, .int i, .int j => if 0 < j ∧ j.natAbs.log2 < 9000 then some (.val (.int (i / j))) else none
  | .mod, .int i, .int j => if 0 < j then some (.val (.int (i % j))) else none
  | .pow, .int i, .int j => if 0 ≤ j ∧ j ≤ 1000000 ∧ i.natAbs < 2 ^ 64 then some (.val (.int (i ^ j.toNat))) else none
  | .shl, .int i, .int j => if 0 ≤ j ∧ j ≤ 1000000 ∧ i.natAbs < 2 ^ 64 then some (.val (.int (i * 2 ^ j.toNat))) else none
  | .shr, .int i, .int j => if 0 ≤ j then some (.val (.int (i / 2 ^ j.toNat))) else none
  | .band, .int i, .int j => some (.val (.int (Builtin.bitAnd i j)))
  | .bor, .int i, .int j => some (.val (.int (Builtin.bitOr i j)))
  | _, _, _ => none
def opBin (o : Bop) (a b : Rv) : Option Rv := opBinD o a.look b.look
def D.isNon : D → Bool
  | .non => true
  | _ => false
def dInts : List D → Option (List Int)
  | [] => some []
  | .int i :: r => (dInts r).map (i :: ·)
  | _ :: _ => none
/-- > of tuples of numbers -/
def gtV (ns ms : List Int) : Bool := Ob.lexAt (fun j => decide (ns.getD j 0 = ms.getD j 0)) (fun j => decide (ms.getD j 0 < ns.getD j 0)) (decide (ns.length > ms.length)) 0 (min ns.length ms.length)
def geV (ns ms : List Int) : Bool := Ob.lexAt (fun j => decide (ns.getD j 0 = ms.getD j 0)) (fun j => decide (ms.getD j 0 ≤ ns.getD j 0)) (decide (ns.length ≥ ms.length)) 0 (min ns.length ms.length)
def ltV (ns ms : List Int) : Bool := Ob.lexAt (fun j => decide (ns.getD j 0 = ms.getD j 0)) (fun j => decide (ns.getD j 0 < ms.getD j 0)) (decide (ns.length < ms.length)) 0 (min ns.length ms.length)
def leV (ns ms : List Int) : Bool := Ob.lexAt (fun j => decide (ns.getD j 0 = ms.getD j 0)) (fun j => decide (ns.getD j 0 ≤ ms.getD j 0)) (decide (ns.length ≤ ms.length)) 0 (min ns.length ms.length)
/-- a in ys -/
def inD (a : D) (ys : List D) : Option Bool := if SeqAt.shaped a.toP = true ∧ SeqAt.shaped (.list (D.toPs ys)) = true then some ((D.toPs ys).any fun z => PyData.eqv z a.toP) else none
def opCmpD (o : Cop) (a b : D) : Option Bool :=
  match o, a, b with
  | .eq, a, b => eqD a b
  | .ne, a, b => (eqD a b).map (!·)
  | .lt, .int i, .int j => some (decide (i < j))
  | .le, .int i, .int j => some (decide (i ≤ j))
  | .gt, .int i, .int j => some (decide (j < i))
  | .ge, .int i, .int j => some (decide (j ≤ i))
  | .gt, .tup xs, .tup ys => match dInts xs, dInts ys with
    | some ns, some ms => some (gtV ns ms)
    | _, _ => none
  | .ge, .tup xs, .tup ys => match dInts xs, dInts ys with
    | some ns, some ms => some (geV ns ms)
    | _, _ => none
  | .lt, .tup xs, .tup ys => match dInts xs, dInts ys with
    | some ns, some ms => some (ltV ns ms)
    | _, _ => none
  | .le, .tup xs, .tup ys => match dInts xs, dInts ys with
    | some ns, some ms => some (leV ns ms)
    | _, _ => none
  | .isN, a, .non => some a.isNon
  | .notN, a, .non => some (!a.isNon)
  | .isB, .bl a, .bl b => some (decide (a = b))
  | .notB, .bl a, .bl b => some (!decide (a = b))
  | .inn, a, .lst ys => inD a ys
  | .inn, a, .tup ys => inD a ys
  | .nin, a, .lst ys => (inD a ys).map (!·)
  | .nin, a, .tup ys => (inD a ys).map (!·)
  | _, _, _ => none
def opCmp (o : Cop) (a b : Rv) : Option Bool := opCmpD o a.look b.look
/-- a place, of any sign -/
def ixD (xs : List D) (i : Int) : Option D := atI xs i
def opIxD (a b : D) : Option Rv :=
  match a, b with
  | .tup xs, .int i => (ixD xs i).map .val
  | .lst xs, .int i => (ixD xs i).map .val
  | _, _ => none
def opIx (a b : Rv) : Option Rv := opIxD a.look b.look
def slc {α : Type} (xs : List α) (lo hi : Option Int) : List α := (xs.drop (HT.sIx xs.length 0 lo)).take (HT.sIx xs.length xs.length hi - HT.sIx xs.length 0 lo)
def opSlD (a : D) (lo hi : Option Int) : Option Rv :=
  match a with
  | .tup xs => some (.val (.tup (slc xs lo hi)))
  | .lst xs => some (.fresh (.lst (slc xs lo hi)))
  | .scr xs => some (.fresh (.lst (slc xs lo hi)))
  | _ => none
def opSl (a : Rv) (lo hi : Option Int) : Option Rv := opSlD a.look lo hi
def opRevD (a : D) : Option Rv :=
  match a with
  | .tup xs => some (.val (.tup xs.reverse))
  | .lst xs => some (.fresh (.lst xs.reverse))
  | _ => none
def opRev (a : Rv) : Option Rv := opRevD a.look
/-- operations told by name, over things that are looked at -/
inductive Op where
  | stp
deriving DecidableEq
def stpV : D → D → Option Rv
  | .lst xs, .int k => if k = 1 then some (.fresh (.lst xs)) else if k = -1 then some (.fresh (.lst xs.reverse)) else none
  | _, _ => none
def opX (o : Op) (as : List Rv) : Option Rv :=
  match o, as with
  | .stp, [a, k] => stpV a.look k.look
  | _, _ => none
inductive Ty where
  | int | bool | str | tuple | list | dict
deriving DecidableEq
def Ty.nm : Ty → String
  | .int => "int" | .bool => "bool" | .str => "str" | .tuple => "tuple" | .list => "list" | .dict => "dict"
def D.ty : D → Option Ty
  | .bl _ => some .bool | .int _ => some .int | .str _ => some .str | .tup _ => some .tuple
  | .lst _ => some .list | .scr _ => some .list | .dic _ => some .dict | .non => none | .ref _ => some .list
def Ty.sub (a b : Ty) : Bool := a == b || (a == .bool && b == .int)
def isIn (d : D) (ts : List Ty) : Bool :=
  match d.ty with
  | some t => ts.any fun u => t.sub u
  | none => false
inductive Bi where
  | len | abs | max2 | min2 | maxL | minL | sum | all | any | tuple | list | repr | int | str | sorted | bool
deriving DecidableEq
def Bi.nm : Bi → String
  | .len => "len" | .abs => "abs" | .max2 => "max" | .min2 => "min" | .maxL => "max" | .minL => "min" | .sum => "sum" | .all => "all" | .any => "any" | .tuple => "tuple" | .list => "list" | .repr => "repr" | .int => "int" | .str => "str" | .sorted => "sorted" | .bool => "bool"
def dBools : List D → Option (List Bool)
  | [] => some []
  | .bl i :: r => (dBools r).map (i :: ·)
  | _ :: _ => none
def greatest : List Int → Int
  | [] => 0
  | [x] => x
  | x :: y :: r => if greatest (y :: r) > x then greatest (y :: r) else x
def least : List Int → Int
  | [] => 0
  | [x] => x
  | x :: y :: r => if least (y :: r) < x then least (y :: r) else x
/-- pairs of numbers -/
def dPairs : List D → Option (List (Int × Int))
  | [] => some []
  | .tup [.int i, .int j] :: r => (dPairs r).map ((i, j) :: ·)
  | _ :: _ => none
/-- is p at most q, by the first number, then by the second -/
def leP (p q : Int × Int) : Bool := decide (p.1 < q.1) || (decide (p.1 = q.1) && decide (p.2 ≤ q.2))
def sortD (xs : List D) : Option (List D) :=
  match dInts xs with
  | some ns => some ((ns.mergeSort fun a b => decide (a ≤ b)).map D.int)
  | none => match dPairs xs with
    | some ps => some ((ps.mergeSort leP).map fun p => .tup [.int p.1, .int p.2])
    | none => none
def opBi (b : Bi) (as : List Rv) : Option Rv :=
  match b, as with
  | .len, [a] => match a.look with
    | .tup xs => some (.val (.int xs.length))
    | .lst xs => some (.val (.int xs.length))
    | .scr xs => some (.val (.int xs.length))
    | .str s => if s.length ≤ sizeLine then some (.val (.int s.length)) else none
    | _ => none
  | .abs, [a] => match a.look with
    | .int i => some (.val (.int (if i < 0 then -i else i)))
    | _ => none
  | .max2, [a, b] => match a.look, b.look with
    | .int i, .int j => some (.val (.int (if j > i then j else i)))
    | _, _ => none
  | .min2, [a, b] => match a.look, b.look with
    | .int i, .int j => some (.val (.int (if j < i then j else i)))
    | _, _ => none
  | .maxL, [a] => match a.look with
    | .lst xs => match dInts xs with
      | some ns => if ns = [] then none else some (.val (.int (greatest ns)))
      | none => none
    | .tup xs => match dInts xs with
      | some ns => if ns = [] then none else some (.val (.int (greatest ns)))
      | none => none
    | _ => none
  | .minL, [a] => match a.look with
    | .lst xs => match dInts xs with
      | some ns => if ns = [] then none else some (.val (.int (least ns)))
      | none => none
    | _ => none
  | .sum, [a] => match a.look with
    | .lst xs => (dInts xs).map fun ns => .val (.int ns.sum)
    | .tup xs => (dInts xs).map fun ns => .val (.int ns.sum)
    | _ => none
  | .all, [a] => match a.look with
    | .lst xs => (dBools xs).map fun ns => .val (.bl (ns.all id))
    | _ => none
  | .any, [a] => match a.look with
    | .lst xs => (dBools xs).map fun ns => .val (.bl (ns.any id))
    | _ => none
  | .tuple, [a] => match a.look with
    | .lst xs => some (.val (.tup xs))
    | .tup xs => some (.val (.tup xs))
    | _ => none
  | .list, [a] => match a.look with
    | .lst xs => some (.fresh (.lst xs))
    | .tup xs => some (.fresh (.lst xs))
    | _ => none
  | .repr, [a] => if a.look.toP.showable = true ∧ a.look.toP.canLay0 = true ∧ a.look.toP.depth ≤ 64 ∧ a.look.toP.shown.length ≤ sizeLine then some (.val (.str a.look.toP.shown)) else
      if a.look.toP.showable = true ∧ a.look.nrf = true ∧ a.look.toP.depth ≤ 64 ∧ a.look.toP.shown.length ≤ sizeLine then some (.val (.str a.look.toP.shown)) else none
  | .int, [a] => match a.look with
    | .int i => some (.val (.int i))
    | .bl k => some (.val (.int (if k then 1 else 0)))
    | _ => none
  | .str, [a] => match a.look with
    | .int i => if i.natAbs.log2 < 1920 then some (.val (.str (toString i))) else none
    | .bl k => some (.val (.str (if k then "True" else "False")))
    | _ => none
  | .sorted, [a] => match a.look with
    | .lst xs => (sortD xs).map fun ys => .fresh (.lst ys)
    | .tup xs => (dPairs xs).map fun ps => .fresh (.lst ((ps.mergeSort leP).map fun p => .tup [.int p.1, .int p.2]))
    | _ => none
  | .bool, [a] => match a.look with
    | .int i => some (.val (.bl (i != 0)))
    | .bl k => some (.val (.bl k))
    | _ => none
  | _, _ => none
mutual
inductive Tg where
  | nm (i : Nat)
  | tup (ts : Tgs)
inductive Tgs where
  | nil
  | cons (t : Tg) (ts : Tgs)
end
mutual
def bindT : Tg → D → Slots → Option Slots
  | .nm i, d, sl => some (sl.set i (.val d))
  | .tup ts, .tup xs, sl => bindTs ts xs sl
  | .tup _, _, _ => none
def bindTs : Tgs → List D → Slots → Option Slots
  | .nil, [], sl => some sl
  | .cons t ts, x :: xs, sl => match bindT t x sl with
    | some sl' => bindTs ts xs sl'
    | none => none
  | _, _, _ => none
end
def Tgs.len : Tgs → Nat
  | .nil => 0
  | .cons _ ts => ts.len + 1
mutual
inductive Ex where
  | var (i : Nat) | int (z : Int) | bl (b : Bool) | non | str (s : String) | glob (x : String)
  | nop | dic (ks : List (String × Int))
  | lenr (a : Ex) | tupr (a : Ex)
  | bin (o : Bop) (a b : Ex)
  | cmp (o : Cop) (a b : Ex)
  | cmp2 (o o' : Cop) (a b c : Ex)
  | and (a b : Ex) | or (a b : Ex) | not (a : Ex) | neg (a : Ex)
  | ife (c a b : Ex)
  | tup (es : Exs) | list (es : Exs)
  | call (f : String) (es : Exs)
  | bi (b : Bi) (es : Exs)
  | op (o : Op) (es : Exs)
  | isin (e : Ex) (one : Bool) (ts : List Ty)
  | ix (a i : Ex)
  | sl (a : Ex) (lo hi : Exo)
  | rev (a : Ex)
  | sset (e : Ex) | lrng (e : Ex) | lenum (e : Ex) | dnew1 (z : Int) (b : Bool) | dkeys (e : Ex) | dfrom (e : Ex)
  | mke (c : String) (fs : List String) (es : Exs) | fldr (e : Ex) (f : String) | isxr (e : Ex) (c : String)
  | dnew | dhas (neg : Bool) (k d : Ex) | dat (d k : Ex) | dget (d k z : Ex)
  | ghas (neg : Bool) (k : Ex) (g : String) | gat (g : String) (k : Ex)
  | ixr (a i : Ex) | cmpr (o : Cop) (a b : Ex) | shr (e : Ex) | popr (a : Ex) (k : Exo) | appr (a e : Ex)
  | comp (own : List (String × Nat)) (tg : Tg) (it : Itx) (c : Ex) (elt : Ex)
  | comp2 (own : List (String × Nat)) (tg : Tg) (it : Itx) (c : Ex) (vs1 : List Nat) (tg1 : Tg) (it1 : Itx) (c1 : Ex) (elt : Ex)
inductive Exs where
  | nil
  | cons (e : Ex) (es : Exs)
inductive Exo where
  | no
  | yes (e : Ex)
inductive Itx where
  | val (e : Ex)
  | rng1 (a : Ex) | rng2 (a b : Ex) | rngd (a b : Ex)
  | enum (e : Ex) | zip (a b : Ex) | look (e : Ex)
end
/-- a shared list's content -/
def D.lookS (S : Sto) : D → D
  | .ref i => match S[i]? with
    | some (.lst xs) => .lst xs
    | _ => .ref i
  | d => d
def Rv.lookS (S : Sto) (r : Rv) : D := r.look.lookS S
def Rv.isRef : Rv → Bool
  | .val (.ref _) => true
  | _ => false
/-- without the last item, or the one at a place -/
def popD (xs : List D) : Option Int → Option (D × List D)
  | none => xs.getLast?.map fun x => (x, xs.dropLast)
  | some k => if -(2 ^ 63) ≤ k ∧ k < 2 ^ 63 then (ixN xs.length k).bind fun j => xs[j]?.map fun x => (x, xs.eraseIdx j) else none
/-- the shared list of a value -/
def refAt (r : Rv) (S : Sto) : Option (Nat × List D) :=
  match r with
  | .val (.ref j) => match S[j]? with
    | some (.lst xs) => some (j, xs)
    | _ => none
  | _ => none
/-- a key of a dict: a number or a text -/
def kOf : D → Option Key
  | .int i => some (.inl i)
  | .str s => some (.inr s)
  | _ => none
def valD (kvs : List (Key × D)) (k : Key) : Option D := (kvs.find? fun p => decide (p.1 = k)).map (·.2)
def putD (kvs : List (Key × D)) (k : Key) (d : D) : List (Key × D) := if kvs.any (fun p => decide (p.1 = k)) then kvs.map (fun p => if p.1 = k then (p.1, d) else p) else kvs ++ [(k, d)]
/-- a dict whose keys are tuples of numbers -/
def valT (kvs : List (List Int × D)) (k : List Int) : Option D := (kvs.find? fun p => decide (p.1 = k)).map (·.2)
def putT (kvs : List (List Int × D)) (k : List Int) (d : D) : List (List Int × D) := if kvs.any (fun p => decide (p.1 = k)) then kvs.map (fun p => if p.1 = k then (p.1, d) else p) else kvs ++ [(k, d)]
/-- the entries of a dict, shared or not -/
def dicOfD (d : D) (S : Sto) : Option (List (Key × D)) :=
  match d with
  | .dic kvs => some (kvs.map fun p => (p.1, .int p.2))
  | .ref i => match S[i]? with
    | some (.dic kvs) => some kvs
    | _ => none
  | _ => none
/-- the shared dict of a value -/
def dicAt (r : Rv) (S : Sto) : Option (Nat × List (Key × D)) :=
  match r with
  | .val (.ref j) => match S[j]? with
    | some (.dic kvs) => some (j, kvs)
    | _ => none
  | _ => none
/-- a shared dict -/
def isDic (d : D) (S : Sto) : Bool :=
  match d with
  | .ref i => match S[i]? with
    | some (.dic _) => true
    | some (.dit _) => true
    | some (.err _) => true
    | _ => false
  | _ => false
/-- a constant of the module that is data; a dict is none -/
def globD (o : Option D) : Option D :=
  match o with
  | some (.dic _) => none
  | o => o
/-- the entries of a constant dict -/
def dicG (o : Option D) : Option (List (Key × D)) :=
  match o with
  | some (.dic kvs) => some (kvs.map fun p => (p.1, .int p.2))
  | _ => none
def hasD (neg : Bool) (k : D) (kvs : Option (List (Key × D))) : Option Bool :=
  match kOf k, kvs with
  | some κ, some l => some (xor neg (valD l κ).isSome)
  | _, _ => none
def atD (k : D) (kvs : Option (List (Key × D))) : Option D :=
  match kOf k, kvs with
  | some κ, some l => valD l κ
  | _, _ => none
def getD2 (k z : D) (kvs : Option (List (Key × D))) : Option D :=
  match kOf k, kvs with
  | some κ, some l => some ((valD l κ).getD z)
  | _, _ => none
/-- a key that is a tuple of numbers -/
def kTo : D → Option (List Int)
  | .tup xs => dInts xs
  | _ => none
/-- a shared dict whose keys are tuples of numbers -/
def tdicOf (d : D) (S : Sto) : Option (List (List Int × D)) :=
  match d with
  | .ref i => match S[i]? with
    | some (.dit kvs) => some kvs
    | _ => none
  | _ => none
def hasX (neg : Bool) (k d : D) (S : Sto) : Option Bool :=
  match tdicOf d S with
  | some kvs => (kTo k).map fun κ => xor neg (valT kvs κ).isSome
  | none => hasD neg k (dicOfD d S)
def atX (k d : D) (S : Sto) : Option D :=
  match tdicOf d S with
  | some kvs => (kTo k).bind fun κ => valT kvs κ
  | none => atD k (dicOfD d S)
def getX (k z d : D) (S : Sto) : Option D :=
  match tdicOf d S with
  | some kvs => (kTo k).map fun κ => (valT kvs κ).getD z
  | none => getD2 k z (dicOfD d S)
def isDicX (d : D) (S : Sto) : Bool := (tdicOf d S).isSome || (dicOfD d S).isSome
/-- what a body may call, and how many turns a while may take -/
structure Cf where
  call : String → List D → Sto → Res Rv
  glob : String → Option D
  wf : Nat
def wipeS (sl : Slots) : List Nat → Slots
  | [] => sl
  | v :: vs => (wipeS sl vs).set v .emp
/-- within a comprehension no list of a name may be changed: such names are not seen there -/
def hideS (sl : Slots) : Slots := sl.map fun s => match s with
  | .own _ => .emp
  | s => s
/-- numbers, rising, each once -/
def insI (k : Int) : List Int → List Int
  | [] => [k]
  | x :: r => if k < x then k :: x :: r else if k = x then x :: r else x :: insI k r
def ssetI (l : List Int) : List Int := l.foldr insI []
def rngD (lo : Int) (n : Nat) : List D := (List.range n).map fun (i : Nat) => .int (lo + (i : Int))
def dnD (hi : Int) (n : Nat) : List D := (List.range n).map fun (i : Nat) => .int (hi + (i : Int) * -1)
def enumD (xs : List D) : List D := xs.zipIdx.map fun p => .tup [.int p.2, p.1]
def zipD (xs ys : List D) : List D := (xs.zip ys).map fun p => .tup [p.1, p.2]
def small62 (i : Int) : Bool := decide (-(2 ^ 62) ≤ i) && decide (i < 2 ^ 62)
/-- a comprehension's turns -/
def compL (f : D → List D → Sto → Res (List D)) : List D → List D → Sto → Res (List D)
  | [], acc, S => .ok acc S
  | x :: xs, acc, S => (f x acc S).bind fun acc' S' => compL f xs acc' S'
def addL (acc : List D) (d : D) (S : Sto) : Res (List D) := if acc.length < sizeLine then .ok (acc ++ [d]) S else .stuck
def Res.truth (r : Res Rv) : Res Bool := r.bind fun a S => Res.opt a.look.truth S
def Res.data (r : Res Rv) : Res D := r.bind fun a S => Res.opt a.toD S
def Res.int? (r : Res Rv) : Res Int := r.bind fun a S => match a.look with | .int i => .ok i S | _ => .stuck
/-- list(enumerate(a tuple)) -/
def lenumR (r : Res Rv) : Res Rv := r.data.bind fun d S1 => match d with
  | .tup xs => .ok (.fresh (.lst (enumD xs))) S1
  | _ => .stuck
/-- the parents of an exception's class -/
def parents : String → List String
  | "ValueError" => ["ValueError"]
  | "StintError" => ["StintError", "ValueError"]
  | c => [c, "StintError", "ValueError"]
def xIs (c d : String) : Bool := (parents c).contains d
/-- a refusal that lies -/
def errAt (d : D) (S : Sto) : Option Xn :=
  match d with
  | .ref i => match S[i]? with
    | some (.err x) => some x
    | _ => none
  | _ => none
def mkeR (c : String) (fs : List String) (ds : List D) (S : Sto) : Res Rv := if ds.length = fs.length then .ok (.val (.ref S.length)) (S ++ [.err ⟨c, fs.zip ds⟩]) else .stuck
/-- pairs of a key, a tuple of numbers, and a thing -/
def prsT : List D → Option (List (List Int × D))
  | [] => some []
  | .tup [k, v] :: r => match kTo k with
    | some ks => (prsT r).map ((ks, v) :: ·)
    | none => none
  | _ :: _ => none
def mrgT (ps : List (List Int × D)) : List (List Int × D) := ps.foldl (fun acc p => putT acc p.1 p.2) []
def dfromR (d : D) (S : Sto) : Res Rv :=
  match d with
  | .lst ds => match prsT ds with
    | some ps => .ok (.val (.ref S.length)) (S ++ [.dit (mrgT ps)])
    | none => .stuck
  | _ => .stuck
def kD : Key → D
  | .inl i => .int i
  | .inr x => .str x
def keysD (d : D) (S : Sto) : Option (List D) :=
  match d with
  | .ref i => match S[i]? with
    | some (.dic l) => some (l.map fun p => kD p.1)
    | _ => none
  | _ => none
mutual
def evE (F : Cf) : Ex → Slots → Sto → Res Rv
  | .var i, sl, S => match sl[i]? with
    | some (.val d) => .ok (.val d) S
    | some (.own c) => .ok (.own c) S
    | _ => .stuck
  | .int z, _, S => .ok (.val (.int z)) S
  | .bl b, _, S => .ok (.val (.bl b)) S
  | .non, _, S => .ok (.val .non) S
  | .str s, _, S => .ok (.val (.str (Str.ofString s))) S
  | .glob x, _, S => Res.opt ((globD (F.glob x)).map .val) S
  | .nop, _, S => .ok (.val (.bl true)) S
  | .dic ks, _, S => .ok (.val (.dic (ks.map fun p => (.inr (Str.ofString p.1), p.2)))) S
  | .bin o a b, sl, S => (evE F a sl S).bind fun x S1 => (evE F b sl S1).bind fun y S2 => Res.opt (opBin o x y) S2
  | .cmp o a b, sl, S => (evE F a sl S).bind fun x S1 => (evE F b sl S1).bind fun y S2 => Res.opt ((opCmp o x y).map fun k => .val (.bl k)) S2
  | .cmp2 o o' a b c, sl, S => (evE F a sl S).bind fun x S1 => (evE F b sl S1).bind fun y S2 => (Res.opt (opCmp o x y) S2).bind fun k S3 =>
      if k then (evE F c sl S3).bind fun z S4 => Res.opt ((opCmp o' y z).map fun k => .val (.bl k)) S4 else .ok (.val (.bl false)) S3
  | .and a b, sl, S => (evE F a sl S).bind fun x S1 => (Res.opt x.look.truth S1).bind fun k S2 => if k then evE F b sl S2 else .ok x S2
  | .or a b, sl, S => (evE F a sl S).bind fun x S1 => (Res.opt x.look.truth S1).bind fun k S2 => if k then .ok x S2 else evE F b sl S2
  | .not a, sl, S => (evE F a sl S).bind fun x S1 => (Res.opt x.look.truth S1).bind fun k S2 => .ok (.val (.bl (!k))) S2
  | .neg a, sl, S => (evE F a sl S).bind fun x S1 => match x.look with | .int i => .ok (.val (.int (-i))) S1 | _ => .stuck
  | .ife c a b, sl, S => (evE F c sl S).truth.bind fun k S1 => if k then evE F a sl S1 else evE F b sl S1
  | .tup es, sl, S => (evA F es sl S).bind fun ds S1 => if ds.length ≤ sizeLine then .ok (.val (.tup ds)) S1 else .stuck
  | .list es, sl, S => (evA F es sl S).bind fun ds S1 => if ds.length ≤ sizeLine then .ok (.fresh (.lst ds)) S1 else .stuck
  | .call f es, sl, S => (evA F es sl S).bind fun ds S1 => F.call f ds S1
  | .bi b es, sl, S => (evR F es sl S).bind fun rs S1 => Res.opt (opBi b rs) S1
  | .op o es, sl, S => (evR F es sl S).bind fun rs S1 => Res.opt (opX o rs) S1
  | .isin e _ ts, sl, S => (evE F e sl S).bind fun x S1 => if isDic x.look S1 then .stuck else .ok (.val (.bl (isIn x.look ts))) S1
  | .ix a i, sl, S => (evE F a sl S).bind fun x S1 => (evE F i sl S1).bind fun y S2 => Res.opt (opIx x y) S2
  | .sl a lo hi, sl, S => (evE F a sl S).bind fun x S1 => (evP F lo sl S1).bind fun l S2 => (evP F hi sl S2).bind fun h S3 => Res.opt (opSl x l h) S3
  | .rev a, sl, S => (evE F a sl S).bind fun x S1 => Res.opt (opRev x) S1
  | .lenr a, sl, S => (evE F a sl S).bind fun x S1 => match x.lookS S1 with
    | .lst xs => .ok (.val (.int xs.length)) S1
    | _ => .stuck
  | .tupr a, sl, S => (evE F a sl S).bind fun x S1 => match x.lookS S1 with
    | .lst xs => .ok (.val (.tup xs)) S1
    | _ => .stuck
  | .sset e, sl, S => (evE F e sl S).bind fun x S1 => match x.look with
    | .lst xs => match dInts xs with
      | some ns => if ns.length < 4000 ∧ (ssetI ns).length < 64 then .ok (.fresh (.lst ((ssetI ns).map D.int))) S1 else .stuck
      | none => .stuck
    | _ => .stuck
  | .lrng e, sl, S => (evE F e sl S).int?.bind fun i S1 => if 0 ≤ i ∧ i ≤ 16777216 then .ok (.fresh (.lst (rngD 0 i.toNat))) S1 else .stuck
  | .lenum e, sl, S => lenumR (evE F e sl S)
  | .dnew1 z b, _, S => .ok (.val (.ref S.length)) (S ++ [.dic [(.inl z, .bl b)]])
  | .dkeys e, sl, S => (evE F e sl S).bind fun r S1 => Res.opt ((keysD r.look S1).map fun l => .fresh (.lst l)) S1
  | .dfrom e, sl, S => (evE F e sl S).data.bind fun d S1 => dfromR d S1
  | .mke c fs es, sl, S => (evA F es sl S).bind fun ds S1 => mkeR c fs ds S1
  | .fldr e f, sl, S => (evE F e sl S).bind fun r S1 => Res.opt (((errAt r.look S1).bind fun x => x.fs.lookup f).map .val) S1
  | .isxr e c, sl, S => (evE F e sl S).bind fun r S1 => Res.opt ((errAt r.look S1).map fun x => .val (.bl (xIs x.cls c))) S1
  | .ixr a i, sl, S => (evE F a sl S).bind fun x S1 => (evE F i sl S1).bind fun y S2 => Res.opt (opIxD (x.lookS S2) (y.lookS S2)) S2
  | .cmpr o a b, sl, S => (evE F a sl S).bind fun x S1 => (evE F b sl S1).bind fun y S2 => Res.opt ((opCmpD o (x.lookS S2) (y.lookS S2)).map fun k => .val (.bl k)) S2
  | .shr e, sl, S => (evE F e sl S).bind fun r S1 => match r with
    | .fresh c => .ok (.val (.ref S1.length)) (S1 ++ [c])
    | _ => .stuck
  | .popr a k, sl, S => (evE F a sl S).bind fun x S1 => if (refAt x S1).isSome then (evP F k sl S1).bind fun k S2 => match refAt x S2 with
    | some (j, xs) => match popD xs k with
      | some (d, ys) => .ok (.val d) (S2.set j (.lst ys))
      | none => .stuck
    | none => .stuck
    else .stuck
  | .appr a e, sl, S => (evE F a sl S).bind fun x S1 => if (refAt x S1).isSome then (evE F e sl S1).data.bind fun d S2 => match refAt x S2 with
    | some (j, xs) => if xs.length < sizeLine then .ok (.val .non) (S2.set j (.lst (xs ++ [d]))) else .stuck
    | none => .stuck
    else .stuck
  | .dnew, _, S => .ok (.val (.ref S.length)) (S ++ [.dic []])
  | .dhas neg k d, sl, S => (evE F k sl S).bind fun x S1 => (evE F d sl S1).bind fun y S2 => Res.opt ((hasX neg x.look y.look S2).map fun b => .val (.bl b)) S2
  | .dat d k, sl, S => (evE F d sl S).bind fun y S1 => (evE F k sl S1).bind fun x S2 => Res.opt ((atX x.look y.look S2).map .val) S2
  | .dget d k z, sl, S => (evE F d sl S).bind fun y S1 => if isDicX y.look S1 then (evE F k sl S1).bind fun x S2 => (evE F z sl S2).data.bind fun w S3 => Res.opt ((getX x.look w y.look S3).map .val) S3
    else .stuck
  | .ghas neg k g, sl, S => (evE F k sl S).bind fun x S1 => Res.opt ((hasD neg x.look (dicG (F.glob g))).map fun b => .val (.bl b)) S1
  | .gat g k, sl, S => (evE F k sl S).bind fun x S1 => Res.opt ((atD x.look (dicG (F.glob g))).map .val) S1
  | .comp own tg it c elt, sl, S => (evI F it sl S).bind fun items S1 =>
      (compL (fun x acc S => match bindT tg x (wipeS sl (own.map (·.2))) with
        | none => .stuck
        | some sl2 => (evE F c sl2 S).truth.bind fun k S2 => if k then (evE F elt sl2 S2).data.bind fun d S3 => addL acc d S3 else .ok acc S2) items [] S1).noX.bind fun ds S2 => .ok (.fresh (.lst ds)) S2
  | .comp2 own tg it c vs1 tg1 it1 c1 elt, sl, S => (evI F it sl S).bind fun items S1 =>
      (compL (fun x acc S => match bindT tg x (wipeS (hideS sl) (own.map (·.2))) with
        | none => .stuck
        | some sl2 => (evE F c sl2 S).truth.bind fun k S2 => if k then (evI F it1 sl2 S2).bind fun items1 S3 =>
            compL (fun x acc S => match bindT tg1 x (wipeS sl2 vs1) with
              | none => .stuck
              | some sl3 => (evE F c1 sl3 S).truth.bind fun k S2 => if k then (evE F elt sl3 S2).data.bind fun d S3 => addL acc d S3 else .ok acc S2) items1 acc S3
          else .ok acc S2) items [] S1).noX.bind fun ds S2 => .ok (.fresh (.lst ds)) S2
/-- arguments: data -/
def evA (F : Cf) : Exs → Slots → Sto → Res (List D)
  | .nil, _, S => .ok [] S
  | .cons e es, sl, S => (evE F e sl S).data.bind fun d S1 => (evA F es sl S1).bind fun ds S2 => .ok (d :: ds) S2
/-- a builtin's arguments -/
def evR (F : Cf) : Exs → Slots → Sto → Res (List Rv)
  | .nil, _, S => .ok [] S
  | .cons e es, sl, S => (evE F e sl S).bind fun d S1 => (evR F es sl S1).bind fun ds S2 => .ok (d :: ds) S2
/-- what a loop walks -/
def evI (F : Cf) : Itx → Slots → Sto → Res (List D)
  | .val e, sl, S => (evE F e sl S).data.bind fun d S1 => Res.opt d.seq S1
  | .rng1 a, sl, S => (evE F a sl S).int?.bind fun i S1 => if small62 i then .ok (rngD 0 i.toNat) S1 else .stuck
  | .rng2 a b, sl, S => (evE F a sl S).int?.bind fun i S1 => (evE F b sl S1).int?.bind fun j S2 => if small62 i && small62 j then .ok (rngD i (j - i).toNat) S2 else .stuck
  | .rngd a b, sl, S => (evE F a sl S).int?.bind fun i S1 => (evE F b sl S1).int?.bind fun j S2 => if small62 i && small62 j then .ok (dnD i (i - j).toNat) S2 else .stuck
  | .enum e, sl, S => (evE F e sl S).data.bind fun d S1 => Res.opt (d.seq.map enumD) S1
  | .zip a b, sl, S => (evE F a sl S).data.bind fun x S1 => (evE F b sl S1).data.bind fun y S2 => match x, y with
    | .tup xs, .tup ys => .ok (zipD xs ys) S2
    | .lst xs, .lst ys => .ok (zipD xs ys) S2
    | .lst xs, .tup ys => .ok (zipD xs ys) S2
    | _, _ => .stuck
  | .look e, sl, S => (evE F e sl S).bind fun r S1 => Res.opt r.look.seq S1
/-- a part of a slice -/
def evP (F : Cf) : Exo → Slots → Sto → Res (Option Int)
  | .no, _, S => .ok none S
  | .yes e, sl, S => (evE F e sl S).int?.bind fun i S1 => .ok (some i) S1
end
mutual
inductive Su where
  | var (i : Nat) | int (z : Int) | bl (b : Bool) | non | str (s : String)
  | tup (es : Sues) | list (es : Sues)
  | fld (f : String) | isx (cs : List String) (one : Bool)
  | cmp (o : Cop) (a b : Su) | and (a b : Su) | or (a b : Su) | not (a : Su)
  | bi (b : Bi) (a : Su) | ix (a i : Su) | bin (o : Bop) (a b : Su)
inductive Sues where
  | nil
  | cons (e : Su) (es : Sues)
end
mutual
def evU (x : Xn) : Su → Slots → Sto → Res Rv
  | .var i, sl, S => match sl[i]? with
    | some (.val d) => .ok (.val d) S
    | _ => .stuck
  | .int z, _, S => .ok (.val (.int z)) S
  | .bl b, _, S => .ok (.val (.bl b)) S
  | .non, _, S => .ok (.val .non) S
  | .str s, _, S => .ok (.val (.str (Str.ofString s))) S
  | .tup es, sl, S => (evUs x es sl S).bind fun ds S1 => if ds.length ≤ sizeLine then .ok (.val (.tup ds)) S1 else .stuck
  | .list es, sl, S => (evUs x es sl S).bind fun ds S1 => if ds.length ≤ sizeLine then .ok (.fresh (.lst ds)) S1 else .stuck
  | .fld f, _, S => Res.opt ((x.fs.lookup f).map .val) S
  | .isx cs _, _, S => .ok (.val (.bl (cs.any fun d => xIs x.cls d))) S
  | .cmp o a b, sl, S => (evU x a sl S).bind fun u S1 => (evU x b sl S1).bind fun v S2 => Res.opt ((opCmp o u v).map fun k => .val (.bl k)) S2
  | .and a b, sl, S => (evU x a sl S).bind fun u S1 => (Res.opt u.look.truth S1).bind fun k S2 => if k then evU x b sl S2 else .ok u S2
  | .or a b, sl, S => (evU x a sl S).bind fun u S1 => (Res.opt u.look.truth S1).bind fun k S2 => if k then .ok u S2 else evU x b sl S2
  | .not a, sl, S => (evU x a sl S).bind fun u S1 => (Res.opt u.look.truth S1).bind fun k S2 => .ok (.val (.bl (!k))) S2
  | .bi b a, sl, S => (evU x a sl S).bind fun u S1 => Res.opt (opBi b [u]) S1
  | .ix a i, sl, S => (evU x a sl S).bind fun u S1 => (evU x i sl S1).bind fun v S2 => Res.opt (opIx u v) S2
  | .bin o a b, sl, S => (evU x a sl S).bind fun u S1 => (evU x b sl S1).bind fun v S2 => Res.opt (opBin o u v) S2
def evUs (x : Xn) : Sues → Slots → Sto → Res (List D)
  | .nil, _, S => .ok [] S
  | .cons e es, sl, S => (evU x e sl S).data.bind fun d S1 => (evUs x es sl S1).bind fun ds S2 => .ok (d :: ds) S2
end
mutual
inductive Ss where
  | asg (i : Nat) (e : Su) | ret (e : Su) | ife (c : Su) (a b : Sus) | pass
inductive Sus where
  | nil
  | cons (s : Ss) (ss : Sus)
end
mutual
inductive Sx where
  | asg (t : Tg) (e : Ex)
  | asgL (t : Tgs) (e : Ex)
  | aug (i : Nat) (o : Bop) (e : Ex)
  | setix (i : Nat) (k e : Ex)
  | app (i : Nat) (e : Ex)
  | ins0 (i : Nat) (e : Ex)
  | ext (i : Nat) (e : Ex) | setixr (a k e : Ex)
  | augix (i : Nat) (k : Ex) (o : Bop) (e : Ex) | rem (i : Nat) (e : Ex) | dput (d k e : Ex)
  | expr (e : Ex)
  | ret (e : Ex) | retv (i : Nat) | retN
  | ife (c : Ex) (a b : Sxs)
  | whl (c : Ex) (b : Sxs)
  | loop (t : Tg) (it : Itx) (b : Sxs)
  | brk | cont | pass | bad
  | frz (i : Nat) | shr (i : Nat)
  | raise (c : String) (fs : List String) (es : Exs)
  | tryx (b : Sxs) (hs : Hds)
inductive Sxs where
  | nil
  | cons (s : Sx) (ss : Sxs)
/-- except clauses: a class, the name's slot, the suite -/
inductive Hds where
  | nil
  | cons (c : String) (i : Option Nat) (s : Sus) (hs : Hds)
end
inductive Fl where
  | nx | bk | ct | rt (r : Rv)
deriving Inhabited
def whlN (c : Slots → Sto → Res Bool) (b : Slots → Sto → Res (Fl × Slots)) : Nat → Slots → Sto → Res (Fl × Slots)
  | 0, _, _ => .stuck
  | n + 1, sl, S => (c sl S).bind fun k S1 => if k then (b sl S1).bind fun p S2 => match p.1 with
      | .nx => whlN c b n p.2 S2
      | .ct => whlN c b n p.2 S2
      | .bk => .ok (.nx, p.2) S2
      | .rt r => .ok (.rt r, p.2) S2
    else .ok (.nx, sl) S1
def loopL (t : Tg) (b : Slots → Sto → Res (Fl × Slots)) : List D → Slots → Sto → Res (Fl × Slots)
  | [], sl, S => .ok (.nx, sl) S
  | x :: xs, sl, S => match bindT t x sl with
    | none => .stuck
    | some sl1 => (b sl1 S).bind fun p S2 => match p.1 with
      | .nx => loopL t b xs p.2 S2
      | .ct => loopL t b xs p.2 S2
      | .bk => .ok (.nx, p.2) S2
      | .rt r => .ok (.rt r, p.2) S2
/-- a new value in a name -/
def asgV (i : Nat) (r : Rv) (sl : Slots) : Option Slots :=
  match r with
  | .val d => some (sl.set i (.val d))
  | .fresh c => some (sl.set i (.own c))
  | .own _ => none
/-- the items of a list, shared or not -/
def listOf (r : Rv) (S : Sto) : Option (List D) :=
  match r with
  | .val (.ref i) => match S[i]? with
    | some (.lst xs) => some xs
    | _ => none
  | .val (.lst xs) => some xs
  | .fresh (.lst xs) => some xs
  | .own (.lst xs) => some xs
  | _ => none
/-- a changed list in a name: its own one, or the shared one that it holds -/
def chg (i : Nat) (f : List D → Option (List D)) (sl : Slots) (S : Sto) : Option (Slots × Sto) :=
  match sl[i]? with
  | some (.own (.lst xs)) => (f xs).map fun ys => (sl.set i (.own (.lst ys)), S)
  | some (.val (.ref j)) => match S[j]? with
    | some (.lst xs) => (f xs).map fun ys => (sl, S.set j (.lst ys))
    | _ => none
  | _ => none
/-- the list that a name holds, its own or the shared one -/
def listAt (i : Nat) (sl : Slots) (S : Sto) : Option (List D) :=
  match sl[i]? with
  | some (.own (.lst xs)) => some xs
  | some (.val (.ref j)) => match S[j]? with
    | some (.lst xs) => some xs
    | _ => none
  | _ => none
/-- a name holds a list, its own or a shared one -/
def lstAt (i : Nat) (sl : Slots) (S : Sto) : Bool :=
  match sl[i]? with
  | some (.own (.lst _)) => true
  | some (.val (.ref j)) => match S[j]? with
    | some (.lst _) => true
    | _ => false
  | _ => false
def setD (xs : List D) (k : Int) (d : D) : Option (List D) := (ixN xs.length k).map fun j => xs.set j d
def remD (xs : List D) (d : D) : Option (List D) :=
  match dInts xs, d with
  | some ns, .int k => if k ∈ ns ∧ ns.length ≤ 16777216 then some ((ns.erase k).map D.int) else none
  | _, _ => none
def insD (xs : List D) (d : D) : Option (List D) := if xs.length < sizeLine then some (d :: xs) else none
def appD (xs : List D) (d : D) : Option (List D) := if xs.length < sizeLine then some (xs ++ [d]) else none
def extD (xs ys : List D) : Option (List D) := if xs.length + ys.length ≤ sizeLine then some (xs ++ ys) else none
mutual
def exU (x : Xn) : Ss → Slots → Sto → Res (Fl × Slots)
  | .asg i e, sl, S => (evU x e sl S).bind fun r S1 => Res.opt ((asgV i r sl).map fun s => (.nx, s)) S1
  | .ret e, sl, S => (evU x e sl S).bind fun r S1 => match r with
    | .own _ => .stuck
    | r => .ok (.rt r, sl) S1
  | .ife c a b, sl, S => (evU x c sl S).truth.bind fun k S1 => if k then exUs x a sl S1 else exUs x b sl S1
  | .pass, sl, S => .ok (.nx, sl) S
def exUs (x : Xn) : Sus → Slots → Sto → Res (Fl × Slots)
  | .nil, sl, S => .ok (.nx, sl) S
  | .cons s ss, sl, S => (exU x s sl S).bind fun p S1 => match p.1 with
    | .nx => exUs x ss p.2 S1
    | f => .ok (f, p.2) S1
end
/-- the name of a clause goes behind its suite -/
def goneS (i : Option Nat) (p : Fl × Slots) : Fl × Slots :=
  match i with
  | some i => (p.1, p.2.set i .emp)
  | none => p
def fitS (i : Option Nat) (sl : Slots) : Slots :=
  match i with
  | some i => sl.set i .emp
  | none => sl
def okS (i : Option Nat) (sl : Slots) : Bool :=
  match i with
  | some i => decide (i < sl.length)
  | none => true
/-- the first clause that fits -/
def handle (x : Xn) (sl : Slots) (S : Sto) : Hds → Res (Fl × Slots)
  | .nil => .exc x S
  | .cons c i s hs => if xIs x.cls c then (if okS i sl then (exUs x s (fitS i sl) S).noX.bind fun p S1 => .ok (goneS i p) S1 else .stuck) else handle x sl S hs
mutual
def exS (F : Cf) : Sx → Slots → Sto → Res (Fl × Slots)
  | .asg (.nm i) e, sl, S => (evE F e sl S).bind fun r S1 => Res.opt ((asgV i r sl).map fun s => (.nx, s)) S1
  | .asg (.tup ts) e, sl, S => (evE F e sl S).data.bind fun d S1 => Res.opt ((bindT (.tup ts) d sl).map fun s => (.nx, s)) S1
  | .asgL ts e, sl, S => (evE F e sl S).bind fun r S1 => match listOf r S1 with
    | some xs => Res.opt ((bindTs ts xs sl).map fun s => (.nx, s)) S1
    | none => .stuck
  | .aug i o e, sl, S => match sl[i]? with
    | some (.val (.int a)) => (evE F e sl S).bind fun r S1 => match r.look with
      | .int b => Res.opt ((opBin o (.val (.int a)) (.val (.int b))).bind fun r => (asgV i r sl).map fun s => (.nx, s)) S1
      | _ => .stuck
    | _ => .stuck
  | .setix i k e, sl, S => (evE F e sl S).data.bind fun d S1 => if lstAt i sl S1 then (evE F k sl S1).int?.bind fun k S2 => match chg i (setD · k d) sl S2 with
    | some (sl', S3) => .ok (.nx, sl') S3
    | none => .stuck
    else .stuck
  | .app i e, sl, S => if lstAt i sl S then (evE F e sl S).data.bind fun d S1 => match chg i (appD · d) sl S1 with
    | some (sl', S3) => .ok (.nx, sl') S3
    | none => .stuck
    else .stuck
  | .ins0 i e, sl, S => if lstAt i sl S then (evE F e sl S).data.bind fun d S1 => match chg i (insD · d) sl S1 with
    | some (sl', S3) => .ok (.nx, sl') S3
    | none => .stuck
    else .stuck
  | .ext i e, sl, S => if lstAt i sl S then (evE F e sl S).bind fun r S1 => match r.look.seq with
      | some ys => match chg i (extD · ys) sl S1 with
        | some (sl', S3) => .ok (.nx, sl') S3
        | none => .stuck
      | none => .stuck
    else .stuck
  | .setixr a k e, sl, S => (evE F e sl S).data.bind fun d S1 => (evE F a sl S1).bind fun x S2 => (evE F k sl S2).int?.bind fun k S3 => match refAt x S3 with
    | some (j, xs) => match setD xs k d with
      | some ys => .ok (.nx, sl) (S3.set j (.lst ys))
      | none => .stuck
    | none => .stuck
  | .augix i k o e, sl, S => if lstAt i sl S then (evE F k sl S).int?.bind fun k S1 => match (listAt i sl S1).bind fun xs => ixD xs k with
      | some (.int a) => (evE F e sl S1).int?.bind fun b S2 => match opBin o (.val (.int a)) (.val (.int b)) with
        | some (.val d) => match chg i (setD · k d) sl S2 with
          | some (sl', S3) => .ok (.nx, sl') S3
          | none => .stuck
        | _ => .stuck
      | _ => .stuck
    else .stuck
  | .rem i e, sl, S => if lstAt i sl S then (evE F e sl S).data.bind fun d S1 => match chg i (remD · d) sl S1 with
    | some (sl', S3) => .ok (.nx, sl') S3
    | none => .stuck
    else .stuck
  | .dput d k e, sl, S => (evE F e sl S).data.bind fun w S1 => (evE F d sl S1).bind fun y S2 => (evE F k sl S2).bind fun x S3 => match kOf x.look, dicAt y S3 with
    | some κ, some (j, kvs) => if kvs.length < sizeLine then .ok (.nx, sl) (S3.set j (.dic (putD kvs κ w))) else .stuck
    | _, _ => .stuck
  | .expr e, sl, S => (evE F e sl S).bind fun _ S1 => .ok (.nx, sl) S1
  | .ret e, sl, S => (evE F e sl S).bind fun r S1 => match r with
    | .own _ => .stuck
    | r => .ok (.rt r, sl) S1
  | .retv i, sl, S => match sl[i]? with
    | some (.val d) => .ok (.rt (.val d), sl) S
    | some (.own c) => .ok (.rt (.fresh c), sl) S
    | _ => .stuck
  | .retN, sl, S => .ok (.rt (.val .non), sl) S
  | .ife c a b, sl, S => (evE F c sl S).truth.bind fun k S1 => if k then exB F a sl S1 else exB F b sl S1
  | .whl c b, sl, S => whlN (fun sl S => (evE F c sl S).truth) (exB F b) F.wf sl S
  | .loop t it b, sl, S => (evI F it sl S).bind fun items S1 => loopL t (exB F b) items sl S1
  | .brk, sl, S => .ok (.bk, sl) S
  | .cont, sl, S => .ok (.ct, sl) S
  | .pass, sl, S => .ok (.nx, sl) S
  | .bad, _, _ => .stuck
  | .frz i, sl, S => match sl[i]? with
    | some (.own c) => .ok (.nx, sl.set i (.val c.frz)) S
    | some (.val _) => .ok (.nx, sl) S
    | _ => .stuck
  | .shr i, sl, S => match sl[i]? with
    | some (.own c) => .ok (.nx, sl.set i (.val (.ref S.length))) (S ++ [c])
    | _ => .stuck
  | .raise c fs es, sl, S => (evA F es sl S).bind fun ds S1 => if ds.length = fs.length then .exc ⟨c, fs.zip ds⟩ S1 else .stuck
  | .tryx b hs, sl, S => match exB F b sl S with
    | .exc x S1 => handle x sl S1 hs
    | r => r
def exB (F : Cf) : Sxs → Slots → Sto → Res (Fl × Slots)
  | .nil, sl, S => .ok (.nx, sl) S
  | .cons s ss, sl, S => (exS F s sl S).bind fun p S1 => match p.1 with
    | .nx => exB F ss p.2 S1
    | f => .ok (f, p.2) S1
end
/-- a def: how many parameters, its names (the parameters first), its body -/
structure Fn where
  ar : Nat
  names : List String
  body : Sxs
def startS (d : Fn) (as : List D) : Slots := as.map .val ++ List.replicate (d.names.length - d.ar) .emp
def outOf (r : Res (Fl × Slots)) : Res Rv := r.bind fun p S => match p.1 with
  | .nx => .ok (.val .non) S
  | .rt r => .ok r S
  | _ => .stuck
def callN (T : String → Option Fn) (G : String → Option D) (wf : Nat) : Nat → String → List D → Sto → Res Rv
  | 0, _, _, _ => .stuck
  | n + 1, f, as, S => match T f with
    | some d => if as.length = d.ar then outOf (exB ⟨callN T G wf n, G, wf⟩ d.body (startS d as) S) else .stuck
    | none => .stuck
end Px
set_option Elab.async false
set_option linter.all false
set_option maxRecDepth 100000
set_option maxHeartbeats 4000000
namespace Px
open PySem PySem.Spec PyProof.Rows L2
abbrev sO (x : String) : Str := Str.ofString x
/-- every class of a refusal, and what its instances hold -/
def xtab : List (String × List String) := [("StintError", []), ("Short", ["at", "lacks"]), ("BadBook", ["place", "why"]), ("NoPlace", ["place"]), ("TooMany", ["most"]), ("NoOrder", []), ("NoMove", []), ("BadCompany", []), ("NoStanding", []),
  ("NoWay", ["way"]), ("NoPurse", ["purse"]), ("NoPart", ["place"]), ("NoNumber", ["number"]), ("Long", []), ("Doomed", ["lacks"]), ("NoStretch", []), ("Begun", ["place"]), ("Nothing", []), ("NoText", ["at"])]
def clsN (c : String) : Bool := xtab.any fun p => p.1 == c
def fieldsOf (c : String) : List String := (xtab.lookup c).getD []
theorem sO_inj {c d : String} (hc : clsN c = true) (hd : clsN d = true) (h : sO c = sO d) : c = d := by
  have key : (xtab.all fun p => xtab.all fun q => !decide (sO p.1 = sO q.1) || p.1 == q.1) = true := by decide +kernel
  unfold clsN at hc hd
  obtain ⟨p, hp, e⟩ := List.any_eq_true.mp hc
  obtain ⟨q, hq, e2⟩ := List.any_eq_true.mp hd
  have e := beq_iff_eq.mp e
  have e2 := beq_iff_eq.mp e2
  subst e e2
  have k1 := List.all_eq_true.mp (List.all_eq_true.mp key p hp) q hq
  rw [decide_eq_true h] at k1
  exact beq_iff_eq.mp (by simpa using k1)
/-- the classes above -/
def MroOk (K : PySem.W.Frag) (c : String) (bm : List Value) : Prop :=
  (c = "StintError" ∧ bm = PySem.HandSPX.veTail) ∨ (c ≠ "StintError" ∧ ∃ B, bm = .ref B :: PySem.HandSPX.veTail ∧ PySem.W.nsIn K mainGlobals (sO "StintError") = some (some (.ref B)) ∧ (PySem.W.clsIn K B).map (·.name) = some (sO "StintError"))
/-- a class as it is written -/
structure ClsK (K : PySem.W.Frag) (c : String) (C : Addr) : Prop where
  nm : clsN c = true
  ns : PySem.W.nsIn K mainGlobals (sO c) = some (some (.ref C))
  cls : ∃ q N bs bm sn sub ab col dd k0 k1 k2 k3 k5, K.lookup C = some (excClassObj (sO c) q C N bs bm true sn sub ab col dd k0 k1 k2 k3 k5 "ValueError.__new__") ∧ MroOk K c bm
  sa : PySem.W.findIn K (.ref C) "__setattr__" = some (some (.builtin "object.__setattr__"))
  ga : PySem.W.findIn K (.ref C) "__getattribute__" = some (some (.builtin "BaseException.__getattribute__"))
  gg : PySem.W.findIn K (.ref C) "__getattr__" = some none
  kC : PySem.W.keepIn K (.ref C) = true
  ac : PySem.W.findIn K (.ref C) "__class__" = some (some (.builtin "object.__class__"))
  hn : PySem.W.specialIn K (.builtin "object.__class__") "__get__" = some (some (.builtin "getset_descriptor.__get__"))
  ht : PySem.W.takesIn K (.builtin "object.__class__") = some true
  fs : ∀ f ∈ fieldsOf c, PySem.W.findIn K (.ref C) (sO f) = some none
section
variable {K : PySem.W.Frag} {c d : String} {C D : Addr}
theorem ClsK.clsIn (h : ClsK K c C) : ∃ cd bm, PySem.W.clsIn K C = some cd ∧ cd.name = sO c ∧ cd.mro = .ref C :: bm ∧ cd.hasDict = true ∧ MroOk K c bm := by
  obtain ⟨q, N, bs, bm, sn, sub, ab, col, dd, k0, k1, k2, k3, k5, hC, hm⟩ := h.cls
  exact ⟨_, bm, by unfold PySem.W.clsIn; rw [hC], rfl, rfl, rfl, hm⟩
theorem ClsK.typeIn (h : ClsK K c C) : PySem.W.typeIn K (.ref C) = some (.type "type") := by
  obtain ⟨q, N, bs, bm, sn, sub, ab, col, dd, k0, k1, k2, k3, k5, hC, hm⟩ := h.cls
  show (K.lookup C).map (·.cls) = _
  rw [hC]
  rfl
theorem ClsK.mroT (h : ClsK K c C) {T : String} {b : Bool} (hb : PySem.HandSPX.veTail.contains (.type T) = b) : PySem.W.subIn K (.ref C) (.type T) = some b := by
  obtain ⟨cd, bm, h1, h2, h3, h4, hm⟩ := h.clsIn
  show PySem.W.mroIn K C (.type T) = _
  unfold PySem.W.mroIn
  rw [h1, Option.bind_some, h3]
  rw [if_neg (by simp)]
  congr 1
  have e1 : (Value.type T == Value.ref C) = false := by
    rw [beq_eq_false_iff_ne]; exact fun z => nomatch z
  rw [List.contains_cons, e1, Bool.false_or]
  rcases hm with ⟨_, rfl⟩ | ⟨_, B, rfl, _, _⟩
  · exact hb
  · have e2 : (Value.type T == Value.ref B) = false := by
      rw [beq_eq_false_iff_ne]; exact fun z => nomatch z
    rw [List.contains_cons, e2, Bool.false_or]
    exact hb
theorem ClsK.base (h : ClsK K c C) : PySem.W.subIn K (.ref C) (.type "BaseException") = some true := h.mroT (by decide +kernel)
theorem ClsK.object (h : ClsK K c C) : PySem.W.mroIn K C (.type "object") = some true := h.mroT (T := "object") (by decide +kernel)
theorem ClsK.hasDict (h : ClsK K c C) : PySem.W.hasDictIn K C = true := by
  obtain ⟨cd, bm, h1, h2, h3, h4, hm⟩ := h.clsIn
  unfold PySem.W.hasDictIn
  rw [h1]
  exact h4
theorem ClsK.oex (h : ClsK K c C) : OexC K C := by
  refine ⟨?_, h.sa, h.base, h.typeIn, h.kC⟩
  obtain ⟨q, N, bs, bm, sn, sub, ab, col, dd, k0, k1, k2, k3, k5, hC, hm⟩ := h.cls
  refine ⟨_, q, N, bs, bm, sn, sub, ab, col, dd, k0, k1, k2, k3, k5, hC, ?_⟩
  rcases hm with ⟨_, rfl⟩ | ⟨_, B, rfl, _, _⟩ <;> rfl
theorem ClsK.xf (h : ClsK K c C) : XfC K C := ⟨h.ga, h.gg, h.base, h.hasDict⟩
theorem parents_eq (hc : clsN c = true) (hn : c ≠ "StintError") : parents c = [c, "StintError", "ValueError"] := by
  unfold parents
  split
  · exact absurd hc (by decide)
  · exact absurd rfl hn
  · rfl
theorem ClsK.subIn (h : ClsK K c C) (k : ClsK K d D) : PySem.W.subIn K (.ref C) (.ref D) = some (xIs c d) := by
  obtain ⟨cd, bm, h1, h2, h3, h4, hm⟩ := h.clsIn
  obtain ⟨cd2, bm2, k1, k2, k3, k4, km⟩ := k.clsIn
  have hd : d ≠ "ValueError" := fun z => by subst z; exact absurd k.nm (by decide)
  show PySem.W.mroIn K C (.ref D) = _
  unfold PySem.W.mroIn
  rw [h1, Option.bind_some, h3]
  rw [if_neg (by simp)]
  congr 1
  have eT : PySem.HandSPX.veTail.contains (Value.ref D) = false := by
    rw [Bool.eq_false_iff]; intro z
    simp at z
  have e0 : (Value.ref D == Value.ref C) = decide (c = d) := by
    by_cases q : c = d
    · subst q
      have := h.ns.symm.trans k.ns
      cases this
      simp
    · rw [decide_eq_false q, beq_eq_false_iff_ne]
      intro z
      cases z
      rw [h1] at k1
      cases k1
      exact q (sO_inj h.nm k.nm (h2.symm.trans k2))
  rw [List.contains_cons, e0]
  rcases hm with ⟨q, rfl⟩ | ⟨q, B, rfl, hB, hN⟩
  · subst q
    rw [eT, Bool.or_false]
    unfold xIs
    show _ = (["StintError", "ValueError"] : List String).contains d
    by_cases q2 : "StintError" = d
    · subst q2; decide
    · rw [decide_eq_false q2]
      simp [List.contains_cons, hd, Ne.symm q2]
  · have e1 : (Value.ref D == Value.ref B) = decide (d = "StintError") := by
      by_cases q2 : d = "StintError"
      · subst q2
        have := hB.symm.trans k.ns
        cases this
        simp
      · rw [decide_eq_false q2, beq_eq_false_iff_ne]
        intro z
        cases z
        rw [k1] at hN
        have e := Option.some.inj hN
        exact q2 (sO_inj k.nm (by decide) (k2.symm.trans e))
    rw [List.contains_cons, e1, eT, Bool.or_false]
    unfold xIs
    rw [parents_eq h.nm q]
    simp [List.contains_cons, hd, eq_comm, Bool.beq_eq_decide_eq]
theorem ClsK.isCls (h : ClsK K c C) : (PySem.W.clsIn K C).isSome = true := by
  obtain ⟨cd, bm, h1, _⟩ := h.clsIn
  rw [h1]; rfl
theorem ClsK.kitCls (h : ClsK K c C) (k : ClsK K d D) : PySem.W.kitCls K (.ref C) (.ref D) = some (xIs c d) := by
  unfold PySem.W.kitCls
  dsimp only
  rw [k.isCls, k.typeIn]
  rw [if_pos (by decide)]
  exact h.subIn k
theorem xIs_self (h : clsN c = true) : xIs c c = true := by
  unfold xIs
  by_cases e : c = "StintError"
  · subst e; decide
  · rw [parents_eq h e]; simp
theorem ClsK.kitOne (h : ClsK K c C) (k : ClsK K d D) : PySem.W.kitOne K (.ref C) (.ref D) = some (xIs c d) := by
  unfold PySem.W.kitOne
  by_cases e : C = D
  · subst e
    obtain ⟨cd, bm, h1, h2, _⟩ := h.clsIn
    obtain ⟨cd2, bm2, k1, k2, _⟩ := k.clsIn
    rw [h1] at k1
    cases k1
    have := sO_inj h.nm k.nm (h2.symm.trans k2)
    subst this
    rw [if_pos (by simp), xIs_self h.nm]
  · rw [if_neg (by simpa using e)]
    exact h.kitCls k
theorem ClsK.exmOne (h : ClsK K c C) (k : ClsK K d D) : PySem.W.exmOne K (.ref C) (.ref D) = some (xIs c d) := by
  unfold PySem.W.exmOne
  rw [k.base, if_pos (by decide)]
  exact h.kitCls k
theorem xIs_VE (h : clsN c = true) : xIs c "ValueError" = true := by
  unfold xIs
  by_cases e : c = "StintError"
  · subst e; decide
  · rw [parents_eq h e]; simp
theorem kitMeta_VE : PySem.W.kitMeta "ValueError" = true := by decide +kernel
theorem ClsK.kitVE (h : ClsK K c C) : PySem.W.kitOne K (.ref C) (.type "ValueError") = some (xIs c "ValueError") := by
  unfold PySem.W.kitOne
  rw [if_neg (by intro z; exact nomatch (beq_iff_eq.mp z))]
  unfold PySem.W.kitCls
  dsimp only
  rw [kitMeta_VE, if_pos rfl, xIs_VE h.nm]
  exact h.mroT (by decide +kernel)
theorem ve_base : PySem.W.subIn K (.type "ValueError") (.type "BaseException") = some true := by
  show (fastBuiltinMro "ValueError").map (·.contains (.type "BaseException")) = _
  decide +kernel
theorem ClsK.exmVE (h : ClsK K c C) : PySem.W.exmOne K (.ref C) (.type "ValueError") = some (xIs c "ValueError") := by
  unfold PySem.W.exmOne
  rw [ve_base, if_pos (by decide)]
  unfold PySem.W.kitCls
  dsimp only
  rw [kitMeta_VE, if_pos rfl, xIs_VE h.nm]
  exact h.mroT (by decide +kernel)
end
end Px
set_option Elab.async false
set_option linter.all false
set_option maxRecDepth 100000
namespace Px
open PySem L2
/-- a dict of the written part -/
def KDic (K : PySem.W.Frag) (w : World) (a : Addr) (kvs : List (Key × Int)) : Prop :=
  (a == sysModules) = false ∧ ∃ vs, KV (kvs.map fun p => (p.1, V.int p.2)) vs ∧ ∀ (P : Program) (h : Heap), K.In h → h.DictOf (mixKind P w) a vs
section
variable (K : PySem.W.Frag) (sa : List Addr) (R : Hp)
mutual
/-- data d lies at the value v: R is the part of the heap that never changes, sa tells where the shared objects lie -/
inductive Rep : D → V → Prop
  | non : Rep .non .non
  | bl (b : Bool) : Rep (.bl b) (.bl b)
  | int (i : Int) : Rep (.int i) (.int i)
  | str (s : Str) : Rep (.str s) (.str s)
  | tup {a : Addr} {xs : List D} {vs : List V} : SqT K R a vs → xs.length ≤ sizeLine → Reps xs vs → Rep (.tup xs) (.ref a)
  | lst {a : Addr} {xs : List D} {vs : List V} : R a = some (.lst vs) → xs.length ≤ sizeLine → Reps xs vs → Rep (.lst xs) (.ref a)
  | scr {a : Addr} {xs : List D} {vs : List V} : SqL K R a vs → xs.length ≤ sizeLine → Reps xs vs → Rep (.scr xs) (.ref a)
  | dic {a : Addr} {kvs : List (Key × Int)} : R a = some (.dK (kvs.map fun p => (p.1, V.int p.2))) → Rep (.dic kvs) (.ref a)
  | ref {i : Nat} {a : Addr} : sa[i]? = some a → Rep (.ref i) (.ref a)
inductive Reps : List D → List V → Prop
  | nil : Reps [] []
  | cons {d : D} {v : V} {ds : List D} {vs : List V} : Rep d v → Reps ds vs → Reps (d :: ds) (v :: vs)
end
end
theorem SqT.mono {K : PySem.W.Frag} {R R' : Hp} {a : Addr} {xs : List V} (h : SqT K R a xs) (m : ∀ a o, R a = some o → R' a = some o) : SqT K R' a xs := by
  rcases h with (h | ⟨o, h⟩) | h
  · exact .inl (.inl (m _ _ h))
  · exact .inl (.inr ⟨o, m _ _ h⟩)
  · exact .inr h
theorem SqL.mono {K : PySem.W.Frag} {R R' : Hp} {a : Addr} {xs : List V} (h : SqL K R a xs) (m : ∀ a o, R a = some o → R' a = some o) : SqL K R' a xs := by
  rcases h with (h | ⟨o, h⟩) | h
  · exact .inl (.inl (m _ _ h))
  · exact .inl (.inr ⟨o, m _ _ h⟩)
  · exact .inr h
section
variable {K : PySem.W.Frag} {sa sa' : List Addr} {R R' : Hp}
theorem Reps.length : ∀ {xs : List D} {vs : List V}, Reps K sa R xs vs → xs.length = vs.length
  | [], _, h => by cases h; rfl
  | d :: ds, _, h => by cases h with | cons _ t => simp [Reps.length t]
theorem Reps.get : ∀ {xs : List D} {vs : List V} {i : Nat} {d : D}, Reps K sa R xs vs → xs[i]? = some d → ∃ v, vs[i]? = some v ∧ Rep K sa R d v
  | [], _, _, _, h, e => by simp at e
  | x :: xs, _, 0, d, h, e => by
    cases h with | cons r t => simp at e; subst e; exact ⟨_, rfl, r⟩
  | x :: xs, _, i + 1, d, h, e => by
    cases h with | cons r t => obtain ⟨v, h1, h2⟩ := Reps.get (i := i) t (by simpa using e); exact ⟨v, by simpa using h1, h2⟩
theorem Reps.append : ∀ {xs ys : List D} {vs us : List V}, Reps K sa R xs vs → Reps K sa R ys us → Reps K sa R (xs ++ ys) (vs ++ us)
  | [], _, _, _, h, q => by cases h; exact q
  | d :: ds, _, _, _, h, q => by cases h with | cons r t => exact .cons r (Reps.append t q)
theorem Reps.one {d : D} {v : V} (h : Rep K sa R d v) : Reps K sa R [d] [v] := .cons h .nil
theorem Reps.drop : ∀ {xs : List D} {vs : List V} (n : Nat), Reps K sa R xs vs → Reps K sa R (xs.drop n) (vs.drop n)
  | _, _, 0, h => h
  | [], _, n + 1, h => by cases h; exact .nil
  | d :: ds, _, n + 1, h => by cases h with | cons r t => exact Reps.drop n t
theorem Reps.take : ∀ {xs : List D} {vs : List V} (n : Nat), Reps K sa R xs vs → Reps K sa R (xs.take n) (vs.take n)
  | _, _, 0, h => by simpa using Reps.nil
  | [], _, n + 1, h => by cases h; simpa using Reps.nil
  | d :: ds, _, n + 1, h => by cases h with | cons r t => exact .cons r (Reps.take n t)
theorem Reps.reverse : ∀ {xs : List D} {vs : List V}, Reps K sa R xs vs → Reps K sa R xs.reverse vs.reverse
  | [], _, h => by cases h; exact .nil
  | d :: ds, _, h => by
    cases h with | cons r t => rw [List.reverse_cons, List.reverse_cons]; exact (Reps.reverse t).append (.one r)
theorem Reps.set : ∀ {xs : List D} {vs : List V} {d : D} {v : V} (n : Nat), Reps K sa R xs vs → Rep K sa R d v → Reps K sa R (xs.set n d) (vs.set n v)
  | [], _, _, _, n, h, r => by cases h; exact .nil
  | d :: ds, _, _, _, 0, h, r => by cases h with | cons _ t => exact .cons r t
  | d :: ds, _, _, _, n + 1, h, r => by cases h with | cons q t => exact .cons q (Reps.set n t r)
theorem Reps.flatten_replicate {xs : List D} {vs : List V} (h : Reps K sa R xs vs) : ∀ n : Nat, Reps K sa R (List.replicate n xs).flatten (List.replicate n vs).flatten
  | 0 => .nil
  | n + 1 => by rw [List.replicate_succ, List.replicate_succ, List.flatten_cons, List.flatten_cons]; exact h.append (Reps.flatten_replicate h n)
mutual
theorem Rep.mono (mr : ∀ a o, R a = some o → R' a = some o) (ms : ∀ (i : Nat) a, sa[i]? = some a → sa'[i]? = some a) : ∀ {d : D} {v : V}, Rep K sa R d v → Rep K sa' R' d v
  | .non, _, h => by cases h; exact .non
  | .bl _, _, h => by cases h; exact .bl _
  | .int _, _, h => by cases h; exact .int _
  | .str _, _, h => by cases h; exact .str _
  | .tup xs, _, h => by cases h with | tup a l r => exact .tup (SqT.mono a mr) l (Reps.mono mr ms r)
  | .lst xs, _, h => by cases h with | lst a l r => exact .lst (mr _ _ a) l (Reps.mono mr ms r)
  | .scr xs, _, h => by cases h with | scr a l r => exact .scr (SqL.mono a mr) l (Reps.mono mr ms r)
  | .dic _, _, h => by cases h with | dic a => exact .dic (mr _ _ a)
  | .ref _, _, h => by cases h with | ref e => exact .ref (ms _ _ e)
theorem Reps.mono (mr : ∀ a o, R a = some o → R' a = some o) (ms : ∀ (i : Nat) a, sa[i]? = some a → sa'[i]? = some a) : ∀ {xs : List D} {vs : List V}, Reps K sa R xs vs → Reps K sa' R' xs vs
  | [], _, h => by cases h; exact .nil
  | d :: ds, _, h => by cases h with | cons r t => exact .cons (Rep.mono mr ms r) (Reps.mono mr ms t)
end
end
/-- what stands behind the plain state: the tracked heap, its part that never changes, where the shared objects lie, what they hold -/
structure Gh where
  H : Hp
  R : Hp
  sa : List Addr
  S : Sto
abbrev Gh.Rep (K : PySem.W.Frag) (g : Gh) : D → V → Prop := Px.Rep K g.sa g.R
abbrev Gh.Reps (K : PySem.W.Frag) (g : Gh) : List D → List V → Prop := Px.Reps K g.sa g.R
/-- a thing's content, and what is tracked at its address -/
def Gh.CRep (K : PySem.W.Frag) (g : Gh) (c : Cn) (o : HO) : Prop :=
  match c with
  | .lst xs => xs.length ≤ sizeLine ∧ ∃ vs, o = .lst vs ∧ g.Reps K xs vs
  | .dic _ => False
  | .dit _ => False
  | .err _ => False
/-- a dict's entries -/
def Gh.KvR (K : PySem.W.Frag) (g : Gh) : List (Key × D) → List (Key × V) → Prop := Paired fun p q => p.1 = q.1 ∧ g.Rep K p.2 q.2
def hashI (ks : List Int) : Int := reduceHash (Builtin.Tuple.tupleHashOf (ks.map hashInt))
def entI (x : List Int × Addr × Value) : DictEntry := ⟨hashI x.1, .ref x.2.1, x.2.2⟩
/-- the one dict object at a, its keys tuples of numbers -/
def DtI (a : Addr) (xs : List (List Int × Addr × Value)) : HO :=
  .ext fun h => ∃ o es ep, h.get? a = some o ∧ o.ExactDict ∧ o.data = .dict es ep ∧ es.toList = xs.map entI ∧ (xs.map (·.1)).Nodup
/-- what a shared dict with such keys holds, and its entries in the heap -/
structure KTi (K : PySem.W.Frag) (g : Gh) (p : List Int × D) (q : List Int × Addr × Value) : Prop where
  key : p.1 = q.1
  val : ∃ v, RelV v q.2.2 ∧ g.Rep K p.2 v
  sq : SqT K g.R q.2.1 (p.1.map V.int)
def Gh.TRep (K : PySem.W.Frag) (g : Gh) (a : Addr) (kvs : List (List Int × D)) (o : HO) : Prop :=
  kvs.length ≤ sizeLine ∧ (a == sysModules) = false ∧ ∃ xs, o = DtI a xs ∧ Paired (KTi K g) kvs xs
/-- a refusal that lies: its object, its dict -/
def Gh.ErrR (K : PySem.W.Frag) (g : Gh) (a : Addr) (x : Xn) (o : HO) : Prop :=
  ∃ Ca, ClsK K x.cls Ca ∧ x.fs.map (·.1) = fieldsOf x.cls ∧
    ((o = exo a Ca none ∧ x.fs = []) ∨ ∃ d fvs, o = exo a Ca (some d) ∧ g.R d = some (exd d fvs) ∧ ∀ f y, x.fs.lookup f = some y → ∃ v, fvs.lookup (sO f) = some v ∧ g.Rep K y v)
/-- a shared thing's content: a list, or a dict -/
def Gh.SRep (K : PySem.W.Frag) (g : Gh) (a : Addr) (c : Cn) (o : HO) : Prop :=
  match c with
  | .lst xs => xs.length ≤ sizeLine ∧ ∃ vs, o = .lst vs ∧ g.Reps K xs vs
  | .dic kvs => kvs.length ≤ sizeLine ∧ ∃ vs, o = .dK vs ∧ g.KvR K kvs vs
  | .dit kvs => g.TRep K a kvs o
  | .err x => g.ErrR K a x o
theorem Gh.CRep.s {K : PySem.W.Frag} {g : Gh} {a : Addr} {c : Cn} {o : HO} (h : g.CRep K c o) : g.SRep K a c o := by
  cases c with
  | lst xs => exact h
  | dic kvs => exact h.elim
  | dit kvs => exact h.elim
  | err kvs => exact h.elim
/-- from g to g' -/
structure Stp (g g' : Gh) : Prop where
  hp : ∀ a o, g.H a = some o → a ∉ g.sa → g'.H a = some o
  dom : ∀ a, g'.H a = none → g.H a = none
  rr : ∀ a o, g.R a = some o → g'.R a = some o
  rn : ∀ a, g.R a = none → g.H a ≠ none → g'.R a = none
  sp : ∃ t, g'.sa = g.sa ++ t
  sn : ∀ a, a ∈ g'.sa → a ∉ g.sa → g.H a = none
/-- what grows in every step, stores too -/
structure Gro (g g' : Gh) : Prop where
  rr : ∀ a o, g.R a = some o → g'.R a = some o
  sp : ∃ t, g'.sa = g.sa ++ t
structure Gok (K : PySem.W.Frag) (g : Gh) : Prop where
  sub : ∀ a o, g.R a = some o → g.H a = some o
  len : g.sa.length = g.S.length
  nd : g.sa.Nodup
  sto : ∀ (i : Nat) a c, g.sa[i]? = some a → g.S[i]? = some c → ∃ o, g.H a = some o ∧ g.SRep K a c o ∧ g.R a = none
theorem Gro.ms {g g' : Gh} (h : Gro g g') : ∀ (i : Nat) a, g.sa[i]? = some a → g'.sa[i]? = some a := fun i a e => by
  obtain ⟨t, q⟩ := h.sp
  have hi : i < g.sa.length := (List.getElem?_eq_some_iff.mp e).1
  rw [q, List.getElem?_append_left hi]; exact e
theorem Stp.gro {g g' : Gh} (h : Stp g g') : Gro g g' := ⟨h.rr, h.sp⟩
theorem Stp.refl (g : Gh) : Stp g g := ⟨fun _ _ e _ => e, fun _ e => e, fun _ _ e => e, fun _ e _ => e, ⟨[], by simp⟩, fun _ h n => absurd h n⟩
theorem Gro.refl (g : Gh) : Gro g g := (Stp.refl g).gro
theorem Gro.trans {g g1 g2 : Gh} (a : Gro g g1) (b : Gro g1 g2) : Gro g g2 :=
  ⟨fun x o e => b.rr x o (a.rr x o e), by obtain ⟨t, q⟩ := a.sp; obtain ⟨u, w⟩ := b.sp; exact ⟨t ++ u, by rw [w, q, List.append_assoc]⟩⟩
theorem Stp.trans {g g1 g2 : Gh} (a : Stp g g1) (b : Stp g1 g2) : Stp g g2 where
  hp := fun x o e n => by
    refine b.hp x o (a.hp x o e n) fun m => ?_
    have := a.sn x m n
    rw [e] at this; cases this
  dom := fun x e => a.dom x (b.dom x e)
  rr := (a.gro.trans b.gro).rr
  rn := fun x e n => b.rn x (a.rn x e n) fun z => n (a.dom x z)
  sp := (a.gro.trans b.gro).sp
  sn := fun x m n => by
    by_cases h : x ∈ g1.sa
    · exact a.sn x h n
    · exact a.dom x (b.sn x m h)
section
variable {K : PySem.W.Frag} {g g' g1 : Gh}
theorem Gro.rep (h : Gro g g') {d : D} {v : V} (r : g.Rep K d v) : g'.Rep K d v := Rep.mono h.rr h.ms r
theorem Gro.reps (h : Gro g g') {d : List D} {v : List V} (r : g.Reps K d v) : g'.Reps K d v := Reps.mono h.rr h.ms r
theorem Gro.crep (h : Gro g g') {c : Cn} {o : HO} (r : g.CRep K c o) : g'.CRep K c o := by
  cases c with
  | lst xs => obtain ⟨l, vs, e, q⟩ := r; exact ⟨l, vs, e, h.reps q⟩
  | dic kvs => exact r.elim
  | dit kvs => exact r.elim
  | err kvs => exact r.elim
theorem KTi.gro {p : List Int × D} {q : List Int × Addr × Value} (h : KTi K g p q) (r : Gro g g') : KTi K g' p q :=
  ⟨h.key, by obtain ⟨v, h1, h2⟩ := h.val; exact ⟨v, h1, r.rep h2⟩, Px.SqT.mono h.sq r.rr⟩
theorem Gro.trep {a : Addr} {kvs : List (List Int × D)} {o : HO} (r : Gro g g') (h : g.TRep K a kvs o) : g'.TRep K a kvs o := by
  obtain ⟨h1, h2, xs, h3, h4⟩ := h
  exact ⟨h1, h2, xs, h3, Paired.mapP h4 fun _ _ z => z.gro r⟩
theorem Gro.ferr {a : Addr} {x : Xn} {o : HO} (r : Gro g g') (h : g.ErrR K a x o) : g'.ErrR K a x o := by
  obtain ⟨Ca, h1, h2, h3⟩ := h
  refine ⟨Ca, h1, h2, ?_⟩
  rcases h3 with h3 | ⟨d, fvs, e1, e2, e4⟩
  · exact .inl h3
  · exact .inr ⟨d, fvs, e1, r.rr _ _ e2, fun f y e => let ⟨v, q1, q2⟩ := e4 f y e; ⟨v, q1, r.rep q2⟩⟩
theorem Gro.srep (h : Gro g g') {a : Addr} {c : Cn} {o : HO} (r : g.SRep K a c o) : g'.SRep K a c o := by
  cases c with
  | lst xs => obtain ⟨l, vs, e, q⟩ := r; exact ⟨l, vs, e, h.reps q⟩
  | dic kvs =>
    obtain ⟨l, vs, e, q⟩ := r
    exact ⟨l, vs, e, Paired.mapP q fun _ _ ⟨q1, q2⟩ => ⟨q1, h.rep q2⟩⟩
  | dit kvs => exact h.trep r
  | err x => exact h.ferr r
/-- a result: new things are told by what g did not track -/
def RvR (K : PySem.W.Frag) (g g' : Gh) (r : Rv) (v : V) : Prop :=
  match r with
  | .val d => g'.Rep K d v
  | .fresh c => ∃ a o, v = .ref a ∧ g'.H a = some o ∧ g'.CRep K c o ∧ g'.R a = none ∧ a ∉ g'.sa ∧ g.H a = none
  | .own c => ∃ a o, v = .ref a ∧ g'.H a = some o ∧ g'.CRep K c o ∧ g'.R a = none ∧ a ∉ g'.sa
theorem RvR.after {r : Rv} {v : V} (h : RvR K g g' r v) (s : Stp g' g1) : RvR K g g1 r v := by
  cases r with
  | val d => exact s.gro.rep h
  | fresh c =>
    obtain ⟨a, o, e, h1, h2, h3, h4, h5⟩ := h
    exact ⟨a, o, e, s.hp a o h1 h4, s.gro.crep h2, s.rn a h3 (by rw [h1]; simp), fun m => (by have := s.sn a m h4; rw [h1] at this; cases this), h5⟩
  | own c =>
    obtain ⟨a, o, e, h1, h2, h3, h4⟩ := h
    exact ⟨a, o, e, s.hp a o h1 h4, s.gro.crep h2, s.rn a h3 (by rw [h1]; simp), fun m => (by have := s.sn a m h4; rw [h1] at this; cases this)⟩
theorem RvR.ahead {r : Rv} {v : V} (h : RvR K g' g1 r v) (s : Stp g g') : RvR K g g1 r v := by
  cases r with
  | val d => exact h
  | fresh c =>
    obtain ⟨a, o, e, h1, h2, h3, h4, h5⟩ := h
    exact ⟨a, o, e, h1, h2, h3, h4, s.dom a h5⟩
  | own c => exact h
/-- with another unchanged part -/
def Gh.wR (g : Gh) (R : Hp) : Gh := { g with R := R }
/-- a thing that nobody else holds becomes one that never changes -/
theorem Gh.freeze (ok : Gok K g') {a : Addr} {o : HO} (h1 : g'.H a = some o) (h3 : g'.R a = none) (h4 : a ∉ g'.sa) (h5 : g.H a = none) (st : Stp g g') :
    Gok K (g'.wR (upd g'.R a o)) ∧ Gro g' (g'.wR (upd g'.R a o)) ∧ Stp g (g'.wR (upd g'.R a o)) := by
  have gr : Gro g' (g'.wR (upd g'.R a o)) := ⟨fun b u e => by
    show upd g'.R a o b = some u
    rw [upd_ne (fun z => by rw [z, h3] at e; cases e)]; exact e, ⟨[], by simp [Gh.wR]⟩⟩
  refine ⟨⟨fun b u e => ?_, ok.len, ok.nd, fun i b c e1 e2 => ?_⟩, gr, ⟨st.hp, st.dom, fun b u e => gr.rr b u (st.rr b u e), fun b e n => ?_, st.sp, st.sn⟩⟩
  · show g'.H b = some u
    have e' : upd g'.R a o b = some u := e
    by_cases hb : b = a
    · subst hb; rw [upd_same] at e'; cases e'; exact h1
    · rw [upd_ne hb] at e'; exact ok.sub b u e'
  · obtain ⟨u, q1, q2, q3⟩ := ok.sto i b c e1 e2
    refine ⟨u, q1, gr.srep q2, ?_⟩
    show upd g'.R a o b = none
    rw [upd_ne (fun z : b = a => h4 (z ▸ List.mem_of_getElem? e1))]
    exact q3
  · show upd g'.R a o b = none
    rw [upd_ne (fun z : b = a => n (by rw [z]; exact h5))]
    exact st.rn b e n
/-- what escapes is data -/
theorem RvR.esc {r : Rv} {v : V} {d : D} (h : RvR K g g' r v) (ok : Gok K g') (st : Stp g g') (e : r.toD = some d) :
    ∃ g1 : Gh, g1.H = g'.H ∧ g1.S = g'.S ∧ Gok K g1 ∧ Stp g g1 ∧ Gro g' g1 ∧ g1.Rep K d v := by
  cases r with
  | val x => cases e; exact ⟨g', rfl, rfl, ok, st, Gro.refl _, h⟩
  | fresh c =>
    cases e
    obtain ⟨a, o, rfl, h1, h2, h3, h4, h5⟩ := h
    obtain ⟨k1, k2, k3⟩ := Gh.freeze ok h1 h3 h4 h5 st
    refine ⟨g'.wR (upd g'.R a o), rfl, rfl, k1, k3, k2, ?_⟩
    cases c with
    | lst xs =>
      obtain ⟨l, vs, rfl, q⟩ := h2
      exact .lst (show upd g'.R a (.lst vs) a = some _ from upd_same) l (k2.reps q)
    | dic kvs => exact h2.elim
    | dit kvs => exact h2.elim
    | err kvs => exact h2.elim
  | own c => cases e
/-- a new object is tracked -/
def Gh.new (g : Gh) (p : Addr) (o : HO) : Gh := { g with H := upd g.H p o }
def Gh.newR (g : Gh) (p : Addr) (o : HO) : Gh := { g with H := upd g.H p o, R := upd g.R p o }
theorem Gok.Rnone (ok : Gok K g) {p : Addr} (hp : g.H p = none) : g.R p = none := by
  cases e : g.R p with
  | none => rfl
  | some o => have := ok.sub p o e; rw [hp] at this; cases this
theorem Gok.saTr (ok : Gok K g) {p : Addr} (hp : g.H p = none) : p ∉ g.sa := fun m => by
  obtain ⟨i, hi, e⟩ := List.mem_iff_getElem.mp m
  have e1 : g.sa[i]? = some p := by rw [List.getElem?_eq_getElem hi, e]
  have hi2 : i < g.S.length := by rw [← ok.len]; exact hi
  obtain ⟨o, q, _⟩ := ok.sto i p _ e1 (List.getElem?_eq_getElem hi2)
  rw [hp] at q; cases q
theorem Gok.new (ok : Gok K g) {p : Addr} (hp : g.H p = none) (o : HO) : Gok K (g.new p o) ∧ Stp g (g.new p o) := by
  have ns := ok.saTr hp
  have st : Stp g (g.new p o) := ⟨fun b u e _ => by
      show upd g.H p o b = some u
      rw [upd_ne (ne_of_none e hp)]; exact e, fun b e => by
      have e' : upd g.H p o b = none := e
      by_cases hb : b = p
      · subst hb; exact hp
      · rw [upd_ne hb] at e'; exact e', fun _ _ e => e, fun _ e _ => e, ⟨[], by simp [Gh.new]⟩, fun _ h n => absurd h n⟩
  refine ⟨⟨fun b u e => st.hp b u (ok.sub b u e) fun m => ?_, ok.len, ok.nd, fun i b c e1 e2 => ?_⟩, st⟩
  · obtain ⟨i, hi, q⟩ := List.mem_iff_getElem.mp m
    have e1 : g.sa[i]? = some b := by rw [List.getElem?_eq_getElem hi, q]
    have hi2 : i < g.S.length := by rw [← ok.len]; exact hi
    obtain ⟨_, _, _, q3⟩ := ok.sto i b _ e1 (List.getElem?_eq_getElem hi2)
    rw [show g.R b = some u from e] at q3; cases q3
  · obtain ⟨u, q1, q2, q3⟩ := ok.sto i b c e1 e2
    refine ⟨u, ?_, st.gro.srep q2, q3⟩
    show upd g.H p o b = some u
    rw [upd_ne (ne_of_none q1 hp)]; exact q1
theorem Gok.newR (ok : Gok K g) {p : Addr} (hp : g.H p = none) (o : HO) : Gok K (g.newR p o) ∧ Stp g (g.newR p o) := by
  obtain ⟨k1, k2⟩ := ok.new hp o
  have h3 : (g.new p o).R p = none := ok.Rnone hp
  obtain ⟨j1, j2, j3⟩ := Gh.freeze (g := g) k1 (a := p) (o := o) (show upd g.H p o p = some o from upd_same) h3 (ok.saTr hp) hp k2
  exact ⟨j1, j3⟩
end
end Px
set_option Elab.async false
set_option linter.all false
set_option maxRecDepth 100000
namespace Px
open PySem L2
/-- the one dict object at a has these entries -/
def DtO (P : Program) (w : World) (a : Addr) (xs : List (List Key × Addr × Value)) : HO :=
  .ext fun h => ∃ o es ep, h.get? a = some o ∧ o.ExactDict ∧ o.data = .dict es ep ∧ es.toList = xs.map (entryOfKey (tupleKind (mixKind P w))) ∧ (xs.map (·.1)).Nodup
/-- keys with values -/
def pvs (xs : List (List Key × Addr × Value)) : List (List Key × Value) := xs.map fun x => (x.1, x.2.2)
/-- what is told of a dict: its entries by value, and that each key is a tuple, of any kind -/
structure KTs (K : PySem.W.Frag) (H : Hp) (kvs : List (List Key × V)) (xs : List (List Key × Addr × Value)) : Prop where
  kv : KV kvs (pvs xs)
  ky : ∀ x ∈ xs, SqT K H x.2.1 (x.1.map kV)
theorem pvs_at (xs : List (List Key × Addr × Value)) (k : List Key) : valueAt (pvs xs) k = (atKey xs k).map (·.2) := by
  unfold pvs
  induction xs with
  | nil => rfl
  | cons x xs ih =>
    by_cases e : x.1 = k
    · simp [valueAt, atKey, e]
    · simpa [valueAt, atKey, e] using ih
theorem KTs.len {K : PySem.W.Frag} {H : Hp} {kvs : List (List Key × V)} {xs : List (List Key × Addr × Value)} (r : KTs K H kvs xs) : kvs.length = xs.length := by
  have := Paired.length r.kv
  unfold pvs at this
  rw [List.length_map] at this
  exact this
theorem KTs.val {K : PySem.W.Frag} {H : Hp} {kvs : List (List Key × V)} {xs : List (List Key × Addr × Value)} (r : KTs K H kvs xs) (k : List Key) : RelO (valV kvs k) ((atKey xs k).map (·.2)) := by
  rw [← pvs_at]
  exact r.kv.val k
section
variable {X : Cx} {pins : List (Addr × Obj)} {σ : St} {H : Hp} {s : Shared} {a b : Addr} {y v : V} {u r : Value} {A : Around} {E : Value → Shared → Prop} {kvs : List (List Key × V)} {xs : List (List Key × Addr × Value)} {k : List Key}
/-- a tuple of numbers and texts is a key, wherever it lies -/
theorem keyS_of (I : Inv X pins σ H s) (e : SqT X.K H b (k.map kV)) : (tupleKind (mixKind X.prog X.w)).is s.heap k b := by
  obtain ⟨its, r, ⟨o, h1, h2, n, h3⟩, _⟩ := I.tuple e
  exact ⟨o, its.toArray, n, h1, h2, h3, by simpa using items_are r⟩
theorem dts_heap (I : Inv X pins σ H s) (e : H a = some (DtO X.prog X.w a xs)) (kt : KTs X.K H kvs xs) : s.heap.DictOfH (tupleKind (mixKind X.prog X.w)) a xs := by
  obtain ⟨⟨o, es, ep, h1, h2, h3, h4, h5⟩, _, _⟩ := (show ObjOk X.prog X.w H s.heap a (DtO X.prog X.w a xs) from I.hok a _ e)
  exact ⟨o, es, ep, h1, h2, h3, h4, fun x hx => keyS_of I (kt.ky x hx), h5⟩
/-- d[k] -/
theorem dts_getItem {Q : Value → Shared → Prop} (hu : A.units + 1 < cLine) (I : Inv X pins σ H s) (e : H a = some (DtO X.prog X.w a xs)) (kt : KTs X.K H kvs xs) (eb : SqT X.K H b (k.map kV)) (l : valV kvs k = some v)
    (h : ∀ w' s', Inv X pins σ H s' → RelV v w' → Q w' s') : wpAny (model X.prog X.w) A (getItem (.ref a) (.ref b)) Q E s := by
  obtain ⟨w', hw, rw'⟩ := RelO.some_of (v := v) (o := (atKey xs k).map (·.2)) (by rw [← l]; exact kt.val k)
  obtain ⟨p, hp, hp2⟩ := Option.map_eq_some_iff.mp hw
  refine wpAny_getItem_heap (tupleKind_room_in1 hu) (keyS_of I eb) (dts_heap I e kt) hp ?_
  rw [hp2]
  exact h w' _ (I.tok _) rw'
/-- k in d -/
theorem dts_in {Q : Value → Shared → Prop} (hu : A.units + 1 < cLine) (I : Inv X pins σ H s) (hd : (a == sysModules) = false) (e : H a = some (DtO X.prog X.w a xs)) (kt : KTs X.K H kvs xs) (eb : SqT X.K H b (k.map kV))
    (h : ∀ s', Inv X pins σ H s' → Q (.bool (valV kvs k).isSome) s') : wpAny (model X.prog X.w) A (compareOp .In (.ref b) (.ref a)) Q E s := by
  refine wpAny_in_heap (tupleKind_room_in1 hu) (keyS_of I eb) hd (dts_heap I e kt) ?_
  have q := (kt.val k).isSome_eq
  rw [Option.isSome_map] at q
  rw [← q]
  exact h _ (I.tok _)
theorem dts_notIn {Q : Value → Shared → Prop} (hu : A.units + 1 < cLine) (I : Inv X pins σ H s) (hd : (a == sysModules) = false) (e : H a = some (DtO X.prog X.w a xs)) (kt : KTs X.K H kvs xs) (eb : SqT X.K H b (k.map kV))
    (h : ∀ s', Inv X pins σ H s' → Q (.bool (!(valV kvs k).isSome)) s') : wpAny (model X.prog X.w) A (compareOp .NotIn (.ref b) (.ref a)) Q E s := by
  refine PyProof.Rows.wpAny_notIn_heap (tupleKind_room_in1 hu) (keyS_of I eb) hd (dts_heap I e kt) ?_
  have q := (kt.val k).isSome_eq
  rw [Option.isSome_map] at q
  rw [← q]
  exact h _ (I.tok _)
theorem dto_ok {P : Program} {w : World} {H : Hp} {h : Heap} (d : h.DictOfH (tupleKind (mixKind P w)) a xs) : ObjOk P w H h a (DtO P w a xs) := by
  obtain ⟨o, es, ep, h1, h2, h3, h4, _, h5⟩ := d
  exact ⟨⟨o, es, ep, h1, h2, h3, h4, h5⟩, ⟨o, h1⟩, fun g1 g2 ⟨o, es, ep, h1, r⟩ k => ⟨o, es, ep, k o h1, r⟩⟩
end
theorem hash_int (P : Program) (w : World) (ks : List Int) : (tupleKind (mixKind P w)).hash (ks.map Sum.inl) = hashI ks := by
  show reduceHash (Builtin.Tuple.tupleHashOf ((ks.map Sum.inl).map (keyH w))) = _
  rw [List.map_map]
  rfl
def upK (x : List Int × Addr × Value) : List Key × Addr × Value := (x.1.map Sum.inl, x.2)
theorem inl_inj : ∀ {a b : List Int}, a.map (Sum.inl (β := Str)) = b.map Sum.inl → a = b
  | [], [], _ => rfl
  | x :: a, y :: b, h => by
    rw [List.map_cons, List.map_cons] at h
    injection h with h1 h2
    injection h1 with h1
    rw [h1, inl_inj h2]
  | [], _ :: _, h => nomatch h
  | _ :: _, [], h => nomatch h
theorem up_nodup (xs : List (List Int × Addr × Value)) : ((xs.map upK).map (·.1)).Nodup ↔ (xs.map (·.1)).Nodup := by
  induction xs with
  | nil => exact ⟨fun _ => List.nodup_nil, fun _ => List.nodup_nil⟩
  | cons x xs ih =>
    rw [List.map_cons, List.map_cons, List.nodup_cons, List.map_cons, List.nodup_cons, ih]
    refine and_congr_left fun _ => not_congr ⟨fun h => ?_, fun h => ?_⟩
    · obtain ⟨y, hy, e⟩ := List.mem_map.mp h
      obtain ⟨z, hz, rfl⟩ := List.mem_map.mp hy
      exact List.mem_map.mpr ⟨z, hz, inl_inj e⟩
    · obtain ⟨z, hz, e⟩ := List.mem_map.mp h
      exact List.mem_map.mpr ⟨upK z, List.mem_map_of_mem hz, congrArg (List.map Sum.inl) e⟩
theorem dtI_eq (P : Program) (w : World) (a : Addr) (xs : List (List Int × Addr × Value)) : DtI a xs = DtO P w a (xs.map upK) := by
  have e : (xs.map upK).map (entryOfKey (tupleKind (mixKind P w))) = xs.map entI := by
    rw [List.map_map]
    refine List.map_congr_left fun x _ => ?_
    show DictEntry.mk ((tupleKind (mixKind P w)).hash (x.1.map Sum.inl)) _ _ = DictEntry.mk _ _ _
    rw [hash_int]
    rfl
  unfold DtI DtO
  refine congrArg HO.ext (funext fun h => ?_)
  rw [e]
  simp only [up_nodup]
section
variable {K : PySem.W.Frag} {g g' : Gh}
/-- a tuple of numbers, wherever it lies -/
theorem rep_key {ks : List Int} {v : V} (h : g.Rep K (.tup (ks.map D.int)) v) : ∃ b, v = .ref b ∧ SqT K g.R b (ks.map V.int) := by
  have h : Px.Rep K g.sa g.R (.tup (ks.map D.int)) v := h
  cases h with
  | @tup a _ vs sq _ rs =>
    refine ⟨a, rfl, ?_⟩
    have key : ∀ (ks : List Int) (vs : List V), Px.Reps K g.sa g.R (ks.map D.int) vs → vs = ks.map V.int := fun ks => by
      induction ks with
      | nil => intro vs h; cases h; rfl
      | cons k ks ih =>
        intro vs h
        cases h with
        | cons h1 h2 =>
          cases h1
          rw [ih _ h2]; rfl
    rw [← key ks vs rs]
    exact sq
/-- the entries as the rules want them: some values stand for the plain data -/
theorem kti_kts : ∀ {kvs : List (List Int × D)} {xs : List (List Int × Addr × Value)}, (∀ a o, g.R a = some o → g.H a = some o) → Paired (KTi K g) kvs xs →
    ∃ ws : List V, ws.length = kvs.length ∧ KTs K g.H ((kvs.zip ws).map fun z => (z.1.1.map Sum.inl, z.2)) (xs.map upK) ∧ ∀ z ∈ kvs.zip ws, g.Rep K z.1.2 z.2
  | _, _, _, .nil => ⟨[], rfl, ⟨.nil, fun _ h => nomatch h⟩, fun _ h => nomatch h⟩
  | _, _, sub, .cons (a := p) (b := q) h t => by
    obtain ⟨ws, hl, kt, hr⟩ := kti_kts sub t
    obtain ⟨v, rv, rr⟩ := h.val
    refine ⟨v :: ws, by rw [List.length_cons, List.length_cons, hl], ⟨.cons ⟨congrArg (List.map Sum.inl) h.key, rv⟩ kt.kv, fun x hx => ?_⟩, fun z hz => ?_⟩
    · rw [List.map_cons] at hx
      rcases List.mem_cons.mp hx with rfl | hx
      · have := Px.SqT.mono h.sq sub
        rw [h.key] at this
        show SqT K g.H q.2.1 ((q.1.map Sum.inl).map kV)
        rw [List.map_map]
        exact this
      · exact kt.ky x hx
    · rw [List.zip_cons_cons] at hz
      rcases List.mem_cons.mp hz with rfl | hz
      · exact rr
      · exact hr z hz
def stI (xs : List (List Int × Addr × Value)) (k : List Int) (b : Addr) (u : Value) : List (List Int × Addr × Value) := if xs.any (fun x => decide (x.1 = k)) then xs.map (fun x => if x.1 = k then (x.1, x.2.1, u) else x) else xs ++ [(k, b, u)]
theorem any_up (k : List Int) : ∀ xs : List (List Int × Addr × Value), xs.any (fun x => decide (x.1 = k)) = (atKey (xs.map upK) (k.map Sum.inl)).isSome
  | [] => rfl
  | x :: xs => by
    have ih := any_up k xs
    by_cases e : x.1 = k
    · have e' : (upK x).1 = k.map Sum.inl := congrArg (List.map Sum.inl) e
      simp [atKey, e, e']
    · have e' : ¬ (upK x).1 = k.map Sum.inl := fun z => e (inl_inj z)
      simpa [atKey, e, e'] using ih
theorem stI_up (xs : List (List Int × Addr × Value)) (k : List Int) (b : Addr) (u : Value) : (stI xs k b u).map upK = storedH (xs.map upK) (k.map Sum.inl) b u := by
  unfold stI storedH
  rw [any_up]
  by_cases c : (atKey (xs.map upK) (k.map Sum.inl)).isSome = true
  · rw [if_pos c, if_pos c, List.map_map, List.map_map]
    refine List.map_congr_left fun x _ => ?_
    show upK (if x.1 = k then (x.1, x.2.1, u) else x) = putAt (k.map Sum.inl) u (upK x)
    unfold putAt
    by_cases e : x.1 = k
    · rw [if_pos e, if_pos (show (upK x).1 = k.map Sum.inl from congrArg (List.map Sum.inl) e)]; rfl
    · rw [if_neg e, if_neg (show ¬ (upK x).1 = k.map Sum.inl from fun z => e (inl_inj z))]
  · rw [if_neg c, if_neg c, List.map_append]; rfl
theorem kti_any (k : List Int) : ∀ {kvs : List (List Int × D)} {xs : List (List Int × Addr × Value)}, Paired (KTi K g) kvs xs → kvs.any (fun p => decide (p.1 = k)) = xs.any (fun x => decide (x.1 = k))
  | _, _, .nil => rfl
  | _, _, .cons h t => by rw [List.any_cons, List.any_cons, kti_any k t, h.key]
theorem kti_map (k : List Int) {d : D} {u : Value} (hd : ∃ v, RelV v u ∧ g.Rep K d v) : ∀ {kvs : List (List Int × D)} {xs : List (List Int × Addr × Value)}, Paired (KTi K g) kvs xs →
    Paired (KTi K g) (kvs.map fun p => if p.1 = k then (p.1, d) else p) (xs.map fun x => if x.1 = k then (x.1, x.2.1, u) else x)
  | _, _, .nil => .nil
  | _, _, .cons (a := p) (b := q) h t => by
    rw [List.map_cons, List.map_cons]
    refine .cons ?_ (kti_map k hd t)
    by_cases e : p.1 = k
    · rw [if_pos e, if_pos (h.key.symm.trans e)]; exact ⟨h.key, hd, h.sq⟩
    · rw [if_neg e, if_neg (fun z => e (h.key.trans z))]; exact h
theorem kti_put {k : List Int} {b : Addr} {d : D} {u : Value} (hd : ∃ v, RelV v u ∧ g.Rep K d v) (hb : SqT K g.R b (k.map V.int)) {kvs : List (List Int × D)} {xs : List (List Int × Addr × Value)} (h : Paired (KTi K g) kvs xs) : Paired (KTi K g) (putT kvs k d) (stI xs k b u) := by
  unfold putT stI
  rw [kti_any k h]
  split
  · exact kti_map k hd h
  · exact Paired.snoc h ⟨rfl, hd, hb⟩
/-- what is looked up -/
theorem ti_val (k : List Int) : ∀ {kvs : List (List Int × D)} {ws : List V}, ws.length = kvs.length → (∀ z ∈ kvs.zip ws, g.Rep K z.1.2 z.2) →
    (valT kvs k = none ∧ valV ((kvs.zip ws).map fun z => (z.1.1.map (Sum.inl (β := Str)), z.2)) (k.map Sum.inl) = none) ∨ ∃ d w, valT kvs k = some d ∧ valV ((kvs.zip ws).map fun z => (z.1.1.map (Sum.inl (β := Str)), z.2)) (k.map Sum.inl) = some w ∧ g.Rep K d w
  | [], [], _, _ => .inl ⟨rfl, rfl⟩
  | p :: kvs, v :: ws, hl, hr => by
    rw [List.zip_cons_cons] at hr ⊢
    rw [List.map_cons]
    have r0 := hr (p, v) List.mem_cons_self
    by_cases e : p.1 = k
    · refine .inr ⟨p.2, v, by simp [valT, e], ?_, r0⟩
      exact valV_pos (congrArg (List.map Sum.inl) e)
    · have e' : ¬ p.1.map (Sum.inl (β := Str)) = k.map Sum.inl := fun z => e (inl_inj z)
      have h1 : valT (p :: kvs) k = valT kvs k := by simp [valT, e]
      rw [h1, valV_neg e']
      exact ti_val k (Nat.succ.inj hl) fun z hz => hr z (List.mem_cons_of_mem _ hz)
  | [], _ :: _, h, _ => nomatch h
  | _ :: _, [], h, _ => nomatch h
end
end Px
set_option Elab.async false
set_option linter.all false
set_option maxRecDepth 100000
namespace Px
open PySem PySem.Spec PyProof.Rows L2
def SlotR (K : PySem.W.Frag) (g0 g : Gh) (s : Slot) (v : Option V) : Prop :=
  match s with
  | .emp => True
  | .val d => ∃ x, v = some x ∧ g.Rep K d x
  | .own c => ∃ a o, v = some (.ref a) ∧ g.H a = some o ∧ g.CRep K c o ∧ g.R a = none ∧ a ∉ g.sa ∧ g0.H a = none
structure SlOk (K : PySem.W.Frag) (g0 g : Gh) (σ : L2.St) (sl : Slots) : Prop where
  len : σ.length = sl.length
  at_ : ∀ (i : Nat) s, sl[i]? = some s → ∃ v, σ[i]? = some v ∧ SlotR K g0 g s v
  sep : ∀ (i j : Nat) c c' a, sl[i]? = some (Slot.own c) → sl[j]? = some (Slot.own c') → i ≠ j → σ[i]? = some (some (V.ref a)) → σ[j]? = some (some (V.ref a)) → False
theorem SlotR.step {K : PySem.W.Frag} {g0 g g' : Gh} {s : Slot} {v : Option V} (h : SlotR K g0 g s v) (st : Stp g g') : SlotR K g0 g' s v := by
  cases s with
  | emp => trivial
  | val d => obtain ⟨x, e, r⟩ := h; exact ⟨x, e, st.gro.rep r⟩
  | own c =>
    obtain ⟨a, o, e, h1, h2, h3, h4, h5⟩ := h
    exact ⟨a, o, e, st.hp a o h1 h4, st.gro.crep h2, st.rn a h3 (by rw [h1]; simp), fun m => (by have := st.sn a m h4; rw [h1] at this; cases this), h5⟩
theorem SlOk.step {K : PySem.W.Frag} {g0 g g' : Gh} {σ : L2.St} {sl : Slots} (h : SlOk K g0 g σ sl) (st : Stp g g') : SlOk K g0 g' σ sl :=
  ⟨h.len, fun i s e => let ⟨v, e1, r⟩ := h.at_ i s e; ⟨v, e1, r.step st⟩, h.sep⟩
/-- an exception as it lies: an instance of a class of the table -/
def XR (K : PySem.W.Frag) (g : Gh) (x : Xn) (C : Value) (od : Option Addr) : Prop :=
  ∃ Ca, ClsK K x.cls Ca ∧ C = .ref Ca ∧ x.fs.map (·.1) = fieldsOf x.cls ∧
    ((od = none ∧ x.fs = []) ∨ ∃ d fvs, od = some d ∧ g.R d = some (.xd fvs) ∧ ∀ f y, x.fs.lookup f = some y → ∃ v, fvs.lookup (sO f) = some v ∧ g.Rep K y v)
theorem Gro.xr {K : PySem.W.Frag} {g g' : Gh} (h : Gro g g') {x : Xn} {C : Value} {od : Option Addr} (r : XR K g x C od) : XR K g' x C od := by
  obtain ⟨Ca, h1, h2, h0, h3⟩ := r
  refine ⟨Ca, h1, h2, h0, ?_⟩
  rcases h3 with h3 | ⟨d, fvs, e1, e2, e4⟩
  · exact .inl h3
  · refine .inr ⟨d, fvs, e1, h.rr _ _ e2, fun f y e => ?_⟩
    obtain ⟨v, q1, q2⟩ := e4 f y e
    exact ⟨v, q1, h.rep q2⟩
def noE : XK := fun _ _ _ => False
abbrev kE (E : XK) : L2.St → XK := fun _ => E
section
variable (K : PySem.W.Frag) (E : XK)
/-- from g: what the plain result says of the real one -/
def Post {α β : Type} (RR : Gh → Gh → α → β → Prop) (g : Gh) (r : Res α) (Q : β → Hp → Prop) : Prop :=
  match r with
  | .ok a S => ∀ g' v, g'.S = S → Gok K g' → Stp g g' → RR g g' a v → Q v g'.H
  | .exc x S => ∀ g' C od, g'.S = S → Gok K g' → Stp g g' → XR K g' x C od → E C od g'.H
  | .stuck => False
end
section
variable (K : PySem.W.Frag) (E : L2.St → XK)
/-- the reading of a plain function of the slots and the store -/
def rd {α β : Type} (RR : Gh → Gh → α → β → Prop) (f : Slots → Sto → Res α) : L2.St → Hp → (β → Hp → Prop) → Prop := fun σ H Q =>
  ∃ g0 g sl, g.H = H ∧ Gok K g ∧ SlOk K g0 g σ sl ∧ Post K (E σ) RR g (f sl g.S) Q
abbrev rdE (f : Slots → Sto → Res Rv) : TE := rd K E (RvR K) f
abbrev rdT (f : Slots → Sto → Res Bool) : TT := rd K E (fun _ _ a (b : Bool) => b = a) f
abbrev rdA (f : Slots → Sto → Res (List D)) : TA := rd K E (fun _ g' ds vs => g'.Reps K ds vs) f
/-- a result to be looked at -/
def LookR (g : Gh) (d : D) (v : V) : Prop :=
  match d with
  | .lst xs => ∃ a vs, v = .ref a ∧ g.H a = some (.lst vs) ∧ xs.length ≤ sizeLine ∧ g.Reps K xs vs
  | d => g.Rep K d v
def RvRs (g g' : Gh) : List Rv → List V → Prop := Paired (RvR K g g')
abbrev rdR (f : Slots → Sto → Res (List Rv)) : TA := rd K E (RvRs K) f
end
section
variable {K : PySem.W.Frag} {E : XK} {g g' g1 : Gh} {α β γ δ : Type} {RR : Gh → Gh → α → β → Prop} {RS : Gh → Gh → γ → δ → Prop}
theorem Post.bind {f : Res α} {k : α → Sto → Res γ} {Q : δ → Hp → Prop} {Q1 : β → Hp → Prop} (h : Post K E RS g (f.bind k) Q)
    (hk : ∀ g1 a v, Gok K g1 → Stp g g1 → RR g g1 a v → Post K E RS g (k a g1.S) Q → Q1 v g1.H) : Post K E RR g f Q1 := by
  cases f with
  | ok a S => intro g' v e ok st r; subst e; exact hk g' a v ok st r h
  | exc x S => exact h
  | stuck => exact h
theorem Post.shift {r : Res α} {Q : β → Hp → Prop} (h : Post K E RR g r Q) (st : Stp g g') (ah : ∀ g1 a v, Stp g' g1 → RR g' g1 a v → RR g g1 a v) : Post K E RR g' r Q := by
  cases r with
  | ok a S => intro g1 v e ok s q; exact h g1 v e ok (st.trans s) (ah g1 a v s q)
  | exc x S => intro g1 C od e ok s q; exact h g1 C od e ok (st.trans s) q
  | stuck => exact h
theorem Post.shiftE {r : Res Rv} {Q : V → Hp → Prop} (h : Post K E (RvR K) g r Q) (st : Stp g g') : Post K E (RvR K) g' r Q := h.shift st fun _ _ _ _ q => q.ahead st
theorem Post.shiftT {r : Res Bool} {Q : Bool → Hp → Prop} (h : Post K E (fun _ _ a (b : Bool) => b = a) g r Q) (st : Stp g g') : Post K E (fun _ _ a (b : Bool) => b = a) g' r Q := h.shift st fun _ _ _ _ q => q
theorem Post.shiftA {r : Res (List D)} {Q : List V → Hp → Prop} (h : Post K E (fun _ g' ds vs => g'.Reps K ds vs) g r Q) (st : Stp g g') : Post K E (fun _ g' ds vs => g'.Reps K ds vs) g' r Q := h.shift st fun _ _ _ _ q => q
theorem RvRs.after : ∀ {rs : List Rv} {vs : List V}, RvRs K g g' rs vs → Stp g' g1 → RvRs K g g1 rs vs
  | _, _, .nil, _ => .nil
  | _, _, .cons r t, s => .cons (r.after s) (RvRs.after t s)
theorem RvRs.ahead : ∀ {rs : List Rv} {vs : List V}, RvRs K g' g1 rs vs → Stp g g' → RvRs K g g1 rs vs
  | _, _, .nil, _ => .nil
  | _, _, .cons r t, s => .cons (r.ahead s) (RvRs.ahead t s)
theorem PE.imp {X : Cx} {e : Expr} {t u : TE} (h : PE X e t) (i : ∀ σ H Q, u σ H Q → t σ H Q) : PE X e u := ⟨fun pins s σ H Q I q => h.run pins s σ H Q I (i σ H Q q)⟩
theorem PT.imp {X : Cx} {e : Expr} {t u : TT} (h : PT X e t) (i : ∀ σ H Q, u σ H Q → t σ H Q) : PT X e u := ⟨fun pins s σ H Q I q => h.run pins s σ H Q I (i σ H Q q)⟩
theorem PA.imp {X : Cx} {e : List Expr} {t u : TA} (h : PA X e t) (i : ∀ σ H Q, u σ H Q → t σ H Q) : PA X e u := ⟨fun pos pins s σ H Q I q => h.run pos pins s σ H Q I (i σ H Q q)⟩
theorem PS.imp {X : Cx} {e : Stmt} {t u : TS} (h : PS X e t) (i : ∀ D σ H, u D σ H → t D σ H) : PS X e u := ⟨fun pins s σ H D I q => h.run pins s σ H D I (i D σ H q)⟩
theorem PSs.imp {X : Cx} {e : List Stmt} {t u : TS} (h : PSs X e t) (i : ∀ D σ H, u D σ H → t D σ H) : PSs X e u := ⟨fun pins s σ H D I q => h.run pins s σ H D I (i D σ H q)⟩
theorem Post.val {d : D} {v : V} {S : Sto} {Q : V → Hp → Prop} (h : Post K E (RvR K) g (.ok (.val d) S) Q) (ok : Gok K g) (e : g.S = S) (r : g.Rep K d v) : Q v g.H := h g v e ok (Stp.refl g) r
theorem Post.tup {ds : List D} {vs : List V} {S : Sto} {Q : V → Hp → Prop} (h : Post K E (RvR K) g (.ok (.val (.tup ds)) S) Q) (ok : Gok K g) (e : g.S = S) (r : g.Reps K ds vs) (hz : ds.length ≤ sizeLine) :
    ∀ p, g.H p = none → Q (.ref p) (upd g.H p (.tup vs)) := fun p hp => by
  obtain ⟨k, st⟩ := ok.newR hp (.tup vs)
  refine h (g.newR p (.tup vs)) (.ref p) e k st ?_
  exact .tup (SqT.of (show upd g.R p (.tup vs) p = some _ from upd_same)) hz (st.gro.reps r)
theorem Post.fresh {ds : List D} {vs : List V} {S : Sto} {Q : V → Hp → Prop} (h : Post K E (RvR K) g (.ok (.fresh (.lst ds)) S) Q) (ok : Gok K g) (e : g.S = S) (r : g.Reps K ds vs) (hz : ds.length ≤ sizeLine) :
    ∀ p, g.H p = none → Q (.ref p) (upd g.H p (.lst vs)) := fun p hp => by
  obtain ⟨k, st⟩ := ok.new hp (.lst vs)
  refine h (g.new p (.lst vs)) (.ref p) e k st ?_
  exact ⟨p, .lst vs, rfl, show upd g.H p (.lst vs) p = some _ from upd_same, ⟨hz, vs, rfl, st.gro.reps r⟩, ok.Rnone hp, ok.saTr hp, hp⟩
theorem Rep.lookR (ok : Gok K g) {d : D} {v : V} (h : g.Rep K d v) : LookR K g d v := by
  cases d with
  | lst xs => cases h with | lst a l r => exact ⟨_, _, rfl, ok.sub _ _ a, l, r⟩
  | _ => exact h
theorem RvR.lookR (ok : Gok K g') {r : Rv} {v : V} (h : RvR K g g' r v) : LookR K g' r.look v := by
  have aux : ∀ (c : Cn) a o, g'.H a = some o → g'.CRep K c o → v = .ref a → LookR K g' c.frz v := fun c a o h1 h2 e => by
    cases c with
    | lst xs => obtain ⟨l, vs, rfl, q⟩ := h2; exact ⟨a, vs, e, h1, l, q⟩
    | dic kvs => exact h2.elim
    | dit kvs => exact h2.elim
    | err kvs => exact h2.elim
  cases r with
  | val d => exact Rep.lookR ok h
  | fresh c => obtain ⟨a, o, e, h1, h2, _⟩ := h; exact aux c a o h1 h2 e
  | own c => obtain ⟨a, o, e, h1, h2, _⟩ := h; exact aux c a o h1 h2 e
theorem LookR.int {i : Int} {v : V} (h : LookR K g (.int i) v) : v = .int i := by
  have h' : g.Rep K (.int i) v := h
  cases h'; rfl
theorem LookR.bl {i : Bool} {v : V} (h : LookR K g (.bl i) v) : v = .bl i := by
  have h' : g.Rep K (.bl i) v := h
  cases h'; rfl
theorem LookR.non {v : V} (h : LookR K g .non v) : v = .non := by
  have h' : g.Rep K .non v := h
  cases h'; rfl
theorem LookR.str {i : Str} {v : V} (h : LookR K g (.str i) v) : v = .str i := by
  have h' : g.Rep K (.str i) v := h
  cases h'; rfl
theorem LookR.tup (ok : Gok K g) {xs : List D} {v : V} (h : LookR K g (.tup xs) v) : ∃ a vs, v = .ref a ∧ SqT K g.R a vs ∧ SqT K g.H a vs ∧ xs.length ≤ sizeLine ∧ g.Reps K xs vs := by
  have h' : g.Rep K (.tup xs) v := h
  cases h' with | tup a l r => exact ⟨_, _, rfl, a, SqT.mono a ok.sub, l, r⟩
theorem LookR.lst {xs : List D} {v : V} (h : LookR K g (.lst xs) v) : ∃ a vs, v = .ref a ∧ g.H a = some (.lst vs) ∧ xs.length ≤ sizeLine ∧ g.Reps K xs vs := h
theorem LookR.scr (ok : Gok K g) {xs : List D} {v : V} (h : LookR K g (.scr xs) v) : ∃ a vs, v = .ref a ∧ SqL K g.H a vs ∧ xs.length ≤ sizeLine ∧ g.Reps K xs vs := by
  have h' : g.Rep K (.scr xs) v := h
  cases h' with | scr a l r => exact ⟨_, _, rfl, SqL.mono a ok.sub, l, r⟩
theorem LookR.after {d : D} {v : V} (h : LookR K g d v) (ok : Gok K g) (r : Rv) (hd : r.look = d) (hr : RvR K g1 g r v) (st : Stp g g') (ok' : Gok K g') : LookR K g' d v := by
  subst hd; exact (hr.after st).lookR ok'
mutual
/-- data as the library's data -/
theorem Rep.dp {H : Hp} {sa : List Addr} {R : Hp} (sub : ∀ a o, R a = some o → H a = some o) : ∀ {d : D} {v : V}, Px.Rep K sa R d v → d.toP.canLay0 = true → Dp K H v d.toP
  | .non, _, h, _ => by cases h; exact .non
  | .bl _, _, h, _ => by cases h; exact .bl _
  | .int _, _, h, _ => by cases h; exact .int _
  | .str _, _, h, _ => by cases h; exact .str _
  | .tup xs, _, h, c => by cases h with | tup a l r => exact .tup (SqT.mono a sub) (Reps.dp sub r (by simpa [D.toP, PyData.canLay0] using c))
  | .lst xs, _, h, c => by cases h with | lst a l r => exact .lst (SqL.of (sub _ _ a)) (Reps.dp sub r (by simpa [D.toP, PyData.canLay0] using c))
  | .scr xs, _, h, c => by cases h with | scr a l r => exact .lst (SqL.mono a sub) (Reps.dp sub r (by simpa [D.toP, PyData.canLay0] using c))
  | .dic _, _, h, c => by simp [D.toP, PyData.canLay0] at c
  | .ref _, _, h, c => by simp [D.toP, PyData.canLay0] at c
theorem Reps.dp {H : Hp} {sa : List Addr} {R : Hp} (sub : ∀ a o, R a = some o → H a = some o) : ∀ {ds : List D} {vs : List V}, Px.Reps K sa R ds vs → PyData.canLayAll0 (D.toPs ds) = true → DpAll K H vs (D.toPs ds)
  | [], _, h, _ => by cases h; exact .nil
  | d :: ds, _, h, c => by
    have c' : d.toP.canLay0 = true ∧ PyData.canLayAll0 (D.toPs ds) = true := by simpa [D.toPs, PyData.canLayAll0] using c
    cases h with | cons r t => exact .cons (Rep.dp sub r c'.1) (Reps.dp sub t c'.2)
end
theorem LookR.dp (ok : Gok K g) {d : D} {v : V} (h : LookR K g d v) (c : d.toP.canLay0 = true) : Dp K g.H v d.toP := by
  cases d with
  | lst xs =>
    obtain ⟨a, vs, rfl, h1, l, r⟩ := h.lst
    exact .lst (SqL.of h1) (Reps.dp ok.sub r (by simpa [D.toP, PyData.canLay0] using c))
  | _ => exact Rep.dp ok.sub h c
theorem Post.optE {E' : XK} {α β : Type} {RR : Gh → Gh → α → β → Prop} {g : Gh} {o : Option α} {S : Sto} {Q : β → Hp → Prop} (h : Post K E RR g (Res.opt o S) Q) : Post K E' RR g (Res.opt o S) Q := by
  cases o with
  | none => exact h.elim
  | some a => exact h
theorem Post.noX {E' : XK} {α γ δ : Type} {RS : Gh → Gh → γ → δ → Prop} {g : Gh} {r : Res α} {f : α → γ} {Q : δ → Hp → Prop} (h : Post K E RS g (r.noX.bind fun a S => .ok (f a) S) Q) : Post K E' RS g (r.bind fun a S => .ok (f a) S) Q := by
  cases r with
  | ok a S => exact h
  | exc x S => exact h.elim
  | stuck => exact h
def rOp2 (K : PySem.W.Frag) (E : L2.St → XK) (sem : Rv → Rv → Option Rv) : R2 := fun x y H Q =>
  ∃ g0 g ra rb, g.H = H ∧ Gok K g ∧ RvR K g0 g ra x ∧ RvR K g0 g rb y ∧ Post K noE (RvR K) g (Res.opt (sem ra rb) g.S) Q
def rOp1 (K : PySem.W.Frag) (E : L2.St → XK) (sem : Rv → Option Rv) : V → Hp → VK → Prop := fun x H Q =>
  ∃ g0 g ra, g.H = H ∧ Gok K g ∧ RvR K g0 g ra x ∧ Post K noE (RvR K) g (Res.opt (sem ra) g.S) Q
def Bop.op : Bop → Operator
  | .add => .Add | .sub => .Sub | .mul => .Mult | .fdiv => .FloorDiv | .mod => .Mod | .pow => .Pow | .shl => .LShift | .shr => .RShift | .band => .BitAnd | .bor => .BitOr
def Cop.op : Cop → CmpOp
  | .eq => .Eq | .ne => .NotEq | .lt => .Lt | .le => .LtE | .gt => .Gt | .ge => .GtE | .isN => .Is | .notN => .IsNot | .isB => .Is | .notB => .IsNot | .inn => .In | .nin => .NotIn
end
end Px
set_option Elab.async false
set_option linter.all false
set_option maxRecDepth 100000
namespace Px
open PySem PySem.Spec PyProof.Rows L2
section
variable {X : Cx} {E : L2.St → XK}
theorem Post.no {E : XK} {K : PySem.W.Frag} {α β : Type} {RR : Gh → Gh → α → β → Prop} {g : Gh} {S : Sto} {Q : β → Hp → Prop} (h : Post K E RR g (Res.opt none S) Q) : False := h
theorem op_add_bi : OpR X (binaryOp .Add) (fun x y H Q => ∃ (k : Bool) (j : Int), x = .bl k ∧ y = .int j ∧ Q (.int ((if k = true then 1 else 0) + j)) H) := by
  intro pins s σ H x y v u Q I rx ry ⟨k, j, e1, e2, q⟩
  subst e1 e2
  cases (show v = Value.bool k from rx)
  obtain ⟨t, rfl⟩ := (show ∃ t, u = Value.int j t from ry)
  exact PySem.IntBool.add_bool_int ⟨.int _, H, I.tok _, ⟨_, rfl⟩, q⟩
theorem op_sub_bi : OpR X (binaryOp .Sub) (fun x y H Q => ∃ (k : Bool) (j : Int), x = .bl k ∧ y = .int j ∧ Q (.int ((if k = true then 1 else 0) - j)) H) := by
  intro pins s σ H x y v u Q I rx ry ⟨k, j, e1, e2, q⟩
  subst e1 e2
  cases (show v = Value.bool k from rx)
  obtain ⟨t, rfl⟩ := (show ∃ t, u = Value.int j t from ry)
  exact PySem.IntBool.sub_bool_int ⟨.int _, H, I.tok _, ⟨_, rfl⟩, q⟩
theorem op_addS : OpR X (binaryOp .Add) (rOp2 X.K E (opBin .add)) := by
  intro pins s σ H x y v u Q I rx ry ⟨g0, g, ra, rb, e, ok, r1, r2, h⟩
  subst e
  have l1 := r1.lookR ok
  have l2 := r2.lookR ok
  unfold opBin at h
  generalize ra.look = d1 at h l1
  generalize rb.look = d2 at h l2
  unfold opBinD at h
  split at h <;> first | exact (Post.no h).elim | contradiction | skip
  · cases l1.int; cases l2.int
    exact op_add pins s σ g.H _ _ v u Q I rx ry ⟨_, _, rfl, rfl, Post.val h ok rfl (.int _)⟩
  · cases l1.str; cases l2.str
    split at h
    · exact op_add_str pins s σ g.H _ _ v u Q I rx ry ⟨_, _, rfl, rfl, by assumption, Post.val h ok rfl (.str _)⟩
    · exact h.elim
  · obtain ⟨a, vs, rfl, s1, t1, z1, q1⟩ := l1.tup ok
    obtain ⟨b, us, rfl, s2, t2, z2, q2⟩ := l2.tup ok
    split at h
    case isFalse => exact h.elim
    rename_i hz
    refine op_catA pins s σ g.H _ _ v u Q I rx ry ⟨a, b, vs, us, rfl, rfl, t1, t2, by rw [← q1.length, ← q2.length]; exact hz, fun e => ?_, fun n e => ?_, fun _ _ => ?_⟩
    · subst e
      cases q1
      exact Post.val h ok rfl (.tup s2 (by simpa using hz) (by simpa using q2))
    · subst e
      cases q2
      exact Post.val h ok rfl (.tup s1 (by simpa using hz) (by simpa using q1))
    · exact Post.tup h ok rfl (q1.append q2) (by rw [List.length_append]; exact hz)
  · obtain ⟨a, vs, rfl, h1, z1, q1⟩ := l1.lst
    obtain ⟨b, us, rfl, h2, z2, q2⟩ := l2.lst
    split at h
    case isFalse => exact h.elim
    rename_i hz
    exact op_cat pins s σ g.H _ _ v u Q I rx ry ⟨a, b, vs, us, rfl, rfl, h1, h2, by rw [← q1.length, ← q2.length]; exact hz, Post.fresh h ok rfl (q1.append q2) (by rw [List.length_append]; exact hz)⟩
  · cases l1.bl; cases l2.int
    exact op_add_bi pins s σ g.H _ _ v u Q I rx ry ⟨_, _, rfl, rfl, Post.val h ok rfl (.int _)⟩
theorem op_subS : OpR X (binaryOp .Sub) (rOp2 X.K E (opBin .sub)) := by
  intro pins s σ H x y v u Q I rx ry ⟨g0, g, ra, rb, e, ok, r1, r2, h⟩
  subst e
  have l1 := r1.lookR ok
  have l2 := r2.lookR ok
  unfold opBin at h
  generalize ra.look = d1 at h l1
  generalize rb.look = d2 at h l2
  unfold opBinD at h
  split at h <;> first | exact (Post.no h).elim | contradiction | skip
  · cases l1.int; cases l2.int
    exact op_sub pins s σ g.H _ _ v u Q I rx ry ⟨_, _, rfl, rfl, Post.val h ok rfl (.int _)⟩
  · cases l1.bl; cases l2.int
    exact op_sub_bi pins s σ g.H _ _ v u Q I rx ry ⟨_, _, rfl, rfl, Post.val h ok rfl (.int _)⟩
theorem op_fdivS : OpR X (binaryOp .FloorDiv) (rOp2 X.K E (opBin .fdiv)) := by
  intro pins s σ H x y v u Q I rx ry ⟨g0, g, ra, rb, e, ok, r1, r2, h⟩
  subst e
  have l1 := r1.lookR ok
  have l2 := r2.lookR ok
  unfold opBin at h
  generalize ra.look = d1 at h l1
  generalize rb.look = d2 at h l2
  unfold opBinD at h
  split at h <;> first | exact (Post.no h).elim | contradiction | skip
  cases l1.int; cases l2.int
  split at h
  case isFalse => exact h.elim
  rename_i hz
  exact op_fdivW pins s σ g.H _ _ v u Q I rx ry ⟨_, _, rfl, rfl, hz, Post.val h ok rfl (.int _)⟩
theorem op_modS : OpR X (binaryOp .Mod) (rOp2 X.K E (opBin .mod)) := by
  intro pins s σ H x y v u Q I rx ry ⟨g0, g, ra, rb, e, ok, r1, r2, h⟩
  subst e
  have l1 := r1.lookR ok
  have l2 := r2.lookR ok
  unfold opBin at h
  generalize ra.look = d1 at h l1
  generalize rb.look = d2 at h l2
  unfold opBinD at h
  split at h <;> first | exact (Post.no h).elim | contradiction | skip
  cases l1.int; cases l2.int
  split at h
  case isFalse => exact h.elim
  rename_i hz
  exact op_mod pins s σ g.H _ _ v u Q I rx ry ⟨_, _, rfl, rfl, hz, Post.val h ok rfl (.int _)⟩
theorem op_powS : OpR X (binaryOp .Pow) (rOp2 X.K E (opBin .pow)) := by
  intro pins s σ H x y v u Q I rx ry ⟨g0, g, ra, rb, e, ok, r1, r2, h⟩
  subst e
  have l1 := r1.lookR ok
  have l2 := r2.lookR ok
  unfold opBin at h
  generalize ra.look = d1 at h l1
  generalize rb.look = d2 at h l2
  unfold opBinD at h
  split at h <;> first | exact (Post.no h).elim | contradiction | skip
  cases l1.int; cases l2.int
  split at h
  case isFalse => exact h.elim
  rename_i hz
  exact op_pow pins s σ g.H _ _ v u Q I rx ry ⟨_, _, rfl, rfl, hz, Post.val h ok rfl (.int _)⟩
end
end Px
set_option Elab.async false
set_option linter.all false
set_option maxRecDepth 100000
set_option maxHeartbeats 4000000
namespace Px
open PySem PySem.Spec PyProof.Rows L2
/-- t * n gives t itself -/
theorem tmul_same (l : Addr) (its : Array Value) (n : Nat) (dd : Option Addr) (sl : Array (Option Value)) (x : Int) (u : Tok) (c0 : (decide (x < -(2 ^ 63)) || decide (x ≥ 2 ^ 63)) = false) (c1 : (its.isEmpty || x == 1) = true) :
    Meets (Builtin.«tuple.__mul__» ⟨[.ref l, .int x u], []⟩) (fun _ R s => s.heap.get? l = some { cls := .type "tuple", dict := dd, data := .seq its n, slots := sl } ∧ R (.ok (.ret (Value.ref l))) s) :=
  .of_wp fun prog w A R s h => by
    obtain ⟨hp, g, d, tk, os⟩ := s
    obtain ⟨hl, h⟩ := h
    have f1 := AutoSeq1.idx_int
    wp_walk using wpAny_loadPart' hl
    refine wpAny_ite_false (decide_eq_false (by rw [c0]; exact Bool.false_ne_true)) ?_
    wp_walk using wpAny_loadPart' hl
    exact ⟨_, rfl, h⟩
/-- t * n, n not above 0: a new empty tuple -/
theorem tmul_none (l : Addr) (its : Array Value) (n : Nat) (dd : Option Addr) (sl : Array (Option Value)) (x : Int) (u : Tok) (c0 : (decide (x < -(2 ^ 63)) || decide (x ≥ 2 ^ 63)) = false) (c1 : (its.isEmpty || x == 1) = false)
    (c2 : (decide (x ≤ 0) || its.isEmpty) = true) :
    Meets (Builtin.«tuple.__mul__» ⟨[.ref l, .int x u], []⟩) (fun _ R s => s.heap.get? l = some { cls := .type "tuple", dict := dd, data := .seq its n, slots := sl } ∧
      R (.ok (.ret (Value.ref s.heap.objs.size))) { s with heap := s.heap.push { cls := Value.type "tuple", data := Data.seq #[] } }) :=
  .of_wp fun prog w A R s h => by
    obtain ⟨hp, g, d, tk, os⟩ := s
    obtain ⟨hl, h⟩ := h
    have f1 := AutoSeq1.idx_int
    wp_walk using wpAny_loadPart' hl
    refine wpAny_ite_false (decide_eq_false (by rw [c0]; exact Bool.false_ne_true)) ?_
    wp_walk using wpAny_loadPart' hl
    first
      | exact ⟨_, rfl, h⟩
      | (refine wpAny_ite_false (by simpa using c1) ?_
         wp_walk using wpAny_loadPart' hl
         exact ⟨_, rfl, h⟩)
section
variable {X : Cx} {E : L2.St → XK}
theorem mul_okX {i j : Int} (h : i.natAbs.log2 + j.natAbs.log2 < 100000000) : IntMulOk i j := by
  have b : ∀ x : Int, Builtin.Int.intBits x ≤ x.natAbs.log2 + 1 := fun x => by
    unfold Builtin.Int.intBits
    split <;> omega
  have b1 := b i
  have b2 := b j
  have e : bitsLine = 134217728 := by decide
  unfold IntMulOk
  intro z
  rw [Bool.and_eq_true] at z
  have z2 := z.2
  unfold Builtin.Int.intTooBig at z2
  have z3 := of_decide_eq_true z2
  rw [e] at z3
  omega
theorem op_mulX : OpR X (binaryOp .Mult) (rI (fun i j => i.natAbs.log2 + j.natAbs.log2 < 100000000) fun i j => .int (i * j)) := opI fun _ _ _ _ _ _ _ hc q => mul_int q (mul_okX hc)
theorem op_mulS : OpR X (binaryOp .Mult) (rOp2 X.K E (opBin .mul)) := by
  intro pins s σ H x y v u Q I rx ry ⟨g0, g, ra, rb, e, ok, r1, r2, h⟩
  subst e
  have l1 := r1.lookR ok
  have l2 := r2.lookR ok
  unfold opBin at h
  generalize ra.look = d1 at h l1
  generalize rb.look = d2 at h l2
  unfold opBinD at h
  split at h <;> first | exact (Post.no h).elim | contradiction | skip
  · cases l1.int; cases l2.int
    split at h
    case isFalse => exact h.elim
    rename_i hz
    exact op_mulX pins s σ g.H _ _ v u Q I rx ry ⟨_, _, rfl, rfl, hz, Post.val h ok rfl (.int _)⟩
  · obtain ⟨a, vs, rfl, s1, t1, z1, q1⟩ := l1.tup ok
    cases l2.int
    split at h
    case isFalse => exact h.elim
    rename_i xs j _ hz
    obtain ⟨z0, z2, z3⟩ := hz
    have hlen := q1.length
    by_cases hsame : vs = [] ∨ j = 1
    · have e1 : (List.replicate j.toNat xs).flatten = xs := by
        rcases hsame with e | e
        · subst e
          cases q1
          simp
        · subst e
          simp
      rw [e1] at h
      cases rx
      obtain ⟨t, rfl⟩ := ry
      obtain ⟨its, r, ⟨⟨cls, dd, data, sl⟩, ho, hc, n, hd⟩, hs⟩ := I.tuple t1
      simp only at hc hd
      subst hc hd
      have c0 : (decide (j < -(2 ^ 63)) || decide (j ≥ 2 ^ 63)) = false := by
        rw [Bool.or_eq_false_iff]; exact ⟨decide_eq_false (by omega), decide_eq_false (by omega)⟩
      have c1 : (its.toArray.isEmpty || j == 1) = true := by
        rcases hsame with e | e
        · subst e; cases r; rfl
        · subst e; simp
      refine wpAny_binaryOp_repeat_ref (T := "tuple") (U := "int") (by decide) ⟨_, ho, rfl⟩ (fun s' => typeIs_int s' j t) noFill_tuple_mul F.fills_int_mul F.slot_int_rmul repeat_tuple F.slot_int_index.lookup
        (call_meets F.slot_int_rmul (typeIs_int s j t) F.entry_int_rmul (F.args_int_rmul_2 _ _) (int_rmul_tuple j t a its.toArray n dd sl)
          ⟨ho, rfl, ⟨_, ho, rfl⟩, call_meets F.slot_tuple_mul ⟨_, ho, rfl⟩ F.entry_tuple_mul (F.args_tuple_mul_2 _ _) (tmul_same a its.toArray n dd sl j t c0 c1) ⟨ho, ?_⟩⟩)
      exact ⟨.ref a, g.H, I, rfl, Post.val h ok rfl (.tup s1 z1 q1)⟩
    · have hne : vs ≠ [] := fun e => hsame (.inl e)
      have hj : j ≠ 1 := fun e => hsame (.inr e)
      by_cases hneg : j ≤ 0
      · have e1 : (List.replicate j.toNat xs).flatten = [] := by
          have : j.toNat = 0 := by omega
          rw [this]; rfl
        rw [e1] at h
        cases rx
        obtain ⟨t, rfl⟩ := ry
        obtain ⟨its, r, ⟨⟨cls, dd, data, sl⟩, ho, hc, n, hd⟩, hs⟩ := I.tuple t1
        simp only at hc hd
        subst hc hd
        have c0 : (decide (j < -(2 ^ 63)) || decide (j ≥ 2 ^ 63)) = false := by
          rw [Bool.or_eq_false_iff]; exact ⟨decide_eq_false (by omega), decide_eq_false (by omega)⟩
        have c1 : (its.toArray.isEmpty || j == 1) = false := by
          rw [Bool.or_eq_false_iff]
          refine ⟨?_, beq_eq_false_iff_ne.mpr hj⟩
          cases r with
          | nil => exact absurd rfl hne
          | cons _ _ => rfl
        refine wpAny_binaryOp_repeat_ref (T := "tuple") (U := "int") (by decide) ⟨_, ho, rfl⟩ (fun s' => typeIs_int s' j t) noFill_tuple_mul F.fills_int_mul F.slot_int_rmul repeat_tuple F.slot_int_index.lookup
          (call_meets F.slot_int_rmul (typeIs_int s j t) F.entry_int_rmul (F.args_int_rmul_2 _ _) (int_rmul_tuple j t a its.toArray n dd sl)
            ⟨ho, rfl, ⟨_, ho, rfl⟩, call_meets F.slot_tuple_mul ⟨_, ho, rfl⟩ F.entry_tuple_mul (F.args_tuple_mul_2 _ _) (tmul_none a its.toArray n dd sl j t c0 c1 (by rw [decide_eq_true hneg]; rfl)) ⟨ho, ?_⟩⟩)
        refine ⟨.ref s.heap.objs.size, _, I.laid (t' := s.toks) (o := .tup []) (fun b ob q => Heap.get?_push_of_some _ q) (Nat.le_refl _) ?_, rfl, Post.tup h ok rfl .nil (Nat.zero_le _) _ (I.hok.fresh (Nat.le_refl _))⟩
        exact ⟨Nat.zero_le _, [], .nil, IsTup.new _ _⟩
      · refine op_repT pins s σ g.H _ _ v u Q I rx ry ⟨a, j, vs, rfl, rfl, t1, hne, by omega, z2, by rw [← hlen]; exact z3, ?_⟩
        refine Post.tup h ok rfl (q1.flatten_replicate _) ?_
        rw [PyProof.Rows.lm_len_rep_flat, sizeLine_eq]
        have a1 : j.toNat * xs.length ≤ 1000 * 1000 := Nat.mul_le_mul (by omega) z3
        omega
  · obtain ⟨a, vs, rfl, h1, z1, q1⟩ := l1.lst
    cases l2.int
    split at h
    case isFalse => exact h.elim
    rename_i hz
    refine op_rep pins s σ g.H _ _ v u Q I rx ry ⟨a, _, vs, rfl, rfl, h1, hz.1, hz.2.1, by rw [← q1.length]; exact hz.2.2, ?_⟩
    refine Post.fresh h ok rfl (q1.flatten_replicate _) ?_
    rw [PyProof.Rows.lm_len_rep_flat, Nat.mul_comm]
    exact hz.2.2
end
end Px
set_option Elab.async false
set_option linter.all false
set_option maxRecDepth 100000
set_option maxHeartbeats 1000000
namespace Px
open PySem PySem.Spec PyProof.Rows L2 HT
theorem adj_rev (n : Nat) : Builtin.Slice.sliceAdjust none none (-1) (n : Int) = ((n : Int) - 1, -1) := by
  unfold Builtin.Slice.sliceAdjust
  simp
theorem places_rev (n : Nat) : Builtin.Slice.slicePlaces ((n : Int) - 1) (-1) (-1) = n := by
  unfold Builtin.Slice.slicePlaces
  simp
  split <;> omega
section
variable {prog : Program} {w : World} {A : Around} {E : Value → Shared → Prop} {s : Shared}
theorem applied_rev {sl : Addr} {vs : Value} {n : Nat} {Q : Int × Int × Nat → Shared → Prop} (hs : s.heap.IsSliceOf sl .none .none vs) (ps : IsPart vs (some (-1)))
    (h : Q ((n : Int) - 1, -1, n) s) : wpAny (model prog w) A (Builtin.Slice.sliceApplied (.ref sl) (pure (n : Int))) Q E s := by
  obtain ⟨ob, e1, e2, e3⟩ := id hs
  unfold Builtin.Slice.sliceApplied Builtin.Slice.sliceFields
  refine wpAny_bind (wpAny_bind (wpAny_field e1 e3 (x := .none) rfl ?_))
  refine wpAny_bind (wpAny_field e1 e3 (x := .none) rfl ?_)
  refine wpAny_bind (wpAny_field e1 e3 (x := vs) rfl ?_)
  refine wpAny_pure ?_
  refine wpAny_bind (slicePart_ ps ?_)
  show wpAny _ _ (if (((-1 : Int)) == 0) = true then _ else _) _ _ s
  rw [if_neg (by decide)]
  refine wpAny_bind (slicePart_none ?_)
  refine wpAny_bind (slicePart_none ?_)
  refine wpAny_bind (wpAny_pure ?_)
  show wpAny _ _ (match Builtin.Slice.sliceAdjust none none (-1) (n : Int) with | (a, b) => pure (a, (-1 : Int), Builtin.Slice.slicePlaces a b (-1))) _ _ s
  rw [adj_rev n]
  show wpAny _ _ (pure ((n : Int) - 1, (-1 : Int), Builtin.Slice.slicePlaces ((n : Int) - 1) (-1) (-1))) _ _ s
  rw [places_rev]
  exact wpAny_pure h
theorem fm_congr {α β : Type} {f g : α → Option β} : ∀ {l : List α}, (∀ x ∈ l, f x = g x) → l.filterMap f = l.filterMap g
  | [], _ => rfl
  | x :: l, h => by
    rw [List.filterMap_cons, List.filterMap_cons, h x List.mem_cons_self, fm_congr fun y hy => h y (List.mem_cons_of_mem _ hy)]
theorem pick_rev (xs : Array Value) : ((List.range xs.size).filterMap fun (m : Nat) => xs[((xs.size : Int) - 1 + (m : Int) * -1).toNat]?).toArray = xs.toList.reverse.toArray := by
  congr 1
  have e : ∀ m ∈ List.range xs.size, (fun (m : Nat) => xs[((xs.size : Int) - 1 + (m : Int) * -1).toNat]?) m = ((fun i => xs[i]?) ∘ fun k => xs.size - 1 - k) m := fun m hm => by
    have := List.mem_range.mp hm
    have e : ((xs.size : Int) - 1 + (m : Int) * -1).toNat = xs.size - 1 - m := by omega
    show xs[((xs.size : Int) - 1 + (m : Int) * -1).toNat]? = xs[xs.size - 1 - m]?
    rw [e]
  rw [fm_congr e, ← List.filterMap_map, PySem.W.krv_range, List.filterMap_reverse, PySem.W.krv_all]
theorem getItem_tuple_back {t sl : Addr} {items : Array Value} {vs : Value} {Q : Value → Shared → Prop} (ht : IsTup s.heap t items) (hs : s.heap.IsSliceOf sl .none .none vs) (ps : IsPart vs (some (-1)))
    (h : Q (.ref s.heap.objs.size) { s with heap := s.heap.push { cls := .type "tuple", data := .seq items.toList.reverse.toArray } })
    (hsz : items.size ≤ sizeLine) : wpAny (model prog w) A (getItem (.ref t) (.ref sl)) Q E s := by
  have room : sizeOk (.seq items.toList.reverse.toArray) := by
    show items.toList.reverse.toArray.size ≤ sizeLine
    rw [List.size_toArray, List.length_reverse, Array.length_toList]
    exact hsz
  obtain ⟨ob, e1, e2, e3⟩ := id hs
  have isS : s.TypeIs (.ref sl) "slice" := ⟨ob, e1, e2⟩
  unfold getItem
  try (with_reducible refine wpAny_holding ?_)
  first | refine wpAny_bind (wpAny_pure ?_) | skip
  refine wpAny_bind (wpAny_sequenceKey ht.typeIs (by decide) ?_)
  have slot := PyProof.Rows.slot_tuple_getitem
  refine wpAny_bind (wpAny_callSpecial?_slot (name := Str.ofString "__getitem__") ht.typeIs slot (wpAny_call_entry slot ht.typeIs entry_tuple_getitem ?_ (args_tuple_getitem _ _)))
  show wpAny _ _ (Builtin.Tuple.tupleItemsOf (.ref t) >>= _) _ _ s
  refine wpAny_bind (tupleItemsOf_ ht ?_)
  refine wpAny_bind (wpAny_typeOf isS ?_)
  rw [if_pos (by decide)]
  refine wpAny_bind (applied_rev (n := items.size) hs ps ?_)
  show wpAny _ _ (if (((items.size : Int) - 1) == 0 && (-1 : Int) == 1 && items.size == items.size) = true then _ else _) _ _ s
  rw [if_neg (by simp), pick_rev]
  first
    | exact wpAny_bind (m := Builtin.Tuple.tupleExact _) (wpAny_newObj_type (wpAny_pure ⟨_, rfl, wpAny_pure h⟩) room)
    | exact wpAny_bind (m := Builtin.Tuple.tupleExact _) (wpAny_newObj_type (wpAny_bind (wpAny_pure (wpAny_pure ⟨_, rfl, wpAny_pure h⟩))) room)
    | exact wpAny_bind (wpAny_bind (m := Builtin.Tuple.tupleExact _) (wpAny_newObj_type (wpAny_pure (wpAny_pure ⟨_, rfl, wpAny_pure h⟩)) room))
    | exact wpAny_bind (wpAny_bind (m := Builtin.Tuple.tupleExact _) (wpAny_newObj_type (wpAny_pure ⟨_, rfl, wpAny_pure h⟩) room))
end
/-- xs[::-1] -/
def tBack (K : PySem.W.Frag) (te : TE) : TE := fun σ H Q => te σ H fun x H1 => ∃ a xs, x = .ref a ∧ ((SqL K H1 a xs ∧ ∀ p, H1 p = none → Q (.ref p) (upd H1 p (.lst xs.reverse))) ∨
  (SqT K H1 a xs ∧ xs.length ≤ sizeLine ∧ ∀ p, H1 p = none → Q (.ref p) (upd H1 p (.tup xs.reverse))))
theorem pe_back {X : Cx} {e : Expr} {te : TE} {k : Nat} {p1 p2 p3 pos : Pos} (he : PE X e te) : PE X (.Subscript e (.Slice none none (some (.UnaryOp .USub (.Constant (.int 1) k p1) p2)) p3) pos) (tBack X.K te) := by
  refine ⟨fun pins s σ H Q I h => ?_⟩
  refine Subscript_ (thn (he.run pins s σ H _ I h) fun v s1 ⟨x, H1, I1, r1, a, xs, ex, q1⟩ => ?_)
  subst ex
  cases r1
  have step : PO X (some (.UnaryOp .USub (.Constant (.int 1) k p1) p2)) (tPart (tUn (rU fun i => .int (-i)) (tC (.int 1)))) := po_some (pe_un un_neg pe_int)
  refine wpAny_Slice (thn (po_none.run pins s1 σ H1 (fun o H2 => o = none ∧ H2 = H1) I1 ⟨rfl, rfl⟩) fun v1 s2 ⟨o1, H2, I2, i1, z1, w1⟩ => ?_)
  subst z1 w1
  refine thn (po_none.run pins s2 σ H2 (fun o H3 => o = none ∧ H3 = H2) I2 ⟨rfl, rfl⟩) fun v2 s3 ⟨o2, H3, I3, i2, z2, w2⟩ => ?_
  subst z2 w2
  refine thn (step.run pins s3 σ H3 (fun o H4 => o = some (-1) ∧ H4 = H3) I3 ⟨1, rfl, -1, rfl, rfl, rfl⟩) fun v3 s4 ⟨o3, H4, I4, i3, z3, w3⟩ => ?_
  subst z3 w3
  cases i1
  cases i2
  have new := Heap.IsSliceOf.new s4.heap Value.none Value.none v3
  have I5 : Inv X pins σ H4 { s4 with heap := s4.heap.push { cls := .type "slice", data := .fields #[.none, .none, v3] } } := I4.kept (t' := s4.toks) fun b ob q => Heap.get?_push_of_some _ q
  show wpAny (model X.prog X.w) X.A (subscriptTail e (.Slice none none (some (.UnaryOp .USub (.Constant (.int 1) k p1) p2)) p3) (.ref a) (.ref s4.heap.objs.size)) (EP X pins σ Q) X.xe { s4 with heap := s4.heap.push { cls := .type "slice", data := .fields #[.none, .none, v3] } }
  rcases q1 with ⟨hx, q⟩ | ⟨hx, hn, q⟩
  · obtain ⟨its, r, ht, hz⟩ := I5.list hx
    have hlen := r.length
    refine tail_any (ops := [.ref a, .ref s4.heap.objs.size]) ht.isList.typeIs (PySem.slot_list_getitem.lookup) ?_ (by with_unfolding_all rfl)
    refine wpAny_getItem_list_slice ht.isList new .none .none i3 (by decide) ?_ (by rw [List.size_toArray]; omega)
    rw [PySem.W.krv_pick]
    refine ⟨.ref _, _, I5.laid (t' := s4.toks) (o := .lst xs.reverse) (fun b ob q => Heap.get?_push_of_some _ q) (Nat.le_refl _) ?_, rfl, q _ (I5.hok.fresh (Nat.le_refl _))⟩
    exact ⟨by rw [List.length_reverse]; exact hz, _, 0, r.reverse, Heap.get?_push_size _ rfl⟩
  · obtain ⟨its, r, ht, hz⟩ := I5.tuple hx
    have hlen := r.length
    refine tail_any (ops := [.ref a, .ref s4.heap.objs.size]) ht.typeIs (PyProof.Rows.slot_tuple_getitem.lookup) ?_ (by with_unfolding_all rfl)
    refine getItem_tuple_back ht new i3 ?_ (by rw [List.size_toArray]; omega)
    refine ⟨.ref _, _, I5.laid (t' := s4.toks) (o := .tup xs.reverse) (fun b ob q => Heap.get?_push_of_some _ q) (Nat.le_refl _) ?_, rfl, q _ (I5.hok.fresh (Nat.le_refl _))⟩
    exact ⟨by rw [List.length_reverse]; exact hz, _, r.reverse, IsTup.new _ _⟩
end Px
set_option Elab.async false
set_option linter.all false
set_option maxRecDepth 100000
set_option maxHeartbeats 1000000
namespace Px
open PySem PySem.Spec PyProof.Rows L2
section
variable {X : Cx} {E : L2.St → XK}
theorem op_shlS : OpR X (binaryOp .LShift) (rOp2 X.K E (opBin .shl)) := by
  intro pins s σ H x y v u Q I rx ry ⟨g0, g, ra, rb, e, ok, r1, r2, h⟩
  subst e
  have l1 := r1.lookR ok
  have l2 := r2.lookR ok
  unfold opBin at h
  generalize ra.look = d1 at h l1
  generalize rb.look = d2 at h l2
  unfold opBinD at h
  split at h <;> first | exact (Post.no h).elim | contradiction | skip
  cases l1.int; cases l2.int
  split at h
  case isFalse => exact h.elim
  rename_i hz
  exact op_shl pins s σ g.H _ _ v u Q I rx ry ⟨_, _, rfl, rfl, hz, Post.val h ok rfl (.int _)⟩
theorem op_shrS : OpR X (binaryOp .RShift) (rOp2 X.K E (opBin .shr)) := by
  intro pins s σ H x y v u Q I rx ry ⟨g0, g, ra, rb, e, ok, r1, r2, h⟩
  subst e
  have l1 := r1.lookR ok
  have l2 := r2.lookR ok
  unfold opBin at h
  generalize ra.look = d1 at h l1
  generalize rb.look = d2 at h l2
  unfold opBinD at h
  split at h <;> first | exact (Post.no h).elim | contradiction | skip
  cases l1.int; cases l2.int
  split at h
  case isFalse => exact h.elim
  rename_i hz
  exact op_shr pins s σ g.H _ _ v u Q I rx ry ⟨_, _, rfl, rfl, hz, Post.val h ok rfl (.int _)⟩
theorem op_bandS : OpR X (binaryOp .BitAnd) (rOp2 X.K E (opBin .band)) := by
  intro pins s σ H x y v u Q I rx ry ⟨g0, g, ra, rb, e, ok, r1, r2, h⟩
  subst e
  have l1 := r1.lookR ok
  have l2 := r2.lookR ok
  unfold opBin at h
  generalize ra.look = d1 at h l1
  generalize rb.look = d2 at h l2
  unfold opBinD at h
  split at h <;> first | exact (Post.no h).elim | contradiction | skip
  cases l1.int; cases l2.int
  exact op_and pins s σ g.H _ _ v u Q I rx ry ⟨_, _, rfl, rfl, Post.val h ok rfl (.int _)⟩
theorem op_borS : OpR X (binaryOp .BitOr) (rOp2 X.K E (opBin .bor)) := by
  intro pins s σ H x y v u Q I rx ry ⟨g0, g, ra, rb, e, ok, r1, r2, h⟩
  subst e
  have l1 := r1.lookR ok
  have l2 := r2.lookR ok
  unfold opBin at h
  generalize ra.look = d1 at h l1
  generalize rb.look = d2 at h l2
  unfold opBinD at h
  split at h <;> first | exact (Post.no h).elim | contradiction | skip
  cases l1.int; cases l2.int
  exact op_or pins s σ g.H _ _ v u Q I rx ry ⟨_, _, rfl, rfl, Post.val h ok rfl (.int _)⟩
/-- what is in a tuple of data -/
theorem op_inT (hu : X.A.units + 65 < cLine) : OpR X (compareOp .In) (fun x y H Q => ∃ d ds, Dp X.K H x d ∧ Dp X.K H y (.tuple ds) ∧ SeqAt.shaped d = true ∧ SeqAt.shaped (.list ds) = true ∧ Q (.bl (ds.any fun z => PyData.eqv z d)) H) := by
  intro pins s σ H x y v u Q I rx ry h
  obtain ⟨d, ds, hd, he, sd, se, q⟩ := h
  obtain ⟨as, r1⟩ := Dp.reads I d x v hd rx
  obtain ⟨bs, r2⟩ := Dp.reads I (.tuple ds) y u he ry
  have hl : PyData.canLayAll0 ds = true := SeqAt.canLay_of_shaped se
  exact SeqAt.in_tuple_reads r2 r1 hl (SeqAt.canLay_of_shaped sd) (room_in_shaped sd hu) ⟨.bl _, H, I, rfl, q⟩
theorem op_ninT (hu : X.A.units + 65 < cLine) : OpR X (compareOp .NotIn) (fun x y H Q => ∃ d ds, Dp X.K H x d ∧ Dp X.K H y (.tuple ds) ∧ SeqAt.shaped d = true ∧ SeqAt.shaped (.list ds) = true ∧ Q (.bl (!ds.any fun z => PyData.eqv z d)) H) := by
  intro pins s σ H x y v u Q I rx ry h
  obtain ⟨d, ds, hd, he, sd, se, q⟩ := h
  obtain ⟨as, r1⟩ := Dp.reads I d x v hd rx
  obtain ⟨bs, r2⟩ := Dp.reads I (.tuple ds) y u he ry
  have hl : PyData.canLayAll0 ds = true := SeqAt.canLay_of_shaped se
  exact SeqAt.notIn_tuple_reads r2 r1 hl (SeqAt.canLay_of_shaped sd) (room_in_shaped sd hu) ⟨.bl _, H, I, rfl, q⟩
theorem ext_tup (l : Addr) (its : Array Value) (n : Nat) (b : Addr) (zs : Array Value) (m : Nat) (dd : Option Addr) (sl : Array (Option Value)) (c0 : ¬(!its.isEmpty && Builtin.List.listTooLong (its.size + zs.size)) = true) (c1 : its.size ≤ sizeLine) (c2 : its.size + zs.size ≤ sizeLine + 1) :
    Meets (Builtin.«list.extend» ⟨[.ref l, .ref b], []⟩) (fun _ R z => z.heap.get? l = some { cls := .type "list", dict := none, data := .seq its n, slots := #[] } ∧ z.heap.get? b = some { cls := .type "tuple", dict := dd, data := .seq zs m, slots := sl } ∧ R (.ok (.ret Value.none)) { z with heap := z.heap.update l (Obj.mapSeq fun x => x ++ zs), toks := z.toks }) :=
  .of_wp fun prog w A R z h => by
    obtain ⟨hp, gg, dd, tt, oo⟩ := z
    obtain ⟨hl, hb, h⟩ := h
    have f1 := AutoSeq1.idx_int
    have f2 := AutoSeq1.sub_tuple_tuple
    have f3 := AutoSeq1.sub_list_list
    have f4 := AutoSeq1.sub_tuple_list
    have f5 := AutoSeq1.sub_list_tuple
    have z2 : (its ++ zs).size ≤ sizeLine + 1 := by rw [Array.size_append]; exact c2
    wp_walk using (wpAny_updateSeq hl rfl (hz := c1) (_hz' := z2)), AutoSeq1.wpAny_loadPart' hl, AutoSeq1.wpAny_loadPart' hb
    exact ⟨_, rfl, h⟩
/-- a list is extended by a tuple's items -/
def rExtT (K : PySem.W.Frag) : V → List V → Hp → VK → Prop := fun x vs H Q => ∃ l b xs zs, x = .ref l ∧ vs = [.ref b] ∧ H l = some (.lst xs) ∧ SqT K H b zs ∧ xs.length + zs.length ≤ sizeLine ∧ Q .non (upd H l (.lst (xs ++ zs)))
theorem mt_extT : MtM X "list.extend" (rExtT X.K) := by
  intro pins s σ H x vs v us Q I rx rv h
  obtain ⟨l, b, xs, zs, rfl, rfl, hl, hb, hz, q⟩ := h
  cases rx
  obtain ⟨u, rfl, ru⟩ := rv.one
  cases ru
  obtain ⟨z, its, n, r, k1, e⟩ := I.lstM hl
  obtain ⟨its2, r2, ⟨⟨cc, dd, dt, sl⟩, e2, c2, n2, d2⟩, k2⟩ := I.tuple hb
  have e1 := r.length
  have e3 := r2.length
  have sz : its.toArray.size + its2.toArray.size ≤ sizeLine := by rw [List.size_toArray, List.size_toArray]; omega
  have nl : ¬ (!its.toArray.isEmpty && Builtin.List.listTooLong (its.toArray.size + its2.toArray.size)) = true := by
    rw [notLongL sz, Bool.and_false]
    exact Bool.false_ne_true
  have c2' : cc = .type "tuple" := c2
  have d2' : dt = .seq its2.toArray n2 := d2
  subst c2' d2'
  refine call_meets F.slot_list_extend ⟨_, e, rfl⟩ F.entry_list_extend (F.args_list_extend_2 _ _) (ext_tup l its.toArray n b its2.toArray n2 dd sl nl (by rw [List.size_toArray]; omega) (by omega)) ⟨e, e2, ?_⟩
  exact ⟨.non, _, I.lset (its' := its ++ its2) hl e (by simp) (r.append r2) (by rw [List.length_append]; omega), rfl, q⟩
end
end Px
set_option Elab.async false
set_option linter.all false
set_option maxRecDepth 100000
set_option maxHeartbeats 1000000
namespace Px
open PySem PySem.Spec PyProof.Rows L2 Srt
section
variable {prog : Program} {w : World} {A : Around} {E : Value → Shared → Prop} {s : Shared}
theorem collect_tupS {Q : List Value → Shared → Prop} (it : Addr) {o : Obj} {items : Array Value} {n : Nat}
    (ho : s.heap.get? it = some o) (hc : o.cls = .type "tuple") (hd : o.data = .seq items n) (hsz : items.size ≤ sizeLine)
    (hQ : ∀ h', (∀ b o', s.heap.get? b = some o' → h'.get? b = some o') → s.heap.objs.size ≤ h'.objs.size → Q items.toList { s with heap := h' }) :
    wpAny (model prog w) A (collect (.ref it)) Q E s := by
  unfold collect
  refine wpAny_bind (wpAny_runValue (codeAny_builtin F.entry_proto_collect ?_))
  rw [Around.under_plainId F.plain_proto_collect _]
  show wpAny _ A.in1 (newList [] >>= fun l => again (.builtin "list.__iadd__" ⟨[l, .ref it], []⟩)) _ _ s
  refine wpAny_bind (wpAny_newObj_type ?_)
  refine wpAny_pure ⟨plainId_quiet F.plain_list_iadd _, codeAny_builtin F.entry_list_iadd ?_⟩
  rw [Around.under_plainId F.plain_list_iadd _]
  show wpAny _ A.in1 (Builtin.List.listExtendWith (.ref s.heap.objs.size) (.ref it) (.ref s.heap.objs.size)) _ _ _
  have hS : (s.heap.push { cls := .type "list", data := .seq ([] : List Value).toArray }).get? s.heap.objs.size = some { cls := .type "list", data := .seq #[] 0 } := Heap.get?_push_size _ rfl
  have hS₂ := Heap.get?_update_self (Obj.mapSeq (· ++ items)) hS rfl
  have fin' : wpAny (model prog w) A (match Value.ref s.heap.objs.size with
      | Value.ref a => do
        match (← load a).data with
          | Data.seq xs _ => pure xs.toList
          | _ => unsupported "internal:collect"
      | _ => unsupported "internal:collect") Q E { s with heap := (s.heap.push { cls := .type "list", data := .seq ([] : List Value).toArray }).update s.heap.objs.size (Obj.mapSeq (· ++ items)) } := by
    show wpAny _ A (load s.heap.objs.size >>= _) _ _ _
    refine wpAny_bind (wpAny_load hS₂ ?_)
    refine wpAny_pure ?_
    have e : ((#[] : Array Value) ++ items).toList = items.toList := by simp
    show Q ((#[] : Array Value) ++ items).toList _
    rw [e]
    refine hQ _ (fun b o' hb => ?_) ?_
    · exact (Heap.get?_update_other _ _ (Nat.ne_of_gt (Heap.lt_size hb))).trans (Heap.get?_push_of_some _ hb)
    · rw [Heap.size_update, size_push']
      exact Nat.le_succ _
  refine wpAny_mono (wpAny_extend_seq (hsz := hsz) (A := A) (R := fun r s' => r = .ok (.ret (.ref s.heap.objs.size)) ∧ s' = { s with heap := (s.heap.push { cls := .type "list", data := .seq ([] : List Value).toArray }).update s.heap.objs.size (Obj.mapSeq (· ++ items)) })
    (s := { s with heap := s.heap.push { cls := .type "list", data := .seq ([] : List Value).toArray } }) _ it _ 0 (.inr rfl) hS (Heap.get?_push_of_some _ ho) hc hd ⟨rfl, rfl⟩) (fun fin s' h => ?_) (fun e s' h => ?_)
  · cases fin with
    | done f =>
      obtain ⟨e, rfl⟩ := h
      cases e
      exact fin'
    | again c' => exact ⟨h.1, codeAny_mono h.2 fun r s'' hr => by obtain ⟨rfl, rfl⟩ := hr; exact fin'⟩
  · exact absurd h.1 (by simp)
theorem sorted_tupO {l : Addr} {o : Obj} {n : Nat} {vs : List Value} {k : Value → Int × Int} {Q : Value → Shared → Prop} (ho : s.heap.get? l = some o) (hc : o.cls = .type "tuple") (hd : o.data = .seq vs.toArray n) (hz : vs.length ≤ sizeLine) (hp : ∀ v ∈ vs, IsPair s.heap v (k v).1 (k v).2)
    (h : ∀ (h' : Heap) (d : Addr) (out : List Value), SrtO.Srtd (fun v u => SrtO.lexB (k v) (k u)) out → SrtO.Stb (fun v u => SrtO.lexB (k v) (k u)) out vs → (∀ b o, s.heap.get? b = some o → h'.get? b = some o) → s.heap.objs.size ≤ d → (∃ n, h'.get? d = some (seqObj "list" out.toArray n)) → Q (.ref d) { s with heap := h' }) :
    wpAny (model prog w) A (call (.builtin "sorted") [.ref l]) Q E s := by
  refine Calls.call_function_entry kind_sorted plain_sorted entry_sorted (args_sorted1 _) ?_
  unfold Builtin.«sorted»
  refine wpAny_bind (m := checkCount "sorted" 1 1 _) (wpAny_pure ?_)
  refine wpAny_bind (collect_tupS l ho hc hd (by simpa using hz) fun h1 k1 z1 => ?_)
  rw [List.toList_toArray]
  refine wpAny_bind (wpAny_newList ?_ hz)
  have hoL : (h1.push (seqObj "list" vs.toArray 0)).get? h1.objs.size = some (seqObj "list" vs.toArray 0) := Heap.get?_push_size _ rfl
  have keep : ∀ b o, s.heap.get? b = some o → b ≠ h1.objs.size ∧ (h1.push (seqObj "list" vs.toArray 0)).get? b = some o := fun b o q => ⟨Nat.ne_of_lt (Heap.lt_size (k1 b o q)), Heap.get?_push_of_some _ (k1 b o q)⟩
  show wpAny _ _ _ _ _ { s with heap := h1.push (seqObj "list" vs.toArray 0) }
  refine wpAny_bind (wpAny_holding (wpAny_call_entry slot_list_sort ⟨_, hoL, rfl⟩ entry_list_sort (SrtO.list_sort_ord (SrtO.swo_lex k) hoL hz (fun h2 => ?_) fun out hs hb => ⟨_, rfl, ?_⟩) (args_list_sort _)))
  · refine SrtO.pairs_sortableO (s := { s with heap := h1.push (seqObj "list" vs.toArray 0) }) (by omega) (fun v hm => (hp v hm).keeps fun b o e _ => (keep b o e).2) fun o e => ?_
    have e' : some o = some (seqObj "list" vs.toArray 0) := e.symm.trans hoL
    cases e'
    intro c
    exact absurd (Value.type.inj c) (by decide)
  · exact wpAny_pure ⟨_, rfl, h _ _ out hs hb (fun b o e => (sortedHeap_old (keep b o e).1 (Nat.lt_of_lt_of_le (Heap.lt_size (k1 b o e)) (by rw [size_push']; exact Nat.le_succ _))).trans (keep b o e).2) z1 (sortedHeap_at hoL)⟩
end
end Px
set_option Elab.async false
set_option linter.all false
set_option maxRecDepth 100000
set_option maxHeartbeats 1000000
namespace Px
open PySem PySem.Spec PyProof.Rows L2 HT
theorem bounds_fwd (n : Nat) : sliceBounds none none (some 1) n = (0, (n : Int), 1) := by
  first
  | rfl
  | simp [sliceBounds]
theorem pick_fwd (items : Array Value) : slicePick items none none (some 1) = items.toList.toArray := by
  unfold slicePick
  rw [bounds_fwd]
  have e : sliceRange 0 (items.size : Int) 1 = List.range items.size := by
    unfold sliceRange
    have h1 : (1 : Int) > 0 := by decide
    simp only [h1, if_true]
    by_cases h : (0 : Int) < items.size
    · rw [if_pos h, show ((items.size : Int) - 0 + 1 - 1) / 1 = (items.size : Int) by rw [Int.ediv_one]; omega, Int.toNat_natCast]
      refine (List.map_congr_left fun k _ => ?_).trans (List.map_id _)
      show (0 + 1 * (k : Int)).toNat = k
      omega
    · rw [if_neg h]
      have : items.size = 0 := by omega
      rw [this]; rfl
  show ((sliceRange 0 (items.size : Int) 1).filterMap (items[·]?)).toArray = _
  rw [e, PySem.W.krv_all]
/-- xs[::k] of a list, k one or minus one -/
def tStpL (K : PySem.W.Frag) (te tk : TE) : TE := fun σ H Q => te σ H fun x H1 => tk σ H1 fun y H2 => ∃ a xs i, x = .ref a ∧ y = .int i ∧ SqL K H2 a xs ∧ (i = 1 ∨ i = -1) ∧ ∀ p, H2 p = none → Q (.ref p) (upd H2 p (.lst (if i = 1 then xs else xs.reverse)))
theorem pe_stpL {X : Cx} {e k : Expr} {te tk : TE} {p3 pos : Pos} (he : PE X e te) (hk : PE X k tk) : PE X (.Subscript e (.Slice none none (some k) p3) pos) (tStpL X.K te tk) := by
  refine ⟨fun pins s σ H Q I h => ?_⟩
  refine Subscript_ (thn (he.run pins s σ H _ I h) fun v s1 ⟨x, H1, I1, r1, q1⟩ => ?_)
  refine wpAny_Slice (thn (po_none.run pins s1 σ H1 (fun o H2 => o = none ∧ H2 = H1) I1 ⟨rfl, rfl⟩) fun v1 s2 ⟨o1, H2, I2, i1, z1, w1⟩ => ?_)
  subst z1 w1
  refine thn (po_none.run pins s2 σ H2 (fun o H3 => o = none ∧ H3 = H2) I2 ⟨rfl, rfl⟩) fun v2 s3 ⟨o2, H3, I3, i2, z2, w2⟩ => ?_
  subst z2 w2
  rw [evalPart_some]
  refine thn (hk.run pins s3 σ H3 _ I3 q1) fun v3 s4 ⟨y, H4, I4, r4, a, xs, i, ex, ey, hx, hi, q⟩ => ?_
  subst ex ey
  cases r1
  obtain ⟨t, rfl⟩ := r4
  have i3 : IsPart (.int i t) (some i) := .int i t
  cases i1
  cases i2
  have new := Heap.IsSliceOf.new s4.heap Value.none Value.none (.int i t)
  have I5 : Inv X pins σ H4 { s4 with heap := s4.heap.push { cls := .type "slice", data := .fields #[.none, .none, .int i t] } } := I4.kept (t' := s4.toks) fun b ob q => Heap.get?_push_of_some _ q
  show wpAny (model X.prog X.w) X.A (subscriptTail e (.Slice none none (some k) p3) (.ref a) (.ref s4.heap.objs.size)) (EP X pins σ Q) X.xe { s4 with heap := s4.heap.push { cls := .type "slice", data := .fields #[.none, .none, .int i t] } }
  obtain ⟨its, r, ht, hz⟩ := I5.list hx
  have hlen := r.length
  refine tail_any (ops := [.ref a, .ref s4.heap.objs.size]) ht.isList.typeIs (PySem.slot_list_getitem.lookup) ?_ (by with_unfolding_all rfl)
  rcases hi with rfl | rfl
  · refine wpAny_getItem_list_slice ht.isList new .none .none i3 (by decide) ?_ (by rw [List.size_toArray]; omega)
    rw [pick_fwd]
    refine ⟨.ref _, _, I5.laid (t' := s4.toks) (o := .lst xs) (fun b ob q => Heap.get?_push_of_some _ q) (Nat.le_refl _) ?_, rfl, q _ (I5.hok.fresh (Nat.le_refl _))⟩
    exact ⟨hz, _, 0, r, Heap.get?_push_size _ rfl⟩
  · refine wpAny_getItem_list_slice ht.isList new .none .none i3 (by decide) ?_ (by rw [List.size_toArray]; omega)
    rw [PySem.W.krv_pick]
    refine ⟨.ref _, _, I5.laid (t' := s4.toks) (o := .lst xs.reverse) (fun b ob q => Heap.get?_push_of_some _ q) (Nat.le_refl _) ?_, rfl, q _ (I5.hok.fresh (Nat.le_refl _))⟩
    exact ⟨by rw [List.length_reverse]; exact hz, _, 0, r.reverse, Heap.get?_push_size _ rfl⟩
end Px
set_option Elab.async false
set_option linter.all false
set_option maxRecDepth 100000
set_option maxHeartbeats 4000000
namespace Px
open PySem PySem.Spec PyProof.Rows L2
theorem LookR.isNon {K : PySem.W.Frag} {g : Gh} {d : D} {v : V} (h : LookR K g d v) : decide (v = .non) = d.isNon := by
  cases d with
  | non => cases h.non; rfl
  | bl b => cases h.bl; rfl
  | int b => cases h.int; rfl
  | str b => cases h.str; rfl
  | lst xs => obtain ⟨a, vs, rfl, _⟩ := h.lst; rfl
  | tup xs => have h' : g.Rep K (.tup xs) v := h; cases h'; rfl
  | scr xs => have h' : g.Rep K (.scr xs) v := h; cases h'; rfl
  | dic _ => have h' : g.Rep K (.dic _) v := h; cases h'; rfl
  | ref i => have h' : g.Rep K (.ref i) v := h; cases h'; rfl
def semC (o : Cop) (a b : Rv) : Option Rv := (opCmp o a b).map fun k => .val (.bl k)
theorem shaped_lay {d : PyData} (h : SeqAt.shaped d = true) : d.canLay0 = true := SeqAt.canLay_of_shaped h
section
variable {X : Cx} {E : L2.St → XK}
theorem reps_int {K : PySem.W.Frag} {sa : List Addr} {R : Hp} : ∀ {xs : List D} {vs : List V} {ns : List Int}, Reps K sa R xs vs → dInts xs = some ns → vs = ns.map V.int
  | [], vs, ns, r, e => by cases r; cases e; rfl
  | x :: xs, vs, ns, r, e => by
    cases r with
    | cons r1 r2 =>
    cases x <;> first | (cases e; done) | skip
    rename_i z
    have e' : (dInts xs).map (z :: ·) = some ns := e
    obtain ⟨ms, e2, rfl⟩ := Option.map_eq_some_iff.mp e'
    cases r1
    rw [reps_int r2 e2]
    rfl
theorem gt_tup (room : X.A.units < cLine) {pins : List (Addr × Obj)} {s : Shared} {σ : L2.St} {H : Hp} {a b : Addr} {ns ms : List Int} {Q : VK} (I : Inv X pins σ H s) (ha : SqT X.K H a (ns.map V.int)) (hb : SqT X.K H b (ms.map V.int)) (q : Q (.bl (gtV ns ms)) H) :
    wpAny (model X.prog X.w) X.A (compareOp .Gt (.ref a) (.ref b)) (EP X pins σ Q) X.xe s := by
  obtain ⟨us, ru, tu, _⟩ := I.tuple ha
  obtain ⟨ws, rw', tw, _⟩ := I.tuple hb
  have iu : IntsAre us ns := Vals.ints ru
  have iw : IntsAre ws ms := Vals.ints rw'
  have lu : us.toArray.size = ns.length := by rw [List.size_toArray, iu.length]
  have lw : ws.toArray.size = ms.length := by rw [List.size_toArray, iw.length]
  have nu : ∀ j (k : j < us.toArray.size), ∃ t, us.toArray[j] = .int (ns.getD j 0) t := fun j k => PyProof.Rows.IntsAre.int_at iu _ _ (by rw [List.size_toArray] at k; simp [k])
  have nw : ∀ j (k : j < ws.toArray.size), ∃ t, ws.toArray[j] = .int (ms.getD j 0) t := fun j k => PyProof.Rows.IntsAre.int_at iw _ _ (by rw [List.size_toArray] at k; simp [k])
  have same : ∀ j, (ns.getD j 0 == ms.getD j 0) = decide (ns.getD j 0 = ms.getD j 0) := fun j => by
    by_cases k : ns.getD j 0 = ms.getD j 0
    · rw [decide_eq_true k, k]; exact beq_self_eq_true _
    · rw [decide_eq_false k]; exact beq_eq_false_iff_ne.mpr k
  have key := Ob.RcOp.tuples_gt (A := X.A) (s := s) (e := fun j => decide (ns.getD j 0 = ms.getD j 0)) (r := fun j => decide (ms.getD j 0 < ns.getD j 0)) tu tw room
    (fun j h1 h2 => by
      obtain ⟨t1, w1⟩ := nu j h1
      obtain ⟨t2, w2⟩ := nw j h2
      rw [w1, w2, ← same j]
      exact SeqAt.EqAt.int_int _ _ _ _)
    (fun j h1 h2 _ => by
      obtain ⟨t1, w1⟩ := nu j h1
      obtain ⟨t2, w2⟩ := nw j h2
      rw [w1, w2]
      exact Ob.RcOp.gt_int _ _ _ _)
  rw [lu, lw] at key
  exact key X.prog X.w X.xe (EP X pins σ Q) ⟨.bl _, H, I, rfl, q⟩
theorem ge_tup (room : X.A.units < cLine) {pins : List (Addr × Obj)} {s : Shared} {σ : L2.St} {H : Hp} {a b : Addr} {ns ms : List Int} {Q : VK} (I : Inv X pins σ H s) (ha : SqT X.K H a (ns.map V.int)) (hb : SqT X.K H b (ms.map V.int)) (q : Q (.bl (geV ns ms)) H) :
    wpAny (model X.prog X.w) X.A (compareOp .GtE (.ref a) (.ref b)) (EP X pins σ Q) X.xe s := by
  obtain ⟨us, ru, tu, _⟩ := I.tuple ha
  obtain ⟨ws, rw', tw, _⟩ := I.tuple hb
  have iu : IntsAre us ns := Vals.ints ru
  have iw : IntsAre ws ms := Vals.ints rw'
  have lu : us.toArray.size = ns.length := by rw [List.size_toArray, iu.length]
  have lw : ws.toArray.size = ms.length := by rw [List.size_toArray, iw.length]
  have nu : ∀ j (k : j < us.toArray.size), ∃ t, us.toArray[j] = .int (ns.getD j 0) t := fun j k => PyProof.Rows.IntsAre.int_at iu _ _ (by rw [List.size_toArray] at k; simp [k])
  have nw : ∀ j (k : j < ws.toArray.size), ∃ t, ws.toArray[j] = .int (ms.getD j 0) t := fun j k => PyProof.Rows.IntsAre.int_at iw _ _ (by rw [List.size_toArray] at k; simp [k])
  have same : ∀ j, (ns.getD j 0 == ms.getD j 0) = decide (ns.getD j 0 = ms.getD j 0) := fun j => by
    by_cases k : ns.getD j 0 = ms.getD j 0
    · rw [decide_eq_true k, k]; exact beq_self_eq_true _
    · rw [decide_eq_false k]; exact beq_eq_false_iff_ne.mpr k
  have key := Ob.RcOp.tuples_ge (A := X.A) (s := s) (e := fun j => decide (ns.getD j 0 = ms.getD j 0)) (r := fun j => decide (ms.getD j 0 ≤ ns.getD j 0)) tu tw room
    (fun j h1 h2 => by
      obtain ⟨t1, w1⟩ := nu j h1
      obtain ⟨t2, w2⟩ := nw j h2
      rw [w1, w2, ← same j]
      exact SeqAt.EqAt.int_int _ _ _ _)
    (fun j h1 h2 _ => by
      obtain ⟨t1, w1⟩ := nu j h1
      obtain ⟨t2, w2⟩ := nw j h2
      rw [w1, w2]
      exact Ob.RcOp.ge_int _ _ _ _)
  rw [lu, lw] at key
  exact key X.prog X.w X.xe (EP X pins σ Q) ⟨.bl _, H, I, rfl, q⟩
theorem lt_tup (room : X.A.units < cLine) {pins : List (Addr × Obj)} {s : Shared} {σ : L2.St} {H : Hp} {a b : Addr} {ns ms : List Int} {Q : VK} (I : Inv X pins σ H s) (ha : SqT X.K H a (ns.map V.int)) (hb : SqT X.K H b (ms.map V.int)) (q : Q (.bl (ltV ns ms)) H) :
    wpAny (model X.prog X.w) X.A (compareOp .Lt (.ref a) (.ref b)) (EP X pins σ Q) X.xe s := by
  obtain ⟨us, ru, tu, _⟩ := I.tuple ha
  obtain ⟨ws, rw', tw, _⟩ := I.tuple hb
  have iu : IntsAre us ns := Vals.ints ru
  have iw : IntsAre ws ms := Vals.ints rw'
  have lu : us.toArray.size = ns.length := by rw [List.size_toArray, iu.length]
  have lw : ws.toArray.size = ms.length := by rw [List.size_toArray, iw.length]
  have nu : ∀ j (k : j < us.toArray.size), ∃ t, us.toArray[j] = .int (ns.getD j 0) t := fun j k => PyProof.Rows.IntsAre.int_at iu _ _ (by rw [List.size_toArray] at k; simp [k])
  have nw : ∀ j (k : j < ws.toArray.size), ∃ t, ws.toArray[j] = .int (ms.getD j 0) t := fun j k => PyProof.Rows.IntsAre.int_at iw _ _ (by rw [List.size_toArray] at k; simp [k])
  have same : ∀ j, (ns.getD j 0 == ms.getD j 0) = decide (ns.getD j 0 = ms.getD j 0) := fun j => by
    by_cases k : ns.getD j 0 = ms.getD j 0
    · rw [decide_eq_true k, k]; exact beq_self_eq_true _
    · rw [decide_eq_false k]; exact beq_eq_false_iff_ne.mpr k
  have key := Ob.RcOp.tuples_lt (A := X.A) (s := s) (e := fun j => decide (ns.getD j 0 = ms.getD j 0)) (r := fun j => decide (ns.getD j 0 < ms.getD j 0)) tu tw room
    (fun j h1 h2 => by
      obtain ⟨t1, w1⟩ := nu j h1
      obtain ⟨t2, w2⟩ := nw j h2
      rw [w1, w2, ← same j]
      exact SeqAt.EqAt.int_int _ _ _ _)
    (fun j h1 h2 _ => by
      obtain ⟨t1, w1⟩ := nu j h1
      obtain ⟨t2, w2⟩ := nw j h2
      rw [w1, w2]
      exact Ob.RcOp.lt_int _ _ _ _)
  rw [lu, lw] at key
  exact key X.prog X.w X.xe (EP X pins σ Q) ⟨.bl _, H, I, rfl, q⟩
theorem le_tup (room : X.A.units < cLine) {pins : List (Addr × Obj)} {s : Shared} {σ : L2.St} {H : Hp} {a b : Addr} {ns ms : List Int} {Q : VK} (I : Inv X pins σ H s) (ha : SqT X.K H a (ns.map V.int)) (hb : SqT X.K H b (ms.map V.int)) (q : Q (.bl (leV ns ms)) H) :
    wpAny (model X.prog X.w) X.A (compareOp .LtE (.ref a) (.ref b)) (EP X pins σ Q) X.xe s := by
  obtain ⟨us, ru, tu, _⟩ := I.tuple ha
  obtain ⟨ws, rw', tw, _⟩ := I.tuple hb
  have iu : IntsAre us ns := Vals.ints ru
  have iw : IntsAre ws ms := Vals.ints rw'
  have lu : us.toArray.size = ns.length := by rw [List.size_toArray, iu.length]
  have lw : ws.toArray.size = ms.length := by rw [List.size_toArray, iw.length]
  have nu : ∀ j (k : j < us.toArray.size), ∃ t, us.toArray[j] = .int (ns.getD j 0) t := fun j k => PyProof.Rows.IntsAre.int_at iu _ _ (by rw [List.size_toArray] at k; simp [k])
  have nw : ∀ j (k : j < ws.toArray.size), ∃ t, ws.toArray[j] = .int (ms.getD j 0) t := fun j k => PyProof.Rows.IntsAre.int_at iw _ _ (by rw [List.size_toArray] at k; simp [k])
  have same : ∀ j, (ns.getD j 0 == ms.getD j 0) = decide (ns.getD j 0 = ms.getD j 0) := fun j => by
    by_cases k : ns.getD j 0 = ms.getD j 0
    · rw [decide_eq_true k, k]; exact beq_self_eq_true _
    · rw [decide_eq_false k]; exact beq_eq_false_iff_ne.mpr k
  have key := Ob.RcOp.tuples_le (A := X.A) (s := s) (e := fun j => decide (ns.getD j 0 = ms.getD j 0)) (r := fun j => decide (ns.getD j 0 ≤ ms.getD j 0)) tu tw room
    (fun j h1 h2 => by
      obtain ⟨t1, w1⟩ := nu j h1
      obtain ⟨t2, w2⟩ := nw j h2
      rw [w1, w2, ← same j]
      exact SeqAt.EqAt.int_int _ _ _ _)
    (fun j h1 h2 _ => by
      obtain ⟨t1, w1⟩ := nu j h1
      obtain ⟨t2, w2⟩ := nw j h2
      rw [w1, w2]
      exact Ob.RcOp.le_int _ _ _ _)
  rw [lu, lw] at key
  exact key X.prog X.w X.xe (EP X pins σ Q) ⟨.bl _, H, I, rfl, q⟩
/-- by what is looked at -/
def rLk (K : PySem.W.Frag) (E : L2.St → XK) (sem : D → D → Option Rv) : R2 := fun x y H Q => ∃ g d1 d2, g.H = H ∧ Gok K g ∧ LookR K g d1 x ∧ LookR K g d2 y ∧ Post K noE (RvR K) g (Res.opt (sem d1 d2) g.S) Q
def semD (o : Cop) (a b : D) : Option Rv := (opCmpD o a b).map fun k => .val (.bl k)
theorem eqE_at {A : Around} {pins : List (Addr × Obj)} {s : Shared} {σ : L2.St} {g : Gh} {d1 d2 : D} {x y : V} {v u : Value} {k : Bool} (hu : A.units + 64 < cLine) (I : Inv X pins σ g.H s) (ok : Gok X.K g) (l1 : LookR X.K g d1 x) (l2 : LookR X.K g d2 y)
    (rx : RelV x v) (ry : RelV y u) (h : eqE d1 d2 = some k) : k = false ∧ SeqAt.RcAt A s v u false ∧ SeqAt.RcNeAt A s v u true := by
  have hu0 : A.units < cLine := by omega
  unfold eqE at h
  split at h <;> first | cases h | skip
  · refine ⟨rfl, ?_⟩
    obtain ⟨a, vs, rfl, h1, z1, q1⟩ := l1.lst
    obtain ⟨b, ws, rfl, h2, z2, q2⟩ := l2.lst
    cases q1
    cases q2
    obtain ⟨its, rv, ⟨o, n, ho, hc, _, hd⟩, _⟩ := I.list (SqL.of h1)
    obtain ⟨its', rv', ⟨o', n', ho', hc', _, hd'⟩, _⟩ := I.list (SqL.of h2)
    cases rx
    cases ry
    cases rv
    cases rv'
    exact ⟨SeqAt.RcAt.lists_lengths ⟨_, ho, hc, _, hd⟩ ⟨_, ho', hc', _, hd'⟩ (by simp) hu0, SeqAt.RcNeAt.lists_lengths ⟨_, ho, hc, _, hd⟩ ⟨_, ho', hc', _, hd'⟩ (by simp) hu0⟩
  · refine ⟨rfl, ?_⟩
    obtain ⟨a, vs, rfl, _, h1, z1, q1⟩ := l1.tup ok
    obtain ⟨b, ws, rfl, _, h2, z2, q2⟩ := l2.tup ok
    cases q1
    cases q2
    obtain ⟨its, rv, ⟨o, ho, hc, n, hd⟩, _⟩ := I.tuple h1
    obtain ⟨its', rv', ⟨o', ho', hc', n', hd'⟩, _⟩ := I.tuple h2
    cases rx
    cases ry
    cases rv
    cases rv'
    have k1 := SeqAt.RcAt.tuples (A := A) (e := fun _ => true) ⟨_, ho, hc, _, hd⟩ ⟨_, ho', hc', _, hd'⟩ hu0 (fun j _ h2 => absurd h2 (by simp))
    have k2 := SeqAt.RcNeAt.tuples (A := A) (e := fun _ => true) ⟨_, ho, hc, _, hd⟩ ⟨_, ho', hc', _, hd'⟩ hu0 (fun j _ h2 => absurd h2 (by simp))
    exact ⟨by simpa using k1, by simpa using k2⟩
theorem op_cmpL (hu65 : X.A.units + 65 < cLine) : ∀ o : Cop, OpR X (compareOp o.op) (rLk X.K E (semD o)) := by
  have hu : X.A.units + 64 < cLine := by omega
  intro o pins s σ H x y v u Q I rx ry ⟨g, d1, d2, e, ok, l1, l2, h⟩
  subst e
  unfold semD at h
  unfold opCmpD at h
  split at h <;> first | exact (Post.no h).elim | skip
  · unfold eqD at h
    split at h
    case isFalse =>
      cases ek : eqE d1 d2 with
      | none => rw [ek] at h; exact (Post.no h).elim
      | some k =>
        rw [ek] at h
        obtain ⟨rfl, k1, _⟩ := eqE_at (A := X.A) hu I ok l1 l2 rx ry ek
        exact k1 X.prog X.w X.xe (EP X pins σ Q) ⟨.bl _, g.H, I, rfl, Post.val h ok rfl (.bl _)⟩
    rename_i hs
    exact op_eqD hu pins s σ g.H _ _ v u Q I rx ry ⟨_, _, l1.dp ok (shaped_lay hs.1), l2.dp ok (shaped_lay hs.2), hs.1, hs.2, Post.val h ok rfl (.bl _)⟩
  · unfold eqD at h
    split at h
    case isFalse =>
      cases ek : eqE d1 d2 with
      | none => rw [ek] at h; exact (Post.no h).elim
      | some k =>
        rw [ek] at h
        obtain ⟨rfl, _, k1⟩ := eqE_at (A := X.A) hu I ok l1 l2 rx ry ek
        exact k1 X.prog X.w X.xe (EP X pins σ Q) ⟨.bl _, g.H, I, rfl, Post.val h ok rfl (.bl _)⟩
    rename_i hs
    exact op_neD hu pins s σ g.H _ _ v u Q I rx ry ⟨_, _, l1.dp ok (shaped_lay hs.1), l2.dp ok (shaped_lay hs.2), hs.1, hs.2, Post.val h ok rfl (.bl _)⟩
  · cases l1.int; cases l2.int
    exact op_lt pins s σ g.H _ _ v u Q I rx ry ⟨_, _, rfl, rfl, Post.val h ok rfl (.bl _)⟩
  · cases l1.int; cases l2.int
    exact op_le pins s σ g.H _ _ v u Q I rx ry ⟨_, _, rfl, rfl, Post.val h ok rfl (.bl _)⟩
  · cases l1.int; cases l2.int
    exact op_gt pins s σ g.H _ _ v u Q I rx ry ⟨_, _, rfl, rfl, Post.val h ok rfl (.bl _)⟩
  · cases l1.int; cases l2.int
    exact op_ge pins s σ g.H _ _ v u Q I rx ry ⟨_, _, rfl, rfl, Post.val h ok rfl (.bl _)⟩
  · rename_i xs ys
    split at h
    case h_2 => exact (Post.no h).elim
    rename_i ns ms en em
    obtain ⟨a, vs, rfl, s1, t1, z1, q1⟩ := l1.tup ok
    obtain ⟨b, us, rfl, s2, t2, z2, q2⟩ := l2.tup ok
    cases rx
    cases ry
    rw [reps_int q1 en] at t1
    rw [reps_int q2 em] at t2
    exact gt_tup (by omega) I t1 t2 (Post.val h ok rfl (.bl _))
  · rename_i xs ys
    split at h
    case h_2 => exact (Post.no h).elim
    rename_i ns ms en em
    obtain ⟨a, vs, rfl, s1, t1, z1, q1⟩ := l1.tup ok
    obtain ⟨b, us, rfl, s2, t2, z2, q2⟩ := l2.tup ok
    cases rx
    cases ry
    rw [reps_int q1 en] at t1
    rw [reps_int q2 em] at t2
    exact ge_tup (by omega) I t1 t2 (Post.val h ok rfl (.bl _))
  · rename_i xs ys
    split at h
    case h_2 => exact (Post.no h).elim
    rename_i ns ms en em
    obtain ⟨a, vs, rfl, s1, t1, z1, q1⟩ := l1.tup ok
    obtain ⟨b, us, rfl, s2, t2, z2, q2⟩ := l2.tup ok
    cases rx
    cases ry
    rw [reps_int q1 en] at t1
    rw [reps_int q2 em] at t2
    exact lt_tup (by omega) I t1 t2 (Post.val h ok rfl (.bl _))
  · rename_i xs ys
    split at h
    case h_2 => exact (Post.no h).elim
    rename_i ns ms en em
    obtain ⟨a, vs, rfl, s1, t1, z1, q1⟩ := l1.tup ok
    obtain ⟨b, us, rfl, s2, t2, z2, q2⟩ := l2.tup ok
    cases rx
    cases ry
    rw [reps_int q1 en] at t1
    rw [reps_int q2 em] at t2
    exact le_tup (by omega) I t1 t2 (Post.val h ok rfl (.bl _))
  · cases l2.non
    refine op_isN pins s σ g.H _ _ v u Q I rx ry ⟨rfl, ?_⟩
    rw [l1.isNon]
    exact Post.val h ok rfl (.bl _)
  · cases l2.non
    refine op_notN pins s σ g.H _ _ v u Q I rx ry ⟨rfl, ?_⟩
    rw [l1.isNon]
    exact Post.val h ok rfl (.bl _)
  · cases l1.bl; cases l2.bl
    exact op_is_bl pins s σ g.H _ _ v u Q I rx ry ⟨_, _, rfl, rfl, Post.val h ok rfl (.bl _)⟩
  · cases l1.bl; cases l2.bl
    exact op_isnot_bl pins s σ g.H _ _ v u Q I rx ry ⟨_, _, rfl, rfl, Post.val h ok rfl (.bl _)⟩
  · unfold inD at h
    split at h
    case isFalse => exact h.elim
    rename_i hs
    exact op_inD hu65 pins s σ g.H _ _ v u Q I rx ry ⟨_, _, l1.dp ok (shaped_lay hs.1), l2.dp ok (shaped_lay hs.2), hs.1, hs.2, Post.val h ok rfl (.bl _)⟩
  · unfold inD at h
    split at h
    case isFalse => exact h.elim
    rename_i hs
    exact op_inT hu65 pins s σ g.H _ _ v u Q I rx ry ⟨_, _, l1.dp ok (shaped_lay hs.1), l2.dp ok (shaped_lay hs.2), hs.1, hs.2, Post.val h ok rfl (.bl _)⟩
  · unfold inD at h
    split at h
    case isFalse => exact h.elim
    rename_i hs
    exact op_notInD hu65 pins s σ g.H _ _ v u Q I rx ry ⟨_, _, l1.dp ok (shaped_lay hs.1), l2.dp ok (shaped_lay hs.2), hs.1, hs.2, Post.val h ok rfl (.bl _)⟩
  · unfold inD at h
    split at h
    case isFalse => exact h.elim
    rename_i hs
    exact op_ninT hu65 pins s σ g.H _ _ v u Q I rx ry ⟨_, _, l1.dp ok (shaped_lay hs.1), l2.dp ok (shaped_lay hs.2), hs.1, hs.2, Post.val h ok rfl (.bl _)⟩
theorem op_cmpS (hu65 : X.A.units + 65 < cLine) : ∀ o : Cop, OpR X (compareOp o.op) (rOp2 X.K E (semC o)) := fun o pins s σ H x y v u Q I rx ry ⟨g0, g, ra, rb, e, ok, r1, r2, h⟩ =>
  op_cmpL (E := E) hu65 o pins s σ H x y v u Q I rx ry ⟨g, ra.look, rb.look, e, ok, r1.lookR ok, r2.lookR ok, h⟩
theorem op_binS : ∀ o : Bop, OpR X (binaryOp o.op) (rOp2 X.K E (opBin o))
  | .add => op_addS
  | .sub => op_subS
  | .mul => op_mulS
  | .fdiv => op_fdivS
  | .mod => op_modS
  | .pow => op_powS
  | .shl => op_shlS
  | .shr => op_shrS
  | .band => op_bandS
  | .bor => op_borS
theorem atI_rep {K : PySem.W.Frag} {g : Gh} {xs : List D} {vs : List V} {i : Int} {d : D} (r : g.Reps K xs vs) (h : ixD xs i = some d) : ∃ v, atI vs i = some v ∧ g.Rep K d v := by
  unfold ixD atI at h
  unfold atI
  rw [← r.length]
  cases e : ixN xs.length i with
  | none => rw [e] at h; cases h
  | some j =>
    rw [e] at h
    obtain ⟨v, q1, q2⟩ := r.get (show xs[j]? = some d from h)
    exact ⟨v, q1, q2⟩
theorem ix_L : IxR X (rLk X.K E opIxD) := by
  intro value slice pins s σ H x y v u Q I rx ry ⟨g, d1, d2, e, ok, l1, l2, h⟩ hs
  subst e
  unfold opIxD at h
  split at h <;> first | exact (Post.no h).elim | skip
  · obtain ⟨a, vs, rfl, s1, t1, z1, q1⟩ := l1.tup ok
    cases l2.int
    rename_i xs i
    cases e : ixD xs i with
    | none => rw [e] at h; exact h.elim
    | some d =>
      rw [e] at h
      obtain ⟨z, hz, rz⟩ := atI_rep q1 e
      exact ix_tup value slice pins s σ g.H _ _ v u Q I rx ry ⟨_, _, _, _, rfl, rfl, t1, hz, Post.val h ok rfl rz⟩ hs
  · obtain ⟨a, vs, rfl, h1, z1, q1⟩ := l1.lst
    cases l2.int
    rename_i xs i
    cases e : ixD xs i with
    | none => rw [e] at h; exact h.elim
    | some d =>
      rw [e] at h
      obtain ⟨z, hz, rz⟩ := atI_rep q1 e
      exact ix_list value slice pins s σ g.H _ _ v u Q I rx ry ⟨_, _, _, _, rfl, rfl, SqL.of h1, hz, Post.val h ok rfl rz⟩ hs
theorem ix_S : IxR X (rOp2 X.K E opIx) := by
  intro value slice pins s σ H x y v u Q I rx ry ⟨g0, g, ra, rb, e, ok, r1, r2, h⟩ hs
  exact ix_L (E := E) value slice pins s σ H x y v u Q I rx ry ⟨g, ra.look, rb.look, e, ok, r1.lookR ok, r2.lookR ok, h⟩ hs
def rSlS (K : PySem.W.Frag) (E : L2.St → XK) : V → Option Int → Option Int → Hp → VK → Prop := fun x lo hi H Q =>
  ∃ g0 g ra, g.H = H ∧ Gok K g ∧ RvR K g0 g ra x ∧ Post K noE (RvR K) g (Res.opt (opSl ra lo hi) g.S) Q
theorem Reps.slc {K : PySem.W.Frag} {g : Gh} {xs : List D} {vs : List V} (r : g.Reps K xs vs) (lo hi : Option Int) : g.Reps K (Px.slc xs lo hi) (cutV vs lo hi) := by
  unfold Px.slc cutV
  rw [r.length]
  exact (Reps.drop _ r).take _
theorem slc_len {α : Type} (xs : List α) (lo hi : Option Int) : (Px.slc xs lo hi).length ≤ xs.length := by
  unfold Px.slc
  rw [List.length_take, List.length_drop]
  omega
theorem sl_S : SlR X (rSlS X.K E) := by
  intro pins s σ H x v vl vu lo hi sl Q I rx hs pl pu ⟨g0, g, ra, e, ok, r1, h⟩
  subst e
  have l1 := r1.lookR ok
  unfold opSl at h
  generalize ra.look = d1 at h l1
  unfold opSlD at h
  split at h <;> first | exact (Post.no h).elim | skip
  · rename_i xs
    obtain ⟨a, vs, rfl, s1, t1, z1, q1⟩ := l1.tup ok
    refine sl_tupA pins s σ g.H _ v vl vu lo hi sl Q I rx hs pl pu ⟨a, vs, rfl, t1, fun ⟨e1, e2⟩ => ?_, fun _ => ?_⟩
    · refine Post.val h ok rfl ?_
      have e3 : Px.slc xs lo hi = xs := by
        have hl := q1.length
        unfold Px.slc
        rw [hl, e1, e2, ← hl]
        simp
      rw [e3]
      exact .tup s1 z1 q1
    · exact Post.tup h ok rfl (q1.slc lo hi) (Nat.le_trans (slc_len _ _ _) z1)
  · obtain ⟨a, vs, rfl, h1, z1, q1⟩ := l1.lst
    exact sl_list pins s σ g.H _ v vl vu lo hi sl Q I rx hs pl pu ⟨a, vs, rfl, SqL.of h1, Post.fresh h ok rfl (q1.slc lo hi) (Nat.le_trans (slc_len _ _ _) z1)⟩
  · obtain ⟨a, vs, rfl, h1, z1, q1⟩ := l1.scr ok
    exact sl_list pins s σ g.H _ v vl vu lo hi sl Q I rx hs pl pu ⟨a, vs, rfl, h1, Post.fresh h ok rfl (q1.slc lo hi) (Nat.le_trans (slc_len _ _ _) z1)⟩
end
end Px
set_option Elab.async false
set_option linter.all false
set_option maxRecDepth 100000
set_option maxHeartbeats 1000000
namespace Px
open PySem PySem.Spec PyProof.Rows L2
theorem paired_at {α β : Type} {R : α → β → Prop} : ∀ {as : List α} {bs : List β} {i : Nat} {b : β}, Paired R as bs → bs[i]? = some b → ∃ a, R a b
  | _, _, _, _, .nil, h => by simp at h
  | _, _, 0, _, .cons r _, h => by simp at h; subst h; exact ⟨_, r⟩
  | _, _, i + 1, _, .cons _ t, h => paired_at (i := i) t (by simpa using h)
theorem dInts_len : ∀ {xs : List D} {ns : List Int}, dInts xs = some ns → ns.length = xs.length
  | [], ns, e => by cases e; rfl
  | x :: xs, ns, e => by
    cases x <;> first | (cases e; done) | skip
    rename_i z
    have e' : (dInts xs).map (z :: ·) = some ns := e
    obtain ⟨ms, e2, rfl⟩ := Option.map_eq_some_iff.mp e'
    rw [List.length_cons, List.length_cons, dInts_len e2]
def pairD (p : Int × Int) : D := .tup [.int p.1, .int p.2]
theorem dPairs_reps {K : PySem.W.Frag} {g : Gh} : ∀ {xs : List D} {vs : List V} {ps : List (Int × Int)}, g.Reps K xs vs → dPairs xs = some ps → xs = ps.map pairD ∧ Paired (fun (p : Int × Int) (v : V) => ∃ t, v = .ref t ∧ SqT K g.R t [.int p.1, .int p.2]) ps vs
  | [], vs, ps, r, h => by
    cases r
    cases h
    exact ⟨rfl, .nil⟩
  | d :: ds, vs, ps, r, h => by
    cases r with | cons r1 r2 =>
    unfold dPairs at h
    split at h
    · rename_i e
      cases e
    · rename_i i j rest e
      obtain ⟨e1, e2⟩ := List.cons.inj e
      subst e1 e2
      obtain ⟨qs, e3, e4⟩ := Option.map_eq_some_iff.mp h
      subst e4
      obtain ⟨h1, h2⟩ := dPairs_reps r2 e3
      refine ⟨by rw [h1]; rfl, .cons ?_ h2⟩
      cases r1 with | tup a l q =>
      cases q with | cons q1 q =>
      cases q with | cons q2 q =>
      cases q
      cases q1
      cases q2
      exact ⟨_, rfl, a⟩
    · cases h
theorem leP_tr (a b c : Int × Int) (h1 : leP a b = true) (h2 : leP b c = true) : leP a c = true := by
  unfold leP at *
  simp only [Bool.or_eq_true, Bool.and_eq_true, decide_eq_true_eq] at *
  omega
theorem leP_to (a b : Int × Int) : (leP a b || leP b a) = true := by
  unfold leP
  simp only [Bool.or_eq_true, Bool.and_eq_true, decide_eq_true_eq]
  omega
theorem leP_no {a b : Int × Int} (h : SrtO.lexB b a = false) : leP a b = true := by
  have := SrtO.lexB_no.mp h
  unfold leP
  simp only [Bool.or_eq_true, Bool.and_eq_true, decide_eq_true_eq]
  omega
theorem leP_anti {a b : Int × Int} (h1 : leP a b = true) (h2 : leP b a = true) : a = b := by
  unfold leP at *
  simp only [Bool.or_eq_true, Bool.and_eq_true, decide_eq_true_eq] at *
  exact Prod.ext (by omega) (by omega)
open Classical in
/-- the pair at a value -/
noncomputable def keyV (K : PySem.W.Frag) (H : Hp) (v : V) : Int × Int := if h : ∃ (p : Int × Int) (t : Addr), v = .ref t ∧ SqT K H t [.int p.1, .int p.2] then h.choose else (0, 0)
theorem key_of {X : Cx} {pins : List (Addr × Obj)} {s : Shared} {σ : L2.St} {H : Hp} (I : Inv X pins σ H s) {t : Addr} {p : Int × Int} (h : SqT X.K H t [.int p.1, .int p.2]) : keyV X.K H (.ref t) = p := by
  have ex : ∃ (p : Int × Int) (t' : Addr), V.ref t = .ref t' ∧ SqT X.K H t' [.int p.1, .int p.2] := ⟨p, t, rfl, h⟩
  unfold keyV
  rw [dif_pos ex]
  obtain ⟨t', e, q⟩ := ex.choose_spec
  cases e
  have := I.tuple_inj q h
  injection this with e1 e2
  injection e2 with e2 _
  injection e1 with e1
  injection e2 with e2
  exact Prod.ext e1 e2
section
variable {X : Cx} {E : L2.St → XK}
/-- max of a tuple of numbers -/
theorem cr_maxT (hc : X.calm = true) : CallR X (.builtin "max") (fun vs H Q => ∃ (a : Addr) (ns : List Int), vs = [V.ref a] ∧ SqT X.K H a (ns.map V.int) ∧ 0 < ns.length ∧ ∀ m, m ∈ ns → (∀ y, y ∈ ns → y ≤ m) → Q (.int m) H) := by
  intro pins s σ H vs us Q I r h
  obtain ⟨l, ns, rfl, hs, hne, q⟩ := h
  obtain ⟨its, rv, hl, _⟩ := I.tuple hs
  rw [Vals.ref1 r]
  have hi := rv.ints
  obtain ⟨xs, e⟩ := hi.allInts.items
  have hn : PySem.numsOf (intItems xs).toList = ns := by rw [← e]; exact hi.numsOf
  rw [nums_intItems] at hn
  subst hn
  rw [e] at hl
  have hsz : 0 < xs.size := by simpa using hne
  have hh : X.A.handled = none := I.ok.hd hc
  have hlt : l < s.heap.objs.size := by obtain ⟨_, e, _⟩ := id hl; exact Heap.lt_size e
  refine call_max_walk (wpAny_pyIter_tuple hl ?_)
  have st : (s.heap.push { cls := .type "tuple_iterator", data := .fields #[.ref l, .int 0 0] }).IsTupleIter s.heap.objs.size l 0 ∧ (s.heap.push { cls := .type "tuple_iterator", data := .fields #[.ref l, .int 0 0] }).IsTuple l (intItems xs) := ⟨⟨_, Heap.get?_push_size _ rfl, rfl, rfl⟩, hl.push _⟩
  refine ⟨_, _, _, _, _, _, _, rfl, Walks.tuple (A := X.A.in1) hh _ l (Nat.ne_of_lt hlt) (intItems xs), st, fun b hb => ?_, by simpa [intItems] using hsz, CmpOf.ints_gt (numAt xs) (fun _ _ => intItems_at), fun v h' tk hP hk => ?_⟩
  · show b < (s.heap.push _).objs.size
    rw [Heap.size_push]
    rcases List.mem_cons.mp hb with rfl | hb
    · exact Nat.lt_succ_self _
    · rw [List.mem_singleton.mp hb]; exact Nat.lt_succ_of_lt hlt
  · have hv : (intItems xs)[argBest (fun i j => decide (numAt xs i > numAt xs j)) (xs.size - 1)]? = some v := by simpa [intItems] using hP
    obtain ⟨t, rfl⟩ := intItems_at hv
    obtain ⟨h1, h2⟩ := argBest_gt (numAt xs) (xs.size - 1)
    refine ⟨.int _, H, I.kept (t' := tk) (fun b o e => hk b o (fun hb => absurd (Heap.lt_size e) ((List.mem_singleton.mp hb) ▸ Nat.lt_irrefl _)) (Heap.get?_push_of_some _ e)), ⟨_, rfl⟩, q _ ?_ fun a ha => ?_⟩
    · rw [numAt_eq]; exact PySem.getD_mem (by rw [List.length_map, Array.length_toList]; omega)
    · obtain ⟨j, hj, rfl⟩ := mem_getD ha
      rw [List.length_map, Array.length_toList] at hj
      rw [← numAt_eq]; exact h2 j (by omega)
/-- sum of a tuple of numbers -/
theorem cr_sumT (hc : X.calm = true) : CallR X (.builtin "sum") (fun vs H Q => ∃ (a : Addr) (ns : List Int), vs = [V.ref a] ∧ SqT X.K H a (ns.map V.int) ∧ Q (.int ns.sum) H) := by
  intro pins s σ H vs us Q I r h
  obtain ⟨a, ns, rfl, hs, q⟩ := h
  obtain ⟨its, rv, hl, _⟩ := I.tuple hs
  rw [Vals.ref1 r]
  have hi : IntsAre its ns := rv.ints
  obtain ⟨xs, e⟩ := hi.allInts.items
  have hn : numsOf (intItems xs).toList = ns := by rw [← e]; exact hi.numsOf
  rw [nums_intItems] at hn
  rw [e] at hl
  obtain ⟨o, ho, hcl, n, hd⟩ := hl
  refine PySem.W.ktm_sumG (I.ok.hd hc) ⟨o, ho, hcl, n, hd⟩ fun h' tk t' hk => ?_
  rw [preSum_eq, List.take_of_length_le (by simp), hn]
  exact ⟨.int _, H, I.kept hk, ⟨_, rfl⟩, q⟩
/-- sorted of pairs, wherever they stand -/
theorem cr_sortT : CallR X (.builtin "sorted") (fun vs H Q => ∃ (a : Addr) (xs : List V) (k : V → Int × Int), vs = [V.ref a] ∧ SqL X.K H a xs ∧ (∀ x ∈ xs, ∃ t, x = V.ref t ∧ SqT X.K H t [.int (k x).1, .int (k x).2]) ∧
  ∀ ys p, SrtO.Srtd (ltP k) ys → SrtO.Stb (ltP k) ys xs → H p = none → Q (.ref p) (upd H p (.lst ys))) := by
  intro pins s σ H vs us Q I r h
  obtain ⟨a, xs, k, rfl, hs, hx, q⟩ := h
  obtain ⟨its, rv, hl, hz⟩ := I.list hs
  obtain ⟨w, rfl, rw'⟩ := vals1 r
  obtain rfl : w = Value.ref a := rw'
  obtain ⟨b1, b2⟩ := refs_back rv fun x m => (hx x m).imp fun t e => e.1
  refine SrtO.sorted_pairsO (k := fun w => k (backV w)) hl.isList (by rw [← rv.length]; exact hz) (fun v hv => ?_) fun h' d out c1 c2 kp hd hn => ?_
  · obtain ⟨t, rfl⟩ := b2 v hv
    obtain ⟨t', e, ht⟩ := hx (V.ref t) (by rw [b1]; exact List.mem_map.mpr ⟨_, hv, rfl⟩)
    cases e
    obtain ⟨i2, r2, ⟨o, ho, hc, n, hd⟩, _⟩ := I.tuple ht
    obtain ⟨w1, w2, rfl, ⟨t1, rfl⟩, ⟨t2, rfl⟩⟩ := vals2 r2
    exact ⟨t, o, t1, t2, n, rfl, ho, hc, hd⟩
  · have b3 : ∀ w ∈ out, ∃ a, w = Value.ref a := fun w hw => b2 w (c2.perm.mem_iff.mp hw)
    obtain ⟨n, hn⟩ := hn
    have hb : SrtO.Stb (ltP k) (out.map backV) xs := by
      rw [b1]
      exact SrtO.Stb.map (ltP_swo k) backV c2
    exact ⟨.ref d, upd H d (.lst (out.map backV)), I.laid (t' := s.toks) kp hd ⟨by rw [hb.len]; exact hz, out, n, vals_back b3, hn⟩, rfl, q _ d (SrtO.srtd_map c1) hb (I.hok.fresh hd)⟩
/-- sorted of a tuple of pairs, wherever they stand -/
theorem cr_sortU : CallR X (.builtin "sorted") (fun vs H Q => ∃ (a : Addr) (xs : List V) (k : V → Int × Int), vs = [V.ref a] ∧ SqT X.K H a xs ∧ (∀ x ∈ xs, ∃ t, x = V.ref t ∧ SqT X.K H t [.int (k x).1, .int (k x).2]) ∧
  ∀ ys p, SrtO.Srtd (ltP k) ys → SrtO.Stb (ltP k) ys xs → H p = none → Q (.ref p) (upd H p (.lst ys))) := by
  intro pins s σ H vs us Q I r h
  obtain ⟨a, xs, k, rfl, hs, hx, q⟩ := h
  obtain ⟨its, rv, ⟨o, ho, hc, n, hd⟩, hz⟩ := I.tuple hs
  obtain ⟨w, rfl, rw'⟩ := vals1 r
  obtain rfl : w = Value.ref a := rw'
  obtain ⟨b1, b2⟩ := refs_back rv fun x m => (hx x m).imp fun t e => e.1
  refine sorted_tupO (k := fun w => k (backV w)) ho hc hd (by rw [← rv.length]; exact hz) (fun v hv => ?_) fun h' d out c1 c2 kp hd hn => ?_
  · obtain ⟨t, rfl⟩ := b2 v hv
    obtain ⟨t', e, ht⟩ := hx (V.ref t) (by rw [b1]; exact List.mem_map.mpr ⟨_, hv, rfl⟩)
    cases e
    obtain ⟨i2, r2, ⟨o, ho, hc, n, hd⟩, _⟩ := I.tuple ht
    obtain ⟨w1, w2, rfl, ⟨t1, rfl⟩, ⟨t2, rfl⟩⟩ := vals2 r2
    exact ⟨t, o, t1, t2, n, rfl, ho, hc, hd⟩
  · have b3 : ∀ w ∈ out, ∃ a, w = Value.ref a := fun w hw => b2 w (c2.perm.mem_iff.mp hw)
    obtain ⟨n, hn⟩ := hn
    have hb : SrtO.Stb (ltP k) (out.map backV) xs := by
      rw [b1]
      exact SrtO.Stb.map (ltP_swo k) backV c2
    exact ⟨.ref d, upd H d (.lst (out.map backV)), I.laid (t' := s.toks) kp hd ⟨by rw [hb.len]; exact hz, out, n, vals_back b3, hn⟩, rfl, q _ d (SrtO.srtd_map c1) hb (I.hok.fresh hd)⟩
theorem call_sortedU {pins : List (Addr × Obj)} {s : Shared} {σ : L2.St} {H : Hp} {x : V} {us : List Value} {Q : VK} {g g0 : Gh} {xs : List D} {ps : List (Int × Int)} (I : Inv X pins σ H s) (ru : Vals [x] us) (e : g.H = H) (ok : Gok X.K g) (l : LookR X.K g (.tup xs) x)
    (ep : dPairs xs = some ps) (h : Post X.K noE (RvR X.K) g (.ok (.fresh (.lst ((ps.mergeSort leP).map pairD))) g.S) Q) : wpAny (model X.prog X.w) X.A (call (.builtin "sorted") us) (EP X pins σ Q) X.xe s := by
  subst e
  obtain ⟨a, vs, rfl, s1, h1, z1, q1⟩ := l.tup ok
  obtain ⟨e1, pr⟩ := dPairs_reps q1 ep
  have at_ : ∀ v ∈ vs, ∃ (t : Addr) (p : Int × Int), v = .ref t ∧ SqT X.K g.R t [.int p.1, .int p.2] := fun v hv => by
    obtain ⟨i, hi⟩ := List.getElem?_of_mem hv
    obtain ⟨p, t, e1, e2⟩ := paired_at pr hi
    exact ⟨t, p, e1, e2⟩
  have keys : vs.map (keyV X.K g.H) = ps := by
    clear at_ e1 ep q1 s1 h1 h
    induction pr with
    | nil => rfl
    | cons hp _ ih =>
      obtain ⟨t, e1, e2⟩ := hp
      subst e1
      rw [List.map_cons, ih, key_of I (SqT.mono e2 ok.sub)]
  refine cr_sortU pins s σ g.H _ us Q I ru ⟨a, vs, keyV X.K g.H, rfl, h1, fun v hv => ?_, fun ys p srt stb np => ?_⟩
  · obtain ⟨t, p, e1, e2⟩ := at_ v hv
    refine ⟨t, e1, ?_⟩
    subst e1
    rw [key_of I (SqT.mono e2 ok.sub)]
    exact SqT.mono e2 ok.sub
  · have e2 : ys.map (keyV X.K g.H) = ps.mergeSort leP := by
      refine List.Perm.eq_of_pairwise (le := fun a b => leP a b = true) (fun a b _ _ h1 h2 => leP_anti h1 h2) ?_ (List.pairwise_mergeSort leP_tr leP_to ps) ?_
      · rw [List.pairwise_map]
        exact srt.imp fun h => leP_no h
      · have := stb.perm.map (keyV X.K g.H)
        rw [keys] at this
        exact this.trans (List.mergeSort_perm ps leP).symm
    have rp : ∀ zs : List V, (∀ z ∈ zs, z ∈ vs) → g.Reps X.K ((zs.map (keyV X.K g.H)).map pairD) zs := fun zs => by
      induction zs with
      | nil => exact fun _ => .nil
      | cons z zs ih =>
        intro hz
        refine .cons ?_ (ih fun y hy => hz y (List.mem_cons_of_mem _ hy))
        obtain ⟨t, p, f1, f2⟩ := at_ z (hz z List.mem_cons_self)
        subst f1
        rw [key_of I (SqT.mono f2 ok.sub)]
        exact .tup f2 (by show 2 ≤ sizeLine; rw [sizeLine_eq]; decide) (.cons (.int _) (.cons (.int _) .nil))
    have rq := rp ys fun z hz => stb.perm.mem_iff.mp hz
    rw [e2] at rq
    refine Post.fresh h ok rfl rq ?_ p np
    rw [List.length_map, List.length_mergeSort]
    rw [e1, List.length_map] at z1
    exact z1
theorem call_sortedS {pins : List (Addr × Obj)} {s : Shared} {σ : L2.St} {H : Hp} {x : V} {us : List Value} {Q : VK} {g g0 : Gh} {r : Rv} {xs ys : List D} (I : Inv X pins σ H s) (ru : Vals [x] us) (e : g.H = H) (ok : Gok X.K g) (l : LookR X.K g (.lst xs) x)
    (hs : sortD xs = some ys) (h : Post X.K noE (RvR X.K) g (.ok (.fresh (.lst ys)) g.S) Q) : wpAny (model X.prog X.w) X.A (call (.builtin "sorted") us) (EP X pins σ Q) X.xe s := by
  subst e
  obtain ⟨a, vs, rfl, h1, z1, q1⟩ := l.lst
  unfold sortD at hs
  split at hs
  · rename_i ns en
    cases hs
    have ev := reps_int q1 en
    refine cr_sortedI pins s σ g.H _ us Q I ru ⟨a, ns, rfl, by rw [← ev]; exact SqL.of h1, fun ns' p pm srt np => ?_⟩
    have e2 : ns' = ns.mergeSort fun a b => decide (a ≤ b) := by
      refine List.Perm.eq_of_pairwise (le := fun a b => a ≤ b) (fun a b _ _ h1 h2 => Int.le_antisymm h1 h2) srt ?_ (pm.trans (List.mergeSort_perm ns _).symm)
      have q := List.pairwise_mergeSort (le := fun a b : Int => decide (a ≤ b)) (fun a b c h1 h2 => by simp only [decide_eq_true_eq] at *; omega) (fun a b => by simp only [Bool.or_eq_true, decide_eq_true_eq]; omega) ns
      exact q.imp fun h => of_decide_eq_true h
    rw [e2]
    refine Post.fresh h ok rfl ?_ ?_ p np
    · have : ∀ ms : List Int, g.Reps X.K (ms.map D.int) (ms.map V.int) := fun ms => by
        induction ms with
        | nil => exact .nil
        | cons m ms ih => exact .cons (.int m) ih
      exact this _
    · rw [List.length_map, List.length_mergeSort, dInts_len en]
      exact z1
  · split at hs
    · rename_i ps ep
      cases hs
      obtain ⟨e1, pr⟩ := dPairs_reps q1 ep
      have at_ : ∀ v ∈ vs, ∃ (t : Addr) (p : Int × Int), v = .ref t ∧ SqT X.K g.R t [.int p.1, .int p.2] := fun v hv => by
        obtain ⟨i, hi⟩ := List.getElem?_of_mem hv
        obtain ⟨p, t, e1, e2⟩ := paired_at pr hi
        exact ⟨t, p, e1, e2⟩
      have keys : vs.map (keyV X.K g.H) = ps := by
        clear at_ e1 ep q1 h1 h
        induction pr with
        | nil => rfl
        | cons hp _ ih =>
          obtain ⟨t, e1, e2⟩ := hp
          subst e1
          rw [List.map_cons, ih, key_of I (SqT.mono e2 ok.sub)]
      refine cr_sortT pins s σ g.H _ us Q I ru ⟨a, vs, keyV X.K g.H, rfl, SqL.of h1, fun v hv => ?_, fun ys p srt stb np => ?_⟩
      · obtain ⟨t, p, e1, e2⟩ := at_ v hv
        refine ⟨t, e1, ?_⟩
        subst e1
        rw [key_of I (SqT.mono e2 ok.sub)]
        exact SqT.mono e2 ok.sub
      · have e2 : ys.map (keyV X.K g.H) = ps.mergeSort leP := by
          refine List.Perm.eq_of_pairwise (le := fun a b => leP a b = true) (fun a b _ _ h1 h2 => leP_anti h1 h2) ?_ (List.pairwise_mergeSort leP_tr leP_to ps) ?_
          · rw [List.pairwise_map]
            exact srt.imp fun h => leP_no h
          · have := stb.perm.map (keyV X.K g.H)
            rw [keys] at this
            exact this.trans (List.mergeSort_perm ps leP).symm
        have rp : ∀ zs : List V, (∀ z ∈ zs, z ∈ vs) → g.Reps X.K ((zs.map (keyV X.K g.H)).map pairD) zs := fun zs => by
          induction zs with
          | nil => exact fun _ => .nil
          | cons z zs ih =>
            intro hz
            refine .cons ?_ (ih fun y hy => hz y (List.mem_cons_of_mem _ hy))
            obtain ⟨t, p, f1, f2⟩ := at_ z (hz z List.mem_cons_self)
            subst f1
            rw [key_of I (SqT.mono f2 ok.sub)]
            exact .tup f2 (by show 2 ≤ sizeLine; rw [sizeLine_eq]; decide) (.cons (.int _) (.cons (.int _) .nil))
        have rq := rp ys fun z hz => stb.perm.mem_iff.mp hz
        rw [e2] at rq
        refine Post.fresh h ok rfl rq ?_ p np
        rw [List.length_map, List.length_mergeSort]
        rw [e1, List.length_map] at z1
        exact z1
    · cases hs
end
end Px
set_option Elab.async false
set_option linter.all false
set_option maxRecDepth 100000
set_option maxHeartbeats 4000000
namespace Px
open PySem PySem.Spec PyProof.Rows L2
def rBi (K : PySem.W.Frag) (E : L2.St → XK) (b : Bi) : List V → Hp → VK → Prop := fun xs H Q =>
  ∃ g0 g rs, g.H = H ∧ Gok K g ∧ RvRs K g0 g rs xs ∧ Post K noE (RvR K) g (Res.opt (opBi b rs) g.S) Q
def Bi.val : Bi → Value
  | .tuple => .type "tuple"
  | .list => .type "list"
  | .int => .type "int"
  | .str => .type "str"
  | .bool => .type "bool"
  | b => .builtin b.nm
theorem dInts_vals {K : PySem.W.Frag} {g : Gh} : ∀ {xs : List D} {vs : List V} {ns : List Int}, g.Reps K xs vs → dInts xs = some ns → vs = ns.map V.int
  | [], _, _, r, e => by cases r; cases e; rfl
  | d :: xs, _, ns, r, e => by
    cases d with
    | int i =>
      have e' : (dInts xs).map (i :: ·) = some ns := by rw [← e]; simp [dInts]
      obtain ⟨ms, e1, e2⟩ := Option.map_eq_some_iff.mp e'
      subst e2
      cases r with | cons r t => cases r; rw [dInts_vals t e1]; rfl
    | _ => simp [dInts] at e
theorem dBools_vals {K : PySem.W.Frag} {g : Gh} : ∀ {xs : List D} {vs : List V} {ns : List Bool}, g.Reps K xs vs → dBools xs = some ns → vs = ns.map V.bl
  | [], _, _, r, e => by cases r; cases e; rfl
  | d :: xs, _, ns, r, e => by
    cases d with
    | bl i =>
      have e' : (dBools xs).map (i :: ·) = some ns := by rw [← e]; simp [dBools]
      obtain ⟨ms, e1, e2⟩ := Option.map_eq_some_iff.mp e'
      subst e2
      cases r with | cons r t => cases r; rw [dBools_vals t e1]; rfl
    | _ => simp [dBools] at e
theorem greatest_is : ∀ ns : List Int, ns ≠ [] → greatest ns ∈ ns ∧ ∀ y ∈ ns, y ≤ greatest ns
  | [x], _ => by simp [greatest]
  | x :: y :: r, _ => by
    obtain ⟨h1, h2⟩ := greatest_is (y :: r) (by simp)
    unfold greatest
    split
    · exact ⟨List.mem_cons_of_mem _ h1, fun z hz => (List.mem_cons.mp hz).elim (fun e => by omega) (h2 z)⟩
    · exact ⟨List.mem_cons_self, fun z hz => (List.mem_cons.mp hz).elim (fun e => by omega) fun m => by have := h2 z m; omega⟩
theorem least_is : ∀ ns : List Int, ns ≠ [] → least ns ∈ ns ∧ ∀ y ∈ ns, least ns ≤ y
  | [x], _ => by simp [least]
  | x :: y :: r, _ => by
    obtain ⟨h1, h2⟩ := least_is (y :: r) (by simp)
    unfold least
    split
    · exact ⟨List.mem_cons_of_mem _ h1, fun z hz => (List.mem_cons.mp hz).elim (fun e => by omega) (h2 z)⟩
    · exact ⟨List.mem_cons_self, fun z hz => (List.mem_cons.mp hz).elim (fun e => by omega) fun m => by have := h2 z m; omega⟩
theorem RvRs.one {K : PySem.W.Frag} {g g' : Gh} {r : Rv} {xs : List V} (h : RvRs K g g' [r] xs) : ∃ x, xs = [x] ∧ RvR K g g' r x := by
  cases h with | cons a t => cases t; exact ⟨_, rfl, a⟩
theorem RvRs.two {K : PySem.W.Frag} {g g' : Gh} {r r2 : Rv} {xs : List V} (h : RvRs K g g' [r, r2] xs) : ∃ x y, xs = [x, y] ∧ RvR K g g' r x ∧ RvR K g g' r2 y := by
  cases h with | cons a t => cases t with | cons b t => cases t; exact ⟨_, _, rfl, a, b⟩
section
variable {X : Cx} {E : L2.St → XK}
theorem not_sys {pins : List (Addr × Obj)} {s : Shared} {σ : L2.St} {H : Hp} {a : Addr} {o : Obj} {vs : Array Value} {n : Nat} {as : List Addr} (I : Inv X pins σ H s) (hb : ∃ m, X.base.Ns sysModules m) (ho : s.heap.get? a = some o) (hd : o.data = .seq vs n) (h : sysModules ∉ as) : sysModules ∉ a :: as := fun m => by
  rcases List.mem_cons.mp m with e | e
  · subst e
    obtain ⟨_, o2, es, ep, e1, e2, _⟩ := hb
    rw [I.bk _ _ e1] at ho
    cases ho
    rw [hd] at e2
    cases e2
  · exact h e
theorem key_rds {h : Heap} {k : Key} {u : Value} (p : keyIs k u = true) : Reads h u (kP k) [] := by
  rcases keyIs_shape p with ⟨i, t, rfl, rfl⟩ | ⟨x, t, rfl, rfl⟩
  · exact .int i t
  · exact .str x t
theorem dic_rds {P : Program} {w : World} {h : Heap} : ∀ (kvs : List (Key × Int)) {vs : List (Key × Value)} {es : List DictEntry}, KV (kvs.map fun p => (p.1, V.int p.2)) vs → Pairs (mixKind P w) es vs →
    ReadsAll h (es.map (·.key)) ((kvs.map fun p => (kP p.1, PyData.int p.2)).map (·.1)) [] ∧ ReadsAll h (es.map (·.val)) ((kvs.map fun p => (kP p.1, PyData.int p.2)).map (·.2)) []
  | [], _, _, r, p => by
    cases r
    cases p
    exact ⟨.nil, .nil⟩
  | q :: kvs, _, _, r, p => by
    rw [List.map_cons] at r
    cases r with
    | cons r1 r2 =>
    cases p with
    | cons p1 p2 p3 =>
    obtain ⟨k1, k2⟩ := dic_rds (h := h) kvs r2 p3
    obtain ⟨e1, t, e2⟩ := r1
    refine ⟨.cons (as := []) (bs := []) (key_rds ?_) k1, .cons (as := []) (bs := []) ?_ k2⟩
    · rw [show q.1 = _ from e1]
      exact p1
    · show Reads h (DictEntry.val _) (.int q.2) []
      rw [p2, e2]
      exact .int q.2 t
mutual
/-- data as it is read by the library -/
theorem Rep.rds {pins : List (Addr × Obj)} {s : Shared} {σ : L2.St} {H R : Hp} {sa : List Addr} (I : Inv X pins σ H s) (sub : ∀ a o, R a = some o → H a = some o) (hb : ∃ m, X.base.Ns sysModules m) :
    ∀ {d : D} {v : V} {u : Value}, Px.Rep X.K sa R d v → RelV v u → d.nrf = true → ∃ as, Reads s.heap u d.toP as ∧ sysModules ∉ as
  | .non, _, _, h, r, _ => by cases h; cases r; exact ⟨_, .none, by simp⟩
  | .bl b, _, _, h, r, _ => by cases h; cases r; exact ⟨_, .bool b, by simp⟩
  | .int i, _, _, h, r, _ => by cases h; obtain ⟨t, rfl⟩ := r; exact ⟨_, .int i t, by simp⟩
  | .str i, _, _, h, r, _ => by cases h; obtain ⟨t, rfl⟩ := r; exact ⟨_, .str i t, by simp⟩
  | .tup xs, _, _, h, r, c => by
    cases h with
    | tup a l q =>
      cases r
      obtain ⟨its, rv, ⟨o, ho, hc, n, hd⟩, _⟩ := I.tuple (SqT.mono a sub)
      obtain ⟨as, hr, hn⟩ := Reps.rds I sub hb q rv (by simpa [D.nrf] using c)
      exact ⟨_, .tuple ho hc hd hr, hn⟩
  | .lst xs, _, _, h, r, c => by
    cases h with
    | lst a l q =>
      cases r
      obtain ⟨its, rv, ⟨o, n, ho, hc, _, hd⟩, _⟩ := I.list (SqL.of (sub _ _ a))
      obtain ⟨as, hr, hn⟩ := Reps.rds I sub hb q rv (by simpa [D.nrf] using c)
      exact ⟨_, .list ho hc hd hr, not_sys I hb ho hd hn⟩
  | .scr xs, _, _, h, r, c => by
    cases h with
    | scr a l q =>
      cases r
      obtain ⟨its, rv, ⟨o, n, ho, hc, _, hd⟩, _⟩ := I.list (SqL.mono a sub)
      obtain ⟨as, hr, hn⟩ := Reps.rds I sub hb q rv (by simpa [D.nrf] using c)
      exact ⟨_, .list ho hc hd hr, not_sys I hb ho hd hn⟩
  | .dic kvs, _, _, h, r, c => by
    cases h with
    | dic a =>
      cases r
      obtain ⟨z, hd, vs, rel, o, es, ep, ho, hx, hdat, _, ps, _⟩ := dk_of I.hok (sub _ _ a)
      obtain ⟨r1, r2⟩ := dic_rds (h := s.heap) kvs rel ps
      exact ⟨_, .dict ho hx.1 hdat r1 r2, by simpa using fun e => (beq_eq_false_iff_ne.mp hd) e.symm⟩
  | .ref _, _, _, h, _, c => by simp [D.nrf] at c
theorem Reps.rds {pins : List (Addr × Obj)} {s : Shared} {σ : L2.St} {H R : Hp} {sa : List Addr} (I : Inv X pins σ H s) (sub : ∀ a o, R a = some o → H a = some o) (hb : ∃ m, X.base.Ns sysModules m) :
    ∀ {ds : List D} {vs : List V} {us : List Value}, Px.Reps X.K sa R ds vs → Vals vs us → D.nrfs ds = true → ∃ as, ReadsAll s.heap us (D.toPs ds) as ∧ sysModules ∉ as
  | [], _, _, h, r, _ => by cases h; cases r; exact ⟨_, .nil, by simp⟩
  | d :: ds, _, _, h, r, c => by
    have c' : d.nrf = true ∧ D.nrfs ds = true := by simpa [D.nrfs] using c
    cases h with
    | cons q t =>
      cases r with
      | cons r1 r2 =>
        obtain ⟨as, k1, n1⟩ := Rep.rds I sub hb q r1 c'.1
        obtain ⟨bs, k2, n2⟩ := Reps.rds I sub hb t r2 c'.2
        exact ⟨_, .cons k1 k2, fun m => (List.mem_append.mp m).elim n1 n2⟩
end
theorem LookR.rds {pins : List (Addr × Obj)} {s : Shared} {σ : L2.St} {g : Gh} {d : D} {v : V} {u : Value} (I : Inv X pins σ g.H s) (ok : Gok X.K g) (hb : ∃ m, X.base.Ns sysModules m) (h : LookR X.K g d v) (r : RelV v u) (c : d.nrf = true) :
    ∃ as, Reads s.heap u d.toP as ∧ sysModules ∉ as := by
  cases d with
  | lst xs =>
    obtain ⟨a, vs, rfl, h1, l, q⟩ := h.lst
    cases r
    obtain ⟨its, rv, ⟨o, n, ho, hc, _, hd⟩, _⟩ := I.list (SqL.of h1)
    obtain ⟨as, hr, hn⟩ := Reps.rds I ok.sub hb q rv (by simpa [D.nrf] using c)
    exact ⟨_, .list ho hc hd hr, not_sys I hb ho hd hn⟩
  | _ => exact Rep.rds I ok.sub hb h r c
theorem reads_repr (hg : X.A.guards = some []) (hu : X.A.units + 100 < cLine) {pins : List (Addr × Obj)} {s : Shared} {σ : L2.St} {H : Hp} {d : PyData} {v : Value} {Q : VK} {as : List Addr} (I : Inv X pins σ H s) (r : Reads s.heap v d as)
    (hs : d.showable = true) (nd : d.hasDict = true → sysModules ∉ as) (hp : d.depth ≤ 64) (hz : d.shown.length ≤ sizeLine) (q : Q (.str d.shown) H) : wpAny (model X.prog X.w) X.A (call (.builtin "repr") [v]) (EP X pins σ Q) X.xe s := by
  have go : ∀ a, v = .ref a → wpAny (model X.prog X.w) X.A (call (.builtin "repr") [v]) (EP X pins σ Q) X.xe s := by
    rintro a rfl
    exact repr_of_reads' r hs nd hg (by omega) (fun _ _ e => e) (fun h' u tk k => ⟨.str _, H, I.kept k, ⟨_, rfl⟩, q⟩) hz
  cases d with
  | none =>
    cases r
    exact P.repr_of_none ⟨.str _, H, I.tok _, ⟨_, rfl⟩, by simpa only [PyData.shown_none] using q⟩
  | bool b =>
    cases r
    exact P.repr_of_bool ⟨.str _, H, I.tok _, ⟨_, rfl⟩, by simpa only [PyData.shown_bool] using q⟩
  | int i =>
    cases r
    exact P.repr_of_int (by simpa [PyData.showable] using hs) ⟨.str _, H, I.tok _, ⟨_, rfl⟩, by simpa only [PyData.shown_int] using q⟩
  | str z =>
    cases r
    refine P.repr_of_str ⟨.str _, H, I.tok _, ⟨_, rfl⟩, by simpa only [PyData.shown_str] using q⟩ ?_
    simpa only [PyData.shown_str] using hz
  | list ds => exact (by cases r; exact ⟨_, rfl⟩ : ∃ a, v = .ref a).elim go
  | tuple ds => exact (by cases r; exact ⟨_, rfl⟩ : ∃ a, v = .ref a).elim go
  | dict ds => exact (by cases r; exact ⟨_, rfl⟩ : ∃ a, v = .ref a).elim go
theorem call_reprS (hg : X.A.guards = some []) (hu : X.A.units + 100 < cLine) {pins : List (Addr × Obj)} {s : Shared} {σ : L2.St} {H : Hp} {d : PyData} {x : V} {v : Value} {Q : VK} (I : Inv X pins σ H s) (rx : RelV x v) (hd : Dp X.K H x d)
    (hs : d.showable = true) (hl : d.canLay0 = true) (hp : d.depth ≤ 64) (hz : d.shown.length ≤ sizeLine) (q : Q (.str d.shown) H) : wpAny (model X.prog X.w) X.A (call (.builtin "repr") [v]) (EP X pins σ Q) X.xe s := by
  obtain ⟨as, r⟩ := Dp.reads I d x v hd rx
  exact reads_repr hg hu I r hs (PyData.noDict_hsm (as := as) (PyData.hasDict_of_canLay d hl)) hp hz q
theorem call_biS (hc : X.calm = true) (hg : X.A.guards = some []) (hu : X.A.units + 100 < cLine) (hb : ∃ m, X.base.Ns sysModules m) (b : Bi) : CallR X b.val (rBi X.K E b) := by
  intro pins s σ H xs us Q I r ⟨g0, g, rs, e, ok, hr, h⟩
  subst e
  unfold opBi at h
  split at h <;> first | exact (Post.no h).elim | skip
  · -- len
    rename_i a
    obtain ⟨x, rfl, r1⟩ := hr.one
    have l1 := r1.lookR ok
    generalize a.look = d1 at h l1
    split at h <;> first | exact (Post.no h).elim | skip
    · obtain ⟨a, vs, rfl, s1, t1, z1, q1⟩ := l1.tup ok
      exact call_len_seq pins s σ g.H _ us Q I r ⟨a, vs, rfl, .inr t1, by rw [← q1.length]; exact Post.val h ok rfl (.int _)⟩
    · obtain ⟨a, vs, rfl, h1, z1, q1⟩ := l1.lst
      exact call_len_seq pins s σ g.H _ us Q I r ⟨a, vs, rfl, .inl (SqL.of h1), by rw [← q1.length]; exact Post.val h ok rfl (.int _)⟩
    · obtain ⟨a, vs, rfl, h1, z1, q1⟩ := l1.scr ok
      exact call_len_seq pins s σ g.H _ us Q I r ⟨a, vs, rfl, .inl h1, by rw [← q1.length]; exact Post.val h ok rfl (.int _)⟩
    · cases l1.str
      split at h
      case isFalse => exact h.elim
      rename_i hz
      exact call_len_str pins s σ g.H _ us Q I r ⟨_, rfl, hz, Post.val h ok rfl (.int _)⟩
  · -- abs
    rename_i a
    obtain ⟨x, rfl, r1⟩ := hr.one
    have l1 := r1.lookR ok
    generalize a.look = d1 at h l1
    split at h <;> first | exact (Post.no h).elim | skip
    cases l1.int
    exact call_abs pins s σ g.H _ us Q I r ⟨_, rfl, Post.val h ok rfl (.int _)⟩
  · rename_i a b
    obtain ⟨x, y, rfl, r1, r2⟩ := hr.two
    have l1 := r1.lookR ok
    have l2 := r2.lookR ok
    generalize a.look = d1 at h l1
    generalize b.look = d2 at h l2
    split at h <;> first | exact (Post.no h).elim | skip
    cases l1.int; cases l2.int
    exact call_max2 hc pins s σ g.H _ us Q I r ⟨_, _, rfl, Post.val h ok rfl (.int _)⟩
  · rename_i a b
    obtain ⟨x, y, rfl, r1, r2⟩ := hr.two
    have l1 := r1.lookR ok
    have l2 := r2.lookR ok
    generalize a.look = d1 at h l1
    generalize b.look = d2 at h l2
    split at h <;> first | exact (Post.no h).elim | skip
    cases l1.int; cases l2.int
    exact call_min2 hc pins s σ g.H _ us Q I r ⟨_, _, rfl, Post.val h ok rfl (.int _)⟩
  · -- max
    rename_i a
    obtain ⟨x, rfl, r1⟩ := hr.one
    have l1 := r1.lookR ok
    generalize a.look = d1 at h l1
    split at h <;> first | exact (Post.no h).elim | skip
    · split at h <;> first | exact (Post.no h).elim | skip
      split at h <;> first | exact (Post.no h).elim | skip
      rename_i ns e hn
      obtain ⟨a, vs, rfl, h1, z1, q1⟩ := l1.lst
      have ev := dInts_vals q1 e
      obtain ⟨m1, m2⟩ := greatest_is ns hn
      refine cr_max hc pins s σ g.H _ us Q I r ⟨a, ns, rfl, by rw [← ev]; exact SqL.of h1, List.length_pos_iff.mpr hn, fun m hm hle => ?_⟩
      have : m = greatest ns := by have a1 := m2 m hm; have a2 := hle _ m1; omega
      rw [this]
      exact Post.val h ok rfl (.int _)
    · split at h <;> first | exact (Post.no h).elim | skip
      split at h <;> first | exact (Post.no h).elim | skip
      rename_i ns e hn
      obtain ⟨a, vs, rfl, s1, t1, z1, q1⟩ := l1.tup ok
      have ev := dInts_vals q1 e
      obtain ⟨m1, m2⟩ := greatest_is ns hn
      refine cr_maxT hc pins s σ g.H _ us Q I r ⟨a, ns, rfl, by rw [← ev]; exact t1, List.length_pos_iff.mpr hn, fun m hm hle => ?_⟩
      have : m = greatest ns := by have a1 := m2 m hm; have a2 := hle _ m1; omega
      rw [this]
      exact Post.val h ok rfl (.int _)
  · rename_i a
    obtain ⟨x, rfl, r1⟩ := hr.one
    have l1 := r1.lookR ok
    generalize a.look = d1 at h l1
    split at h <;> first | exact (Post.no h).elim | skip
    split at h <;> first | exact (Post.no h).elim | skip
    split at h <;> first | exact (Post.no h).elim | skip
    rename_i ns e hn
    obtain ⟨a, vs, rfl, h1, z1, q1⟩ := l1.lst
    have ev := dInts_vals q1 e
    obtain ⟨m1, m2⟩ := least_is ns hn
    refine cr_min hc pins s σ g.H _ us Q I r ⟨a, ns, rfl, by rw [← ev]; exact SqL.of h1, List.length_pos_iff.mpr hn, fun m hm hle => ?_⟩
    have : m = least ns := by have a1 := m2 m hm; have a2 := hle _ m1; omega
    rw [this]
    exact Post.val h ok rfl (.int _)
  · -- sum
    rename_i a
    obtain ⟨x, rfl, r1⟩ := hr.one
    have l1 := r1.lookR ok
    generalize a.look = d1 at h l1
    split at h <;> first | exact (Post.no h).elim | skip
    · rename_i xs
      cases e : dInts xs with
      | none => rw [e] at h; exact h.elim
      | some ns =>
        rw [e] at h
        obtain ⟨a, vs, rfl, h1, z1, q1⟩ := l1.lst
        have ev := dInts_vals q1 e
        exact cr_sum hc pins s σ g.H _ us Q I r ⟨a, ns, rfl, by rw [← ev]; exact SqL.of h1, Post.val h ok rfl (.int _)⟩
    · rename_i xs
      cases e : dInts xs with
      | none => rw [e] at h; exact h.elim
      | some ns =>
        rw [e] at h
        obtain ⟨a, vs, rfl, s1, t1, z1, q1⟩ := l1.tup ok
        have ev := dInts_vals q1 e
        exact cr_sumT hc pins s σ g.H _ us Q I r ⟨a, ns, rfl, by rw [← ev]; exact t1, Post.val h ok rfl (.int _)⟩
  · rename_i a
    obtain ⟨x, rfl, r1⟩ := hr.one
    have l1 := r1.lookR ok
    generalize a.look = d1 at h l1
    split at h <;> first | exact (Post.no h).elim | skip
    rename_i xs
    cases e : dBools xs with
    | none => rw [e] at h; exact h.elim
    | some ns =>
      rw [e] at h
      obtain ⟨a, vs, rfl, h1, z1, q1⟩ := l1.lst
      have ev := dBools_vals q1 e
      exact cr_all hc pins s σ g.H _ us Q I r ⟨a, ns, rfl, by rw [← ev]; exact SqL.of h1, Post.val h ok rfl (.bl _)⟩
  · rename_i a
    obtain ⟨x, rfl, r1⟩ := hr.one
    have l1 := r1.lookR ok
    generalize a.look = d1 at h l1
    split at h <;> first | exact (Post.no h).elim | skip
    rename_i xs
    cases e : dBools xs with
    | none => rw [e] at h; exact h.elim
    | some ns =>
      rw [e] at h
      obtain ⟨a, vs, rfl, h1, z1, q1⟩ := l1.lst
      have ev := dBools_vals q1 e
      exact cr_any hc pins s σ g.H _ us Q I r ⟨a, ns, rfl, by rw [← ev]; exact SqL.of h1, Post.val h ok rfl (.bl _)⟩
  · -- tuple
    rename_i a
    obtain ⟨x, rfl, r1⟩ := hr.one
    have l1 := r1.lookR ok
    generalize a.look = d1 at h l1
    split at h <;> first | exact (Post.no h).elim | skip
    · obtain ⟨a, vs, rfl, h1, z1, q1⟩ := l1.lst
      exact call_tuple_of pins s σ g.H _ us Q I r ⟨a, vs, rfl, .inl ⟨SqL.of h1, Post.tup h ok rfl q1 z1⟩⟩
    · obtain ⟨a, vs, rfl, s1, t1, z1, q1⟩ := l1.tup ok
      exact call_tuple_of pins s σ g.H _ us Q I r ⟨a, vs, rfl, .inr ⟨t1, Post.val h ok rfl (.tup s1 z1 q1)⟩⟩
  · -- list
    rename_i a
    obtain ⟨x, rfl, r1⟩ := hr.one
    have l1 := r1.lookR ok
    generalize a.look = d1 at h l1
    split at h <;> first | exact (Post.no h).elim | skip
    · obtain ⟨a, vs, rfl, h1, z1, q1⟩ := l1.lst
      exact call_list_of pins s σ g.H _ us Q I r ⟨a, vs, rfl, .inl (SqL.of h1), Post.fresh h ok rfl q1 z1⟩
    · obtain ⟨a, vs, rfl, s1, t1, z1, q1⟩ := l1.tup ok
      exact call_list_of pins s σ g.H _ us Q I r ⟨a, vs, rfl, .inr t1, Post.fresh h ok rfl q1 z1⟩
  · -- repr
    rename_i a
    obtain ⟨x, rfl, r1⟩ := hr.one
    have l1 := r1.lookR ok
    generalize a.look = d1 at h l1
    split at h
    case isTrue hz =>
      obtain ⟨h1, h2, h3, h4⟩ := hz
      obtain ⟨u, rfl, rx⟩ := vals1 r
      exact call_reprS hg hu I rx (l1.dp ok h2) h1 h2 h3 h4 (Post.val h ok rfl (.str _))
    split at h
    case isFalse => exact h.elim
    rename_i hz
    obtain ⟨h1, h2, h3, h4⟩ := hz
    obtain ⟨u, rfl, rx⟩ := vals1 r
    obtain ⟨as, k1, k2⟩ := l1.rds I ok hb rx h2
    exact reads_repr hg hu I k1 h1 (fun _ => k2) h3 h4 (Post.val h ok rfl (.str _))
  · -- int
    rename_i a
    obtain ⟨x, rfl, r1⟩ := hr.one
    have l1 := r1.lookR ok
    generalize a.look = d1 at h l1
    split at h <;> first | exact (Post.no h).elim | skip
    · cases l1.int
      exact call_int1 pins s σ g.H _ us Q I r (.inl ⟨_, rfl, Post.val h ok rfl (.int _)⟩)
    · cases l1.bl
      exact call_int1 pins s σ g.H _ us Q I r (.inr ⟨_, rfl, Post.val h ok rfl (.int _)⟩)
  · -- str
    rename_i a
    obtain ⟨x, rfl, r1⟩ := hr.one
    have l1 := r1.lookR ok
    generalize a.look = d1 at h l1
    split at h <;> first | exact (Post.no h).elim | skip
    · cases l1.int
      split at h
      case isFalse => exact h.elim
      rename_i hz
      exact call_str_int pins s σ g.H _ us Q I r ⟨_, rfl, hz, Post.val h ok rfl (.str _)⟩
    · cases l1.bl
      obtain ⟨u, rfl, rx⟩ := vals1 r
      rename_i k
      cases (show u = Value.bool k from rx)
      exact PySem.P.str_of_bool ⟨.str _, g.H, I.tok _, ⟨_, rfl⟩, Post.val h ok rfl (.str _)⟩
  · -- sorted
    rename_i a
    obtain ⟨x, rfl, r1⟩ := hr.one
    have l1 := r1.lookR ok
    generalize a.look = d1 at h l1
    split at h <;> first | exact (Post.no h).elim | skip
    · rename_i xs
      cases e : sortD xs with
      | none => rw [e] at h; exact h.elim
      | some ys =>
        rw [e] at h
        exact call_sortedS (r := a) (xs := xs) (g0 := g) I r rfl ok l1 e h
    · rename_i xs
      cases e : dPairs xs with
      | none => rw [e] at h; exact h.elim
      | some ps =>
        rw [e] at h
        exact call_sortedU (xs := xs) (g0 := g) I r rfl ok l1 e h
  · -- bool
    rename_i a
    obtain ⟨x, rfl, r1⟩ := hr.one
    have l1 := r1.lookR ok
    generalize a.look = d1 at h l1
    split at h <;> first | exact (Post.no h).elim | skip
    · cases l1.int
      exact call_bool1 pins s σ g.H _ us Q I r (.inl ⟨_, rfl, Post.val h ok rfl (.bl _)⟩)
    · cases l1.bl
      exact call_bool1 pins s σ g.H _ us Q I r (.inr ⟨_, rfl, Post.val h ok rfl (.bl _)⟩)
end
end Px
set_option Elab.async false
set_option linter.all false
set_option maxRecDepth 100000
set_option maxHeartbeats 4000000
namespace Px
open PySem PySem.Spec PyProof.Rows L2
/-- what a look at a def's text knows: its scope, its names by place, the defs and the constants of the module, whose cells are its own -/
structure Tx where
  sc : Scope
  N : List Str
  fns : List String
  gls : List String
  fn : Str → Bool
def visB (sc : Scope) (x : Str) : Bool := match sc.names.lookup x with
  | some .local => true | some .cell => true | some .free => true | _ => false
def locB (sc : Scope) (x : Str) : Bool := match sc.names.lookup x with
  | some .local => true | some .cell => true | _ => false
def lclB (sc : Scope) (x : Str) : Bool := match sc.names.lookup x with
  | some .local => true | _ => false
def gloB (sc : Scope) (x : Str) : Bool := match sc.names.lookup x with
  | some .globalImplicit => true | _ => false
def dbgB (x : Str) : Bool := x == ("__debug__" : Str) || x == ("__classdict__" : Str) || decide (x = ("__name__" : Str))
def atB (N : List Str) (i : Nat) (x : Str) : Bool := match N[i]? with
  | some y => decide (y = x)
  | none => false
mutual
def chkG (T : Tx) : Tg → Expr → Bool
  | .nm i, .Name x _ => atB T.N i x && locB T.sc x && (T.fn x || lclB T.sc x)
  | .tup ts, .Tuple es _ _ => chkGs T ts es
  | _, _ => false
def chkGs (T : Tx) : Tgs → List Expr → Bool
  | .nil, [] => true
  | .cons t ts, e :: es => chkG T t e && chkGs T ts es
  | _, _ => false
end
mutual
def Tg.slots : Tg → List Nat
  | .nm i => [i]
  | .tup ts => ts.slots
def Tgs.slots : Tgs → List Nat
  | .nil => []
  | .cons t ts => t.slots ++ ts.slots
end
def gBlt (T : Tx) (x : Str) (n : String) : Bool := decide (x = sO n) && gloB T.sc x
def chkTy (T : Tx) (u : Ty) : Expr → Bool
  | .Name x _ => gBlt T x u.nm
  | _ => false
def chkTys (T : Tx) : List Ty → List Expr → Bool
  | [], [] => true
  | u :: us, e :: es => chkTy T u e && chkTys T us es
  | _, _ => false
def isTupE : Expr → Bool
  | .Tuple _ _ _ => true
  | _ => false
def ownS (own : List (String × Nat)) : List (Str × Nat) := own.map fun p => (sO p.1, p.2)
def Tx.blk (T : Tx) (scope : Scope) : Tx := { T with sc := relS scope T.sc, fn := fun x => scope.names.lookup x == some .cell }
def subB (xs ys : List Nat) : Bool := xs.all fun i => ys.contains i
/-- no test -/
def chkN : Ex → Bool
  | .nop => true
  | _ => false
/-- a clause's tests: none, or one -/
def chkIf (f : Expr → Bool) (no : Bool) : List Expr → Bool
  | [] => no
  | [x] => f x
  | _ => false
def notCall : Expr → Bool
  | .Call _ _ _ _ => false
  | _ => true
/-- what makes a new thing -/
def isMk : Expr → Bool
  | .List _ _ => true
  | .ListComp _ _ _ _ => true
  | .Call _ _ _ _ => true
  | _ => false
def chkD : List (String × Int) → List (Option Expr) → List Expr → Bool
  | [], [], [] => true
  | p :: r, some (.Constant (.str x) _ _) :: ks, .Constant (.int j) _ _ :: vs => decide (x = sO p.1) && decide (p.2 = j) && chkD r ks vs
  | _, _, _ => false
/-- the class that a text names -/
def chkCx (T : Tx) (d : String) : Expr → Bool
  | .Name x _ => gBlt T x d && !dbgB x && (d == "ValueError" || (T.fns.contains d && clsN d))
  | _ => false
mutual
def chkE (T : Tx) : Ex → Expr → Bool
  | .var i, .Name x _ => atB T.N i x && visB T.sc x && !dbgB x
  | .int z, .Constant (.int z') _ _ => decide (z = z')
  | .bl b, .Constant (.bool b') _ _ => b == b'
  | .non, .Constant .none _ _ => true
  | .str s, .Constant (.str x) _ _ => decide (x = sO s)
  | .glob g, .Name x _ => gBlt T x g && T.gls.contains g && !dbgB x
  | .bin o a b, .BinOp l op r _ => decide (o.op = op) && chkE T a l && chkE T b r
  | .cmp o a b, .Compare l [op] [r] _ => decide (o.op = op) && chkE T a l && chkE T b r
  | .cmp2 o o' a b c, .Compare l [op, op'] [m, r] _ => decide (o.op = op) && decide (o'.op = op') && chkE T a l && chkE T b m && chkE T c r
  | .and a b, .BoolOp .And [v, w] _ => chkE T a v && chkE T b w
  | .and a b, .BoolOp .And (v :: w :: u :: r) pos => chkE T a v && chkE T b (.BoolOp .And (w :: u :: r) pos)
  | .or a b, .BoolOp .Or [v, w] _ => chkE T a v && chkE T b w
  | .or a b, .BoolOp .Or (v :: w :: u :: r) pos => chkE T a v && chkE T b (.BoolOp .Or (w :: u :: r) pos)
  | .not a, .UnaryOp .Not x _ => chkE T a x
  | .neg a, .UnaryOp .USub x _ => chkE T a x
  | .ife c a b, .IfExp t x y _ => chkE T c t && chkE T a x && chkE T b y
  | .tup es, .Tuple xs _ _ => chkA T es xs
  | .list es, .List xs _ => chkA T es xs
  | .call f es, .Call (.Name x _) xs [] _ => gBlt T x f && T.fns.contains f && !clsN f && !dbgB x && chkA T es xs
  | .bi b es, .Call (.Name x _) (y :: xs) [] _ => gBlt T x b.nm && chkA T es (y :: xs)
  | .isin e one ts, .Call (.Name x _) [y, t] [] _ => gBlt T x "isinstance" && chkE T e y && (match one, ts, t with
    | true, [u], t => chkTy T u t
    | false, ts, .Tuple us _ _ => chkTys T ts us && decide (ts.length < 20)
    | _, _, _ => false)
  | .ix a i, .Subscript x y _ => chkE T a x && chkE T i y
  | .sl a lo hi, .Subscript x (.Slice l h none _) _ => chkE T a x && chkO T lo l && chkO T hi h
  | .rev a, .Subscript x (.Slice none none (some (.UnaryOp .USub (.Constant (.int k) _ _) _)) _) _ => chkE T a x && decide (k = 1)
  | .op o es, x => chkP T o es x
  | .dic d, .Dict ks vs _ => chkD d ks vs && decide (d.length ≤ 15) && decide ((d.map fun p => sO p.1).Nodup)
  | .dnew, .Dict [] [] _ => true
  | .dhas neg k d, .Compare l [op] [r] _ => (if neg then op == .NotIn else op == .In) && chkE T k l && chkE T d r
  | .dat d k, .Subscript x y _ => chkE T d x && chkE T k y
  | .ghas neg k g, .Compare l [op] [.Name x _] _ => (if neg then op == .NotIn else op == .In) && chkE T k l && (gBlt T x g && T.gls.contains g && !dbgB x)
  | .gat g k, .Subscript (.Name x _) y _ => (gBlt T x g && T.gls.contains g && !dbgB x) && chkE T k y
  | .dget d k z, .Call (.Attribute x m ap) [y, w] [] cp => decide (m = sO "get") && (ap.endLine == cp.line) && notCall x && chkE T d x && chkE T k y && chkE T z w
  | .lenr a, .Call (.Name x _) [z] [] _ => gBlt T x "len" && chkE T a z
  | .tupr a, .Call (.Name x _) [z] [] _ => gBlt T x "tuple" && chkE T a z
  | .sset a, .Call (.Name x _) [.Call (.Name y _) [z] [] _] [] _ => gBlt T x "sorted" && gBlt T y "set" && chkE T a z
  | .lrng a, .Call (.Name x _) [.Call (.Name y _) [z] [] _] [] _ => gBlt T x "list" && gBlt T y "range" && chkE T a z
  | .lenum a, .Call (.Name x _) [.Call (.Name y _) [z] [] _] [] _ => gBlt T x "list" && gBlt T y "enumerate" && chkE T a z
  | .dnew1 z b, .Dict [some (.Constant (.int z') _ _)] [.Constant (.bool b') _ _] _ => decide (z = z') && b == b'
  | .dkeys a, .Call (.Name x _) [z] [] _ => gBlt T x "list" && chkE T a z
  | .dfrom a, .Call (.Name x _) [z] [] _ => gBlt T x "dict" && chkE T a z
  | .mke c fs es, .Call (.Name x _) xs [] _ => gBlt T x c && !dbgB x && T.fns.contains c && (clsN c && decide (c ≠ "StintError")) && decide (fs = fieldsOf c) && chkA T es xs && decide (xs.length = fs.length)
  | .fldr a f, .Attribute z m _ => decide (m = sO f) && notCall z && chkE T a z
  | .isxr a c, .Call (.Name x _) [z, t] [] _ => gBlt T x "isinstance" && chkE T a z && chkCx T c t
  | .ixr a i, .Subscript x y _ => chkE T a x && chkE T i y
  | .cmpr o a b, .Compare l [op] [r] _ => decide (o.op = op) && chkE T a l && chkE T b r
  | .shr e, x => isMk x && chkE T e x
  | .popr a k, .Call (.Attribute x m ap) ys [] cp => decide (m = sO "pop") && (ap.endLine == cp.line) && notCall x && chkE T a x && (decide (ys.length ≤ 1) && chkO T k ys.head?)
  | .appr a e, .Call (.Attribute x m ap) [y] [] cp => decide (m = sO "append") && (ap.endLine == cp.line) && notCall x && chkE T a x && chkE T e y
  | .comp own tg it c elt, .ListComp e [⟨t, i, ifs, az⟩] scope _ => decide (az = 0) && blkC T.N T.sc scope (ownS own) && (chkI T t it i || chkL T it i) && chkG (T.blk scope) tg t && subB tg.slots (own.map (·.2)) && chkE (T.blk scope) elt e &&
      chkIf (chkE (T.blk scope) c) (chkN c) ifs
  | .comp2 own tg it c vs1 tg1 it1 c1 elt, .ListComp e [⟨t, i, ifs, az⟩, ⟨t1, i1, ifs1, az1⟩] scope _ => decide (az = 0) && decide (az1 = 0) && blkC T.N T.sc scope (ownS own) && chkI T t it i && chkG (T.blk scope) tg t && subB tg.slots (own.map (·.2)) &&
      chkIf (chkE (T.blk scope) c) (chkN c) ifs && subB vs1 (own.map (·.2)) && chkI (T.blk scope) t1 it1 i1 && chkG (T.blk scope) tg1 t1 && subB tg1.slots vs1 && chkIf (chkE (T.blk scope) c1) (chkN c1) ifs1 && chkE (T.blk scope) elt e
  | _, _ => false
def chkA (T : Tx) : Exs → List Expr → Bool
  | .nil, [] => true
  | .cons e es, x :: xs => chkE T e x && chkA T es xs
  | _, _ => false
/-- operations told by name -/
def chkP (T : Tx) : Op → Exs → Expr → Bool
  | .stp, .cons a (.cons k .nil), .Subscript x (.Slice none none (some z) _) _ => chkE T a x && chkE T k z
  | _, _, _ => false
def chkO (T : Tx) : Exo → Option Expr → Bool
  | .no, none => true
  | .yes e, some x => chkE T e x
  | _, _ => false
def chkI (T : Tx) (tg : Expr) : Itx → Expr → Bool
  | .val e, x => chkE T e x
  | .rng1 a, .Call (.Name n _) [x] [] _ => gBlt T n "range" && chkE T a x
  | .rng2 a b, .Call (.Name n _) [x, y] [] _ => gBlt T n "range" && chkE T a x && chkE T b y
  | .rngd a b, .Call (.Name n _) [x, y, .UnaryOp .USub (.Constant (.int k) _ _) _] [] _ => gBlt T n "range" && chkE T a x && chkE T b y && decide (k = 1)
  | .enum e, .Call (.Name n _) [x] [] _ => gBlt T n "enumerate" && chkE T e x && isTupE tg
  | .zip a b, .Call (.Name n _) [x, y] [] _ => gBlt T n "zip" && chkE T a x && chkE T b y && isTupE tg
  | _, _ => false
/-- a walk over a list that may be a local name's own -/
def chkL (T : Tx) : Itx → Expr → Bool
  | .look e, x => chkE T e x
  | _, _ => false
end
end Px
set_option Elab.async false
set_option linter.all false
set_option maxRecDepth 100000
set_option maxHeartbeats 4000000
namespace Px
open PySem PySem.Spec PyProof.Rows L2
structure ErrC (K : PySem.W.Frag) (B : Addr) : Prop where
  ns : PySem.W.nsIn K mainGlobals (sO "StintError") = some (some (.ref B))
  rd : PySem.W.readsIn K B (.type "type") = true
  ga : PySem.W.specialIn K (.ref B) "__getattribute__" = some (some (.builtin "type.__getattribute__"))
  at_ : PySem.W.findCls K (.ref B) (.type "type") "__init__" = some (.val (.builtin "ValueError.__init__"))
theorem pe_ocinit {X : Cx} {B : Addr} {p1 p2 pos : Pos} {e : Expr} {es : List Expr} {ta : TA} (g : X.mg (sO "StintError") = some (.ref B)) (T : ErrC X.K B) (hg : Gl X (sO "StintError")) (ha : PA X (e :: es) ta) (hl : (p2.endLine == pos.line) = true)
    (hform : methodCallForm ((e :: es).length + ([] : List Keyword).length) (backTo pos (starEach (e :: es) X.env)) (backToKw pos (keywordEach [] X.env)) = true)
    (he : starEach (e :: es) X.env = (false, eval e X.env) :: starEach es X.env) (hpl : (backTo pos (starEach es X.env)).any (·.1) = false) :
    PE X (.Call (.Attribute (.Name (sO "StintError") p1) "__init__" p2) (e :: es) [] pos) (tVeI X.K ta) := by
  have hc : eval (.Call (.Attribute (.Name (sO "StintError") p1) "__init__" p2) (e :: es) [] pos) X.env = (do
      let ov ← eval (.Name (sO "StintError") p1) X.env
      standAt p2.atName
      let (f, first) ← holding [ov] (getMethod ov "__init__" (do return (← importBound (.Name (sO "StintError") p1) X.env).getD true))
      callWith pos f first (backTo pos (starEach (e :: es) X.env)) (backToKw pos (keywordEach [] X.env))) := by
    refine mcall_of rfl fun ov => ?_
    unfold methodCall
    rw [hform]
    have hp : methodCallPos true (.Name (sO "StintError") p1) X.env p2 pos = pure pos := by
      unfold methodCallPos
      rw [hl]
      rfl
    rw [hp]
    simp only [pure_bind]
    rfl
  refine ⟨fun pins s σ H Q I h => ?_⟩
  refine PySem.W.methodCall_KW (ld_glob I hg g ?_ (by decide +kernel)) hc
  refine PySem.W.method_cls I.kIn T.ga (PySem.W.cls_value I.kIn T.rd T.at_ (by decide +kernel) ?_)
  show wpAny _ _ (callWith pos (Value.builtin "ValueError.__init__") [] (backTo pos (starEach (e :: es) X.env)) []) _ _ _
  refine PyProof.Rows.callWith_method1 (thn (ha.run pos pins _ σ H _ (I.tok _) h) fun us s1 ⟨vs, H1, I1, r1, a, C, ws, ev, hl, T, ea, q⟩ => ?_) he hpl
  subst ev
  cases r1 with
  | @cons _ u0 _ ur ra rw' =>
    obtain rfl : u0 = Value.ref a := ra
    have hlen : ur.length ≤ sizeLine := by
      rw [← Paired.length rw', sizeLine_eq]
      omega
    exact oinit_ok T I1 ea hlen fun s' J => ⟨.non, H1, J, rfl, q⟩
def chkSelf : List String → List Stmt → Bool
  | [], [] => true
  | f :: fs, .Assign [.Attribute (.Name s _) g _] (.Name v _) _ :: ss => decide (s = sO "self") && decide (g = sO f) && decide (v = sO f) && chkSelf fs ss
  | _, _ => false
def chkInit (fs : List String) : List Stmt → Bool
  | .Expr (.Call (.Attribute (.Name b _) m ap) [.Name s _, .Constant (.str _) _ _] [] cp) _ :: ss => (ap.endLine == cp.line) && decide (b = sO "StintError") && decide (m = "__init__") && decide (s = sO "self") && chkSelf fs ss
  | _ => false
def tSet (K : PySem.W.Frag) : List (String × Nat) → TS
  | [] => tNext
  | (f, i) :: r => tSeq (tOst K (sO f) (tVar 0) (tVar i)) (tSet K r)
/-- what is stored: with its place -/
def plc : Nat → List String → List (String × Nat)
  | _, [] => []
  | i, f :: fs => (f, i) :: plc (i + 1) fs
theorem dbg_f {f : String} (h : f ∈ (xtab.map (·.2)).flatten) : (sO f == ("__debug__" : Str)) = false ∧ (sO f == ("__classdict__" : Str)) = false := by
  have key : ((xtab.map (·.2)).flatten.all fun f => !(sO f == ("__debug__" : Str)) && !(sO f == ("__classdict__" : Str))) = true := by decide +kernel
  have := List.all_eq_true.mp key f h
  simpa using this
theorem pss_self {X : Cx} : ∀ {fs : List String} {i : Nat} {ss : List Stmt}, chkSelf fs ss = true → (∀ f ∈ fs, f ∈ (xtab.map (·.2)).flatten) → X.N[0]? = some (sO "self") → Vis X.env.scope (sO "self") → (∀ (j : Nat) f, fs[j]? = some f → X.N[i + j]? = some (sO f) ∧ Vis X.env.scope (sO f)) → PSs X ss (tSet X.K (plc i fs))
  | [], i, ss, h, _, _, _, _ => by
    cases ss with
    | nil => exact pss_nil
    | cons _ _ => exact Bool.noConfusion (show false = true from h)
  | f :: fs, i, ss, h, hx, h0, v0, hN => by
    unfold chkSelf at h
    split at h
    · rename_i e; exact absurd e (by simp)
    · rename_i f' fs' s _ g _ v _ _ ss' e
      cases e
      simp only [Bool.and_eq_true, decide_eq_true_eq] at h
      obtain ⟨⟨⟨rfl, rfl⟩, rfl⟩, h⟩ := h
      obtain ⟨n1, n2⟩ := hN 0 f rfl
      obtain ⟨d1, d2⟩ := dbg_f (hx f List.mem_cons_self)
      exact pss_cons (ps_ost (pe_var h0 v0 (by decide +kernel) (by decide +kernel)) (pe_var n1 n2 d1 d2)) (pss_self h (fun f hf => hx f (List.mem_cons_of_mem _ hf)) h0 v0 fun j f hj => by
        have := hN (j + 1) f hj
        rw [show i + (j + 1) = i + 1 + j by omega] at this
        exact this)
    · cases h
/-- the promise of an __init__ -/
def spO (C : Addr) (fs : List String) : Sp := fun vs H Q _ => ∃ a ws, vs = .ref a :: ws ∧ ws.length = fs.length ∧ H a = some (exo a C none) ∧
  ∀ H2 d, H d = none → d ≠ a → H2 a = some (exo a C (some d)) → H2 d = some (exd d ((fs.map sO).zip ws).reverse) → (∀ b, b ≠ a → b ≠ d → H2 b = H b) → Q .non H2
theorem set_old {K : PySem.W.Frag} {C a d : Addr} {H0 : Hp} {D : Ends} {σ : L2.St} (T : OexC K C) (hs : σ[0]? = some (some (V.ref a))) (hd : H0 d = none) (hda : d ≠ a) : ∀ {fs : List String} {i : Nat} {ws : List V} {dn : List (Str × V)} {H : Hp}, ws.length = fs.length → dn.length + fs.length ≤ 900 →
    (∀ f ∈ fs, PySem.W.findIn K (.ref C) (sO f) = some none) → (∀ (j : Nat) w, ws[j]? = some w → σ[i + j]? = some (some w)) → H a = some (exo a C (some d)) → H d = some (exd d dn) → (∀ b, b ≠ a → b ≠ d → H b = H0 b) →
    (∀ H2, H2 a = some (exo a C (some d)) → H2 d = some (exd d (((fs.map sO).zip ws).reverse ++ dn)) → (∀ b, b ≠ a → b ≠ d → H2 b = H0 b) → D.nx σ H2) → tSet K (plc i fs) D σ H
  | [], i, ws, dn, H, hl, _, _, _, h1, h2, h3, hQ => hQ H h1 (by simpa using h2) h3
  | f :: fs, i, [], dn, H, hl, _, _, _, h1, h2, h3, hQ => by cases hl
  | f :: fs, i, w :: ws, dn, H, hl, hz, hno, hw, h1, h2, h3, hQ => by
    refine ⟨w, hw 0 w rfl, .ref a, hs, a, C, rfl, T, hno f List.mem_cons_self, .inr ⟨d, dn, h1, h2, by rw [List.length_cons] at hz; omega, ?_⟩⟩
    refine set_old T hs hd hda (ws := ws) (dn := (sO f, w) :: dn) (by simpa using hl) (by rw [List.length_cons] at hz ⊢; omega) (fun g hg => hno g (List.mem_cons_of_mem _ hg)) (fun j w hj => by
      have := hw (j + 1) w hj
      rw [show i + (j + 1) = i + 1 + j by omega] at this
      exact this) (by rw [upd_ne (Ne.symm hda)]; exact h1) upd_same (fun b hb hb2 => by rw [upd_ne hb2]; exact h3 b hb hb2) fun H2 k1 k2 k3 => hQ H2 k1 (by
        rw [k2]
        simp) k3
theorem set_new {K : PySem.W.Frag} {C a : Addr} {D : Ends} {σ : L2.St} (T : OexC K C) (hs : σ[0]? = some (some (V.ref a))) {fs : List String} {ws : List V} {H : Hp} (hl : ws.length = fs.length) (hz : fs.length ≤ 900) (h0 : fs ≠ [])
    (hno : ∀ f ∈ fs, PySem.W.findIn K (.ref C) (sO f) = some none) (hw : ∀ (j : Nat) w, ws[j]? = some w → σ[1 + j]? = some (some w)) (ha : H a = some (exo a C none))
    (hQ : ∀ H2 d, H d = none → d ≠ a → H2 a = some (exo a C (some d)) → H2 d = some (exd d ((fs.map sO).zip ws).reverse) → (∀ b, b ≠ a → b ≠ d → H2 b = H b) → D.nx σ H2) : tSet K (plc 1 fs) D σ H := by
  cases fs with
  | nil => exact absurd rfl h0
  | cons f fs =>
    cases ws with
    | nil => cases hl
    | cons w ws =>
      refine ⟨w, hw 0 w rfl, .ref a, hs, a, C, rfl, T, hno f List.mem_cons_self, .inl ⟨ha, fun dx hdx hda => ?_⟩⟩
      refine set_old (H0 := H) T hs hdx hda (ws := ws) (dn := [(sO f, w)]) (by simpa using hl) (by rw [List.length_cons] at hz; simp; omega) (fun g hg => hno g (List.mem_cons_of_mem _ hg)) (fun j w hj => by
        have := hw (j + 1) w hj
        rw [show 1 + (j + 1) = 1 + 1 + j by omega] at this
        exact this) upd_same (by rw [upd_ne hda, upd_same]) (fun b hb hb2 => by rw [upd_ne hb, upd_ne hb2]) fun H2 k1 k2 k3 => hQ H2 dx hdx hda k1 (by
          rw [k2]
          simp) k3
/-- what is written of a class's __init__ -/
def InitK (K : PySem.W.Frag) (c : String) (C : Addr) : Prop :=
  ∃ (B fI : Addr) (fd : FuncData) (st : Stmt), ErrC K B ∧ PySem.W.findIn K (.ref C) "__init__" = some (some (.ref fI)) ∧ PySem.W.typeIn K (.ref fI) = some (.type "function") ∧ Fun K "__init__" (sO (c ++ ".__init__")) st fI fd ∧
    Binds K fd (("self" :: fieldsOf c).map sO) [] ∧ FnScope (("self" :: fieldsOf c).map sO) (("self" :: fieldsOf c).map sO) (defScope st) ∧ gloB (defScope st) (sO "StintError") = true ∧ chkInit (fieldsOf c) (defBody st) = true
/-- a class, as a def that raises must know it -/
def ClsAt (K : PySem.W.Frag) (mg : Str → Option Value) (c : String) : Prop :=
  ∃ C, ClsK K c C ∧ mg (sO c) = some (.ref C) ∧ (fieldsOf c = [] → c ≠ "StintError" → PySem.W.excIn K C [.type "ValueError", .type "Exception", .type "BaseException", .type "object"] "ValueError.__new__" = true) ∧ (fieldsOf c ≠ [] → InitK K c C ∧ ∃ B, ErrC K B ∧ mg (sO "StintError") = some (.ref B))
theorem fields_flat {c : String} : ∀ f ∈ fieldsOf c, f ∈ (xtab.map (·.2)).flatten := by
  intro f hf
  unfold fieldsOf at hf
  cases e : xtab.lookup c with
  | none => rw [e] at hf; cases hf
  | some fs =>
    rw [e] at hf
    have : ∀ l : List (String × List String), l.lookup c = some fs → fs ∈ l.map (·.2) := fun l => by
      induction l with
      | nil => intro z; cases z
      | cons p l ih =>
        intro z
        obtain ⟨k, v⟩ := p
        rw [List.lookup_cons] at z
        split at z
        · cases z; exact List.mem_cons_self
        · exact List.mem_cons_of_mem _ (ih z)
    exact List.mem_flatten.mpr ⟨fs, this _ e, hf⟩
theorem fields_le (c : String) : (fieldsOf c).length ≤ 2 := by
  unfold fieldsOf
  cases e : xtab.lookup c with
  | none => exact Nat.zero_le _
  | some fs =>
    have key : (xtab.all fun p => decide (p.2.length ≤ 2)) = true := by decide +kernel
    have : ∀ l : List (String × List String), l.lookup c = some fs → ∃ k, (k, fs) ∈ l := fun l => by
      induction l with
      | nil => intro z; cases z
      | cons p l ih =>
        intro z
        obtain ⟨k, v⟩ := p
        rw [List.lookup_cons] at z
        split at z
        · cases z; exact ⟨k, List.mem_cons_self⟩
        · obtain ⟨k, h⟩ := ih z
          exact ⟨k, List.mem_cons_of_mem _ h⟩
    obtain ⟨k, hk⟩ := this _ e
    exact of_decide_eq_true (List.all_eq_true.mp key _ hk)
theorem fn_init {P : Program} {w : World} {K : PySem.W.Frag} {mg : Str → Option Value} {base : Heap} {c : String} {C B fI : Addr} {fd : FuncData} {st : Stmt} (k : ClsK K c C) (E : ErrC K B) (hm : mg (sO "StintError") = some (.ref B)) (F : Fun K "__init__" (sO (c ++ ".__init__")) st fI fd)
    (sc : FnScope (("self" :: fieldsOf c).map sO) (("self" :: fieldsOf c).map sO) (defScope st)) (hg : gloB (defScope st) (sO "StintError") = true) (hc : chkInit (fieldsOf c) (defBody st) = true) (hf : fieldsOf c ≠ []) :
    FnOk P w K mg base CX0 1 fI fd (("self" :: fieldsOf c).map sO) (spO C (fieldsOf c)) := by
  refine F.ok sc (fun vs H Q E h => ?_) (fun cdv A outer s H vs Q E' hr h => ?_)
  · obtain ⟨a, ws, rfl, hl, _⟩ := h
    simp [hl]
  obtain ⟨a, ws, rfl, hl, ha, hQ⟩ := h
  generalize hX : (cxOf CX0 P w K mg base (("self" :: fieldsOf c).map sO) (sO (c ++ ".__init__")) (defScope st) fI cdv A outer s H E').nox = X
  have xK : X.K = K := by rw [← hX]; rfl
  have xN : X.N = ("self" :: fieldsOf c).map sO := by rw [← hX]; rfl
  have xS : X.env.scope = defScope st := by rw [← hX]; rfl
  have xm : X.mg = mg := by rw [← hX]; rfl
  have vis : ∀ x ∈ ("self" :: fieldsOf c).map sO, Vis X.env.scope x := fun x hx => by
    rw [xS]
    rcases sc.par x hx with q | q
    · exact .inl q
    · exact .inr (.inl q)
  have h0 : X.N[0]? = some (sO "self") := by rw [xN]; rfl
  have v0 := vis (sO "self") List.mem_cons_self
  unfold chkInit at hc
  split at hc
  case h_2 => cases hc
  rename_i b p1 m p2 sf p3 cs j p4 cp p5 ss e
  simp only [Bool.and_eq_true, decide_eq_true_eq] at hc
  obtain ⟨⟨⟨⟨hln, rfl⟩, rfl⟩, rfl⟩, hs⟩ := hc
  have hgl : Gl X (sO "StintError") := by
    show X.env.scope.names.lookup _ = _
    rw [xS]
    unfold gloB at hg
    split at hg
    · assumption
    · cases hg
  refine ⟨tSeq (tDrop (tVeI K (tCons (tVar 0) (tCons (tC (.str cs)) tNil)))) (tSet K (plc 1 (fieldsOf c))), ?_, ?_⟩
  · rw [e, ← xK]
    refine pss_cons (ps_expr (pe_ocinit (by rw [xm]; exact hm) (by rw [xK]; exact E) hgl (by exact (pa_cons (pe_var h0 v0 (by decide +kernel) (by decide +kernel)) (pa_cons pe_str pa_nil))) hln rfl rfl rfl) ?_) (pss_self hs fields_flat h0 v0 fun j f hj => ⟨?_, ?_⟩)
    · rfl
    · rw [xN, Nat.add_comm]
      show (sO "self" :: (fieldsOf c).map sO)[j + 1]? = _
      rw [List.getElem?_cons_succ, List.getElem?_map, hj]
      rfl
    · exact vis _ (List.mem_cons_of_mem _ (List.mem_map_of_mem (List.mem_of_getElem? hj)))
  · have hs0 : (start (("self" :: fieldsOf c).map sO) (V.ref a :: ws))[0]? = some (some (V.ref a)) := rfl
    refine ⟨_, hs0, a, C, [V.str cs], rfl, (by show 1 ≤ 1000; decide), k.oex, ha, ?_⟩
    have hw : ∀ (j : Nat) w, ws[j]? = some w → (start (("self" :: fieldsOf c).map sO) (V.ref a :: ws))[1 + j]? = some (some w) := fun j w hj => by
      unfold L2.start
      rw [Nat.add_comm]
      rw [List.getElem?_append_left (by rw [List.length_map, List.length_cons]; have := (List.getElem?_eq_some_iff.mp hj).1; omega), List.getElem?_map, List.getElem?_cons_succ, hj]
      rfl
    exact set_new k.oex hs0 hl (Nat.le_trans (fields_le c) (by decide)) hf k.fs hw ha fun H2 d h1 h2 h3 h4 h5 => hQ H2 d h1 h2 h3 h4 h5
end Px
set_option Elab.async false
set_option linter.all false
set_option maxRecDepth 100000
set_option maxHeartbeats 4000000
namespace Px
open PySem PySem.Spec PyProof.Rows L2
/-- C(e, ..): what its __init__ leaves -/
def tMkV (C : Addr) (sp : L2.Sp) (ta : TA) : TE := fun σ H Q => ta σ H fun vs H1 => vs.length ≤ 1000 ∧ ∀ a, H1 a = none → sp (.ref a :: vs) (upd H1 a (exo a C none)) (fun v H2 => v = .non ∧ Q (.ref a) H2) (fun _ _ _ => False)
section
variable {X : Cx} {o e : Expr} {es : List Expr} {to te : TE} {ta : TA} {f : Str} {p pos : Pos}
theorem pe_mkv {CX : CXT} {x : Str} {C fI : Addr} {k : Nat} {fd : FuncData} {ps : List Str} {sp : L2.Sp} (T : OexC X.K C) (iC : PySem.W.findIn X.K (.ref C) "__init__" = some (some (.ref fI))) (tI : PySem.W.typeIn X.K (.ref fI) = some (.type "function"))
    (F1 : FnOk X.prog X.w X.K X.mg X.base CX k fI fd ps sp) (hr : Room (k + 1) X.A) (hb : Binds X.K fd ps []) (hx : Passes CX X (fun _ _ _ => False)) (hg : Gl X x) (hm : X.mg x = some (.ref C)) (ha : PA X (e :: es) ta)
    (hdb : (x == ("__debug__" : Str)) = false) (he : starEach (e :: es) X.env = (false, eval e X.env) :: starEach es X.env) (hpl : (backTo pos (starEach es X.env)).any (·.1) = false) :
    PE X (.Call (.Name x p) (e :: es) [] pos) (tMkV C sp ta) := by
  refine ⟨fun pins s σ H Q I h => ?_⟩
  obtain ⟨nm, q, N, bs, bm, sn, sub, ab, col, dd, k0, k1, k2, k3, k5, hC, hbm⟩ := T.cls
  refine wpAny_Call_Name_kw (ld_glob I hg hm ?_ hdb)
  refine PySem.W.callWith_K (h₀ := X.base) I.ok.mod.kin T.kC (thn (ha.run pos pins s σ H _ I h) fun us s1 ⟨vs, H1, I1, r1, hz, q1⟩ => ⟨I1.kIn, ?_⟩) he hpl
  show wpAny _ _ (call (.ref C) us) _ _ _
  obtain ⟨hp, g, dr, tk, os⟩ := s1
  have hn : H1 (hp.objs.size + 1) = none := I1.hok.fresh (Nat.le_succ _)
  have spq := q1 (hp.objs.size + 1) hn
  have at2 : ((hp.push (PySem.W.kdv_tup us)).push (PySem.HandSPX.excO C hp.objs.size)).get? (hp.objs.size + 1) = some (PySem.HandSPX.excO C hp.objs.size) := by heap_get
  have I2 : Inv X pins σ (upd H1 (hp.objs.size + 1) (exo (hp.objs.size + 1) C none)) ⟨(hp.push (PySem.W.kdv_tup us)).push (PySem.HandSPX.excO C hp.objs.size), g, dr, tk, os⟩ :=
    I1.laid (t' := tk) (fun b o e => Heap.get?_push_of_some _ (Heap.get?_push_of_some _ e)) (Nat.le_succ _) (exo_ok at2)
  have r2 : Vals (V.ref (hp.objs.size + 1) :: vs) (Value.ref (hp.objs.size + 1) :: us) := .cons rfl r1
  have hl : (Value.ref (hp.objs.size + 1) :: us ++ []).length = ps.length := by
    rw [List.append_nil, ← r2.length, F1.len _ _ _ _ spq]
  have hus : us.length ≤ sizeLine := by
    rw [← Paired.length r1, sizeLine_eq]
    omega
  refine wpAny_call (PySem.HandSPX.call_own F.excBase_ValueError (fun Y => PySem.HandSPX.refsVE_contains Y bm hbm) (I1.kIn _ _ hC) (PySem.W.looks_findIn I1.kIn iC) (fun self => PySem.W.bind_fn I1.kIn self tI) hus
    (codeAny_mono (F1.run _ X.stack _ _ ⟨Value.ref (hp.objs.size + 1) :: us, []⟩ (Value.ref (hp.objs.size + 1) :: us) _ _ (fun _ _ _ => False) (hr.make C us []) (I2.env0.make C us []) (by
      have := hb _ (Value.ref (hp.objs.size + 1) :: us) I2.kIn hl
      rw [List.append_nil] at this
      exact this) r2 spq) fun r s' hq' => ?_))
  cases r with
  | error er => exact hx pins σ _ _ er s' I2 hq'
  | ok fl =>
    cases fl with
    | ret u =>
      obtain ⟨v, H2, os2, bare2, un2, hok2, rv, ev, q2⟩ := hq'
      subst ev
      obtain ⟨h2, g2, d2, t2, os'⟩ := s'
      exact ⟨rv, .ref (hp.objs.size + 1), H2, I2.call' (ch := []) os2 un2 hok2 bare2 (fun b z => absurd z (by simp)), rfl, q2⟩
    | next => exact False.elim hq'
    | brk => exact False.elim hq'
    | cont => exact False.elim hq'
/-- C() of a class without own __init__ -/
theorem pe_mkv0 {x : Str} {C : Addr} {bmB : List Value} {B newId initId : String} (F : ExcBaseFacts B newId initId bmB) (q : PySem.W.excIn X.K C bmB newId = true) (gC : X.mg x = some (.ref C)) (kC : PySem.W.keepIn X.K (.ref C) = true) (hg : Gl X x) (hdb : (x == ("__debug__" : Str)) = false) :
    PE X (.Call (.Name x p) [] [] pos) (fun _ H Q => ∀ a, H a = none → Q (.ref a) (upd H a (exo a C none))) := by
  refine ⟨fun pins s σ H Q I h => ?_⟩
  refine wpAny_Call_Name_kw (ld_glob I hg gC ?_ hdb)
  refine PySem.W.callWith_K0 I.kIn kC ?_
  obtain ⟨bm, N, nm, qn, bs, hdct, sn, sub, ab, col, dd, k0, k1, k2, k3, k5, mN, hC, hN, hni, T⟩ := exc_obj I.kIn q
  refine wpAny_call_exc_subT F T hC hN hni (fun h' a hm => ?_) (Nat.zero_le _)
  have hn : H a = none := I.hok.gone hm.new
  obtain ⟨t, ht, _, _⟩ := hm.there
  exact ⟨.ref a, upd H a (exo a C none), I.laidN hm.keeps hm.new hn (exo_ok ht), rfl, h a hn⟩
/-- e.f of a refusal that lies -/
def tFld (K : PySem.W.Frag) (f : Str) (te : TE) : TE := fun σ H Q => te σ H fun x H1 => ∃ (a C d : Addr) (fs : List (Str × V)) (v : V), x = .ref a ∧ XfC K C ∧ PySem.W.findIn K (.ref C) f = some none ∧ H1 a = some (exo a C (some d)) ∧ H1 d = some (exd d fs) ∧ fs.lookup f = some v ∧ Q v H1
theorem pe_fld (he : PE X e te) (hb : attributeBase e f X.env (eval e X.env) = eval e X.env) : PE X (.Attribute e f pos) (tFld X.K f te) := by
  refine ⟨fun pins s σ H Q I h => ?_⟩
  refine attr_of hb (thn (he.run pins s σ H _ I h) fun u s1 ⟨x, H1, I1, rx, a, C, d, fs, v, ex, T, hno, ea, ed, l, q⟩ => ?_)
  subst ex
  obtain rfl : u = Value.ref a := rx
  obtain ⟨t1, hoe⟩ := exo_at I1.hok ea
  obtain ⟨mA, hns, hr⟩ := exd_at I1.hok ed
  obtain ⟨od, ho, hl⟩ := lookIn_ns hns
  obtain ⟨w, hw, rw'⟩ := RelO.some_of (v := v) (o := mA f) (by rw [← l]; exact hr f)
  have J : PySem.W.InstAt s1.heap a _ C (some od) := ⟨hoe, rfl, rfl, ho⟩
  exact HandSPX.exc_get I1.kIn J T.ga T.gg T.exC (PySem.W.findObj_own T.hdC hno rfl (by rw [hl, hw])) (handed_of rw') ⟨v, H1, I1.tok _, rw', q⟩
/-- isinstance(e, c) of a refusal that lies -/
def rIsV (K : PySem.W.Frag) : List V → Hp → VK → Prop := fun xs H Q => ∃ (a D : Addr) (d : Option Addr) (c : V) (cv : Value) (b : Bool), xs = [.ref a, c] ∧ H a = some (exo a D d) ∧ (∀ dd, d = some dd → ∃ fs, H dd = some (exd dd fs)) ∧ (∃ cl, ClsK K cl D) ∧ (∀ u, RelV c u → u = cv) ∧ PySem.W.kitOne K (.ref D) cv = some b ∧ Q (.bl b) H
theorem call_isV : CallR X (.builtin "isinstance") (rIsV X.K) := by
  intro pins s σ H xs us Q I r h
  obtain ⟨a, D, d, c, cv, b, rfl, ea, ed, ⟨cl, C⟩, hcv, e, q⟩ := h
  cases r with
  | cons rx rr =>
    cases rr with
    | cons rt rr =>
      cases rr
      cases rx
      have ec := hcv _ rt
      subst ec
      obtain ⟨t1, hoe⟩ := exo_at I.hok ea
      have fin : ∀ od, PySem.W.InstAt s.heap a ({ cls := .ref D, dict := d, data := .fields #[.ref t1, .none, .none, .none, .bool false, .none] } : Obj) D od → wpAny (model X.prog X.w) X.A (call (.builtin "isinstance") [.ref a, _]) (EP X pins σ Q) X.xe s := fun od J =>
        PySem.W.kia_one (PySem.W.kitx_exc C.isCls C.ga C.gg C.base C.ac C.hn C.ht C.object) I.kIn J e (fun z => nomatch z) fun tk => ⟨.bl b, H, I.kept (t' := tk) fun _ _ z => z, rfl, q⟩
      cases d with
      | none => exact fin none ⟨hoe, rfl, rfl, trivial⟩
      | some dd =>
        obtain ⟨fs, e2⟩ := ed dd rfl
        obtain ⟨mA, hns, _⟩ := exd_at I.hok e2
        obtain ⟨od, ho, _⟩ := lookIn_ns hns
        exact fin (some od) ⟨hoe, rfl, rfl, ho⟩
end
end Px
set_option Elab.async false
set_option linter.all false
set_option maxRecDepth 100000
set_option maxHeartbeats 4000000
namespace Px
open PySem PySem.Spec PyProof.Rows L2
/-- a def's promise: it does what the plain function says -/
structure FnP (P : Program) (w : World) (K : PySem.W.Frag) (mg : Str → Option Value) (base : Heap) (n : Nat) (a : Addr) (fd : FuncData) (ps : List Str) (f : List D → Sto → Res Rv) : Prop where
  len : ∀ ds S, f ds S ≠ .stuck → ds.length = ps.length
  run : ∀ (A : Around) (outer : List Env) (s : Shared) (g : Gh) (args : Args) (us : List Value) (vs : List V) (ds : List D) (Q : VK) (E : XK), Room (n + 2) A → A.guards = some [] → Env0 P w K mg base A outer s g.H →
    BindsTo s fd args (ps.zip us) → Vals vs us → Gok K g → g.Reps K ds vs → Post K E (RvR K) g (f ds g.S) Q → codeAny (model P w) A (.call (.ref a) args) (CR (L2.CX P w) outer P w g.H s Q E) s
def FnAt (P : Program) (w : World) (K : PySem.W.Frag) (mg : Str → Option Value) (base : Heap) (n : Nat) (f : String) (φ : List D → Sto → Res Rv) : Prop :=
  ∃ a fd ps, mg (sO f) = some (.ref a) ∧ PySem.W.keepIn K (.ref a) = true ∧ Binds K fd ps [] ∧ FnP P w K mg base n a fd ps φ
def blts : List String := ["len", "abs", "max", "min", "sum", "all", "any", "tuple", "list", "repr", "isinstance", "range", "enumerate", "zip", "int", "bool", "str", "dict", "sorted", "set", "reversed", "ValueError"]
/-- a constant of the module -/
def GRep (K : PySem.W.Frag) (w : World) (d : D) (v : V) : Prop :=
  match d with
  | .dic kvs => ∃ a, v = .ref a ∧ KDic K w a kvs
  | d => ∀ sa R, Rep K sa R d v
theorem GRep.rep {K : PySem.W.Frag} {w : World} {o : Option D} {d : D} {v : V} (h : ∀ d, o = some d → GRep K w d v) (e : globD o = some d) : ∀ sa R, Rep K sa R d v := by
  unfold globD at e
  split at e
  · cases e
  · rename_i hn
    have q := h d e
    cases d <;> first | exact q | exact absurd e (hn _)
structure Ctx (X : Cx) (F : Cf) (fns gls : List String) (n : Nat) (E : L2.St → XK) : Prop where
  ps : ∀ σ, PassesAt (L2.CX X.prog X.w) X σ (E σ)
  calm : X.calm = true
  nd : X.N.Nodup
  room : Room (n + 2) X.A
  grd : X.A.guards = some []
  sys : ∃ m, X.base.Ns sysModules m
  bl : ∀ b ∈ blts, X.mg (sO b) = none
  fn : ∀ f ∈ fns, clsN f = false → FnAt X.prog X.w X.K X.mg X.base n f (F.call f)
  xc : ∀ c ∈ fns, clsN c = true → ClsAt X.K X.mg c
  gl : ∀ x ∈ gls, ∃ u v, X.mg (sO x) = some u ∧ RelV v u ∧ ∀ d, F.glob x = some d → GRep X.K X.w d v
abbrev tx (X : Cx) (fns gls : List String) : Tx := ⟨X.env.scope, X.N, fns, gls, X.fn⟩
section
variable {X : Cx} {F : Cf} {fns gls : List String} {n : Nat} {E : L2.St → XK}
theorem Ctx.un (c : Ctx X F fns gls n E) : X.A.units + 200 < cLine := by have := c.room.un; omega
theorem vis_of {sc : Scope} {x : Str} (h : visB sc x = true) : Vis sc x := by
  unfold visB at h
  split at h
  · exact .inl (by assumption)
  · exact .inr (.inl (by assumption))
  · exact .inr (.inr (by assumption))
  · cases h
theorem loc_of {sc : Scope} {x : Str} (h : locB sc x = true) : Loc sc x := by
  unfold locB at h
  split at h
  · exact .inl (by assumption)
  · exact .inr (by assumption)
  · cases h
theorem lcl_of {sc : Scope} {x : Str} (h : lclB sc x = true) : sc.names.lookup x = some .local := by
  unfold lclB at h
  split at h
  · assumption
  · cases h
theorem at_of {N : List Str} {i : Nat} {x : Str} (h : atB N i x = true) : N[i]? = some x := by
  unfold atB at h
  split at h
  · rename_i y e
    rw [e, of_decide_eq_true h]
  · cases h
theorem glo_of {sc : Scope} {x : Str} (h : gloB sc x = true) : sc.names.lookup x = some .globalImplicit := by
  unfold gloB at h
  split at h
  · assumption
  · cases h
theorem dbg_of {x : Str} (h : (!dbgB x) = true) : (x == ("__debug__" : Str)) = false ∧ (x == ("__classdict__" : Str)) = false ∧ x ≠ ("__name__" : Str) := by
  unfold dbgB at h
  rw [Bool.not_eq_true', Bool.or_eq_false_iff, Bool.or_eq_false_iff] at h
  exact ⟨h.1.1, h.1.2, of_decide_eq_false h.2⟩
theorem gBlt_of {T : Tx} {x : Str} {m : String} (h : gBlt T x m = true) : x = sO m ∧ T.sc.names.lookup x = some .globalImplicit := by
  unfold gBlt at h
  rw [Bool.and_eq_true] at h
  exact ⟨of_decide_eq_true h.1, glo_of h.2⟩
theorem s_var {i : Nat} {x : Str} {pos : Pos} (h1 : X.N[i]? = some x) (h2 : Vis X.env.scope x) (h3 : (x == ("__debug__" : Str)) = false) (h4 : (x == ("__classdict__" : Str)) = false) : PE X (.Name x pos) (rdE X.K E (evE F (.var i))) :=
  PE.imp (pe_var h1 h2 h3 h4) fun σ H Q ⟨g0, g, sl, e, ok, so, h⟩ => by
    subst e
    unfold evE at h
    split at h
    · rename_i d e1
      obtain ⟨v, e2, x, e3, r⟩ := so.at_ i _ e1
      rw [e3] at e2
      exact ⟨x, e2, h g x rfl ok (Stp.refl g) r⟩
    · rename_i c e1
      obtain ⟨v, e2, a, o, e3, h1, h2, h3, h4, h5⟩ := so.at_ i _ e1
      rw [e3] at e2
      exact ⟨.ref a, e2, h g (.ref a) rfl ok (Stp.refl g) ⟨a, o, rfl, h1, h2, h3, h4⟩⟩
    · exact h.elim
theorem s_const {e : Expr} {v : V} {d : D} (h : PE X e (tC v)) (r : ∀ sa R, Rep X.K sa R d v) {f : Slots → Sto → Res Rv} (hf : ∀ sl S, f sl S = .ok (.val d) S) : PE X e (rdE X.K E f) :=
  PE.imp h fun σ H Q ⟨g0, g, sl, e, ok, so, h⟩ => by
    subst e
    rw [hf] at h
    exact h g v rfl ok (Stp.refl g) (r _ _)
section
variable {a b c : Expr} {fa fb fc : Slots → Sto → Res Rv} {pos : Pos}
theorem s_op2 {ex : Expr} {sem : Rv → Rv → Option Rv} (mk : ∀ {ta tb : TE}, PE X a ta → PE X b tb → PE X ex (tOp (rOp2 X.K E sem) ta tb)) (ha : PE X a (rdE X.K E fa)) (hb : PE X b (rdE X.K E fb)) :
    PE X ex (rdE X.K E fun sl S => (fa sl S).bind fun x S1 => (fb sl S1).bind fun y S2 => Res.opt (sem x y) S2) :=
  PE.imp (mk ha hb) fun σ H Q ⟨g0, g, sl, e, ok, so, h⟩ => by
    subst e
    refine ⟨g0, g, sl, rfl, ok, so, Post.bind h fun g1 x v ok1 st1 r1 h1 => ?_⟩
    refine ⟨g0, g1, sl, rfl, ok1, so.step st1, Post.bind (h1.shiftE st1) fun g2 y u ok2 st2 r2 h2 => ?_⟩
    exact ⟨g, g2, x, y, rfl, ok2, r1.after st2, r2.ahead st1, (h2.shiftE st2).optE⟩
theorem s_un {ex : Expr} {sem : Rv → Option Rv} (mk : ∀ {ta : TE}, PE X a ta → PE X ex (tUn (rOp1 X.K E sem) ta)) (ha : PE X a (rdE X.K E fa)) :
    PE X ex (rdE X.K E fun sl S => (fa sl S).bind fun x S1 => Res.opt (sem x) S1) :=
  PE.imp (mk ha) fun σ H Q ⟨g0, g, sl, e, ok, so, h⟩ => by
    subst e
    refine ⟨g0, g, sl, rfl, ok, so, Post.bind h fun g1 x v ok1 st1 r1 h1 => ?_⟩
    exact ⟨g, g1, x, rfl, ok1, r1, (h1.shiftE st1).optE⟩
def semNeg (a : Rv) : Option Rv := match a.look with | .int i => some (.val (.int (-i))) | _ => none
theorem un_negS : UnR X (unaryOp .USub) (rOp1 X.K E semNeg) := by
  intro pins s σ H x v Q I rx ⟨g0, g, ra, e, ok, r1, h⟩
  subst e
  have l1 := r1.lookR ok
  unfold semNeg at h
  generalize ra.look = d1 at h l1
  split at h
  · cases l1.int
    exact un_neg pins s σ g.H _ v Q I rx ⟨_, rfl, Post.val h ok rfl (.int _)⟩
  · exact (Post.no h).elim
/-- what a value's truth is -/
theorem truV_of {g : Gh} {d : D} {v : V} {k : Bool} (ok : Gok X.K g) (l : LookR X.K g d v) (h : d.truth = some k) : TruV X.K v g.H k := by
  cases d with
  | non => cases l.non; cases h; rfl
  | bl b => cases l.bl; cases h; rfl
  | int i => cases l.int; cases h; rfl
  | str z =>
    cases l.str
    have h' : (if z.length ≤ sizeLine then some ((z.length : Int) != 0) else none) = some k := h
    by_cases hz : z.length ≤ sizeLine
    · rw [if_pos hz] at h'; cases h'; exact ⟨hz, rfl⟩
    · rw [if_neg hz] at h'; cases h'
  | tup xs =>
    obtain ⟨a, vs, rfl, s1, t1, z1, q1⟩ := l.tup ok
    cases h
    refine .inr (.inl ⟨vs, t1, ?_⟩)
    cases q1 <;> rfl
  | lst xs =>
    obtain ⟨a, vs, rfl, h1, z1, q1⟩ := l.lst
    cases h
    refine .inl ⟨vs, SqL.of h1, ?_⟩
    cases q1 <;> rfl
  | scr xs =>
    obtain ⟨a, vs, rfl, h1, z1, q1⟩ := l.scr ok
    cases h
    refine .inl ⟨vs, h1, ?_⟩
    cases q1 <;> rfl
  | dic _ => cases h
  | ref _ => cases h
theorem Post.optBind {E : XK} {K : PySem.W.Frag} {α γ δ : Type} {RS : Gh → Gh → γ → δ → Prop} {g : Gh} {o : Option α} {S : Sto} {k : α → Sto → Res γ} {Q : δ → Hp → Prop} (h : Post K E RS g ((Res.opt o S).bind k) Q) : ∃ a, o = some a ∧ Post K E RS g (k a S) Q := by
  cases o with
  | none => exact h.elim
  | some a => exact ⟨a, rfl, h⟩
/-- a test by the value's truth -/
theorem s_truth (ha : PE X a (rdE X.K E fa)) (he : ∀ whole, isTrue a X.env whole = (do let v ← whole; standAt a.pos; holding [v] (truthy v))) : PT X a (rdT X.K E fun sl S => (fa sl S).truth) :=
  PT.imp (pt_truth ha he) fun σ H Q ⟨g0, g, sl, e, ok, so, h⟩ => by
    subst e
    refine ⟨g0, g, sl, rfl, ok, so, Post.bind h fun g1 x v ok1 st1 r1 h1 => ?_⟩
    cases e1 : x.look.truth with
    | none => rw [e1] at h1; exact h1.elim
    | some k =>
      rw [e1] at h1
      exact ⟨k, truV_of ok1 (r1.lookR ok1) e1, h1 g1 k rfl ok1 st1 rfl⟩
theorem s_not (ha : PE X a (rdE X.K E fa)) : PE X (.UnaryOp .Not a pos) (rdE X.K E fun sl S => (fa sl S).bind fun x S1 => (Res.opt x.look.truth S1).bind fun k S2 => .ok (.val (.bl (!k))) S2) :=
  PE.imp (pe_notT ha) fun σ H Q ⟨g0, g, sl, e, ok, so, h⟩ => by
    subst e
    refine ⟨g0, g, sl, rfl, ok, so, Post.bind h fun g1 x v ok1 st1 r1 h1 => ?_⟩
    obtain ⟨k, e1, h2⟩ := Post.optBind h1
    exact ⟨k, truV_of ok1 (r1.lookR ok1) e1, h2 g1 _ rfl ok1 st1 (.bl _)⟩
theorem s_and {rest : List Expr} (ha : PE X a (rdE X.K E fa)) (hb : PE X (.BoolOp .And (b :: rest) pos) (rdE X.K E fb)) :
    PE X (.BoolOp .And (a :: b :: rest) pos) (rdE X.K E fun sl S => (fa sl S).bind fun x S1 => (Res.opt x.look.truth S1).bind fun k S2 => if k then fb sl S2 else .ok x S2) :=
  PE.imp (pe_andT ha hb) fun σ H Q ⟨g0, g, sl, e, ok, so, h⟩ => by
    subst e
    refine ⟨g0, g, sl, rfl, ok, so, Post.bind h fun g1 x v ok1 st1 r1 h1 => ?_⟩
    obtain ⟨k, e1, h2⟩ := Post.optBind h1
    refine ⟨k, truV_of ok1 (r1.lookR ok1) e1, ?_⟩
    cases k with
    | true => exact ⟨g0, g1, sl, rfl, ok1, so.step st1, h2.shiftE st1⟩
    | false => exact h2 g1 v rfl ok1 st1 r1
theorem s_or {rest : List Expr} (ha : PE X a (rdE X.K E fa)) (hb : PE X (.BoolOp .Or (b :: rest) pos) (rdE X.K E fb)) :
    PE X (.BoolOp .Or (a :: b :: rest) pos) (rdE X.K E fun sl S => (fa sl S).bind fun x S1 => (Res.opt x.look.truth S1).bind fun k S2 => if k then .ok x S2 else fb sl S2) :=
  PE.imp (pe_orT ha hb) fun σ H Q ⟨g0, g, sl, e, ok, so, h⟩ => by
    subst e
    refine ⟨g0, g, sl, rfl, ok, so, Post.bind h fun g1 x v ok1 st1 r1 h1 => ?_⟩
    obtain ⟨k, e1, h2⟩ := Post.optBind h1
    refine ⟨k, truV_of ok1 (r1.lookR ok1) e1, ?_⟩
    cases k with
    | true => exact h2 g1 v rfl ok1 st1 r1
    | false => exact ⟨g0, g1, sl, rfl, ok1, so.step st1, h2.shiftE st1⟩
/-- .. as tests -/
theorem s_andT {rest : List Expr} (ha : PT X a (rdT X.K E fun sl S => (fa sl S).truth)) (hb : PW X (.BoolOp .And (b :: rest) pos) (rdT X.K E fun sl S => (fb sl S).truth)) :
    PW X (.BoolOp .And (a :: b :: rest) pos) (rdT X.K E fun sl S => Res.truth ((fa sl S).bind fun x S1 => (Res.opt x.look.truth S1).bind fun k S2 => if k then fb sl S2 else .ok x S2)) :=
  ⟨fun whole pins s σ H Q I ⟨g0, g, sl, e, ok, so, h⟩ => by
    subst e
    refine (pw_and ha hb).run whole pins s σ g.H Q I ⟨g0, g, sl, rfl, ok, so, ?_⟩
    dsimp only at h ⊢
    cases e1 : fa sl g.S with
    | stuck => rw [e1] at h; exact h.elim
    | exc x S => rw [e1] at h; exact h
    | ok x S =>
      rw [e1] at h
      cases e2 : x.look.truth with
      | none => simp only [Res.truth, Res.bind_ok, e2, Res.opt_none, Res.bind_stuck] at h; exact h.elim
      | some k =>
        simp only [Res.truth, Res.bind_ok, e2, Res.opt_some]
        intro g1 k' hS ok1 st1 ek
        subst ek
        cases k' with
        | true =>
          simp only [Res.truth, Res.bind_ok, e2, Res.opt_some, if_true] at h
          rw [← hS] at h
          exact ⟨g0, g1, sl, rfl, ok1, so.step st1, Post.shiftT h st1⟩
        | false =>
          simp only [Res.truth, Res.bind_ok, e2, Res.opt_some, if_false, Bool.false_eq_true] at h
          exact h g1 false hS ok1 st1 rfl⟩
theorem s_orT {rest : List Expr} (ha : PT X a (rdT X.K E fun sl S => (fa sl S).truth)) (hb : PW X (.BoolOp .Or (b :: rest) pos) (rdT X.K E fun sl S => (fb sl S).truth)) :
    PW X (.BoolOp .Or (a :: b :: rest) pos) (rdT X.K E fun sl S => Res.truth ((fa sl S).bind fun x S1 => (Res.opt x.look.truth S1).bind fun k S2 => if k then .ok x S2 else fb sl S2)) :=
  ⟨fun whole pins s σ H Q I ⟨g0, g, sl, e, ok, so, h⟩ => by
    subst e
    refine (pw_or ha hb).run whole pins s σ g.H Q I ⟨g0, g, sl, rfl, ok, so, ?_⟩
    dsimp only at h ⊢
    cases e1 : fa sl g.S with
    | stuck => rw [e1] at h; exact h.elim
    | exc x S => rw [e1] at h; exact h
    | ok x S =>
      rw [e1] at h
      cases e2 : x.look.truth with
      | none => simp only [Res.truth, Res.bind_ok, e2, Res.opt_none, Res.bind_stuck] at h; exact h.elim
      | some k =>
        simp only [Res.truth, Res.bind_ok, e2, Res.opt_some]
        intro g1 k' hS ok1 st1 ek
        subst ek
        cases k' with
        | true =>
          simp only [Res.truth, Res.bind_ok, e2, Res.opt_some, if_true] at h
          exact h g1 true hS ok1 st1 rfl
        | false =>
          simp only [Res.truth, Res.bind_ok, e2, Res.opt_some, if_false, Bool.false_eq_true] at h
          rw [← hS] at h
          exact ⟨g0, g1, sl, rfl, ok1, so.step st1, Post.shiftT h st1⟩⟩
theorem s_notT (ha : PT X a (rdT X.K E fun sl S => (fa sl S).truth)) : PT X (.UnaryOp .Not a pos) (rdT X.K E fun sl S => Res.truth ((fa sl S).bind fun x S1 => (Res.opt x.look.truth S1).bind fun k S2 => .ok (.val (.bl (!k))) S2)) :=
  PT.imp (pt_not ha) fun σ H Q ⟨g0, g, sl, e, ok, so, h⟩ => by
    subst e
    refine ⟨g0, g, sl, rfl, ok, so, ?_⟩
    dsimp only at h ⊢
    cases e1 : fa sl g.S with
    | stuck => rw [e1] at h; exact h.elim
    | exc x S => rw [e1] at h; exact h
    | ok x S =>
      rw [e1] at h
      cases e2 : x.look.truth with
      | none => simp only [Res.truth, Res.bind_ok, e2, Res.opt_none, Res.bind_stuck] at h; exact h.elim
      | some k =>
        simp only [Res.truth, Res.bind_ok, e2, Res.opt_some] at h ⊢
        intro g1 k' hS ok1 st1 ek
        subst ek
        exact h g1 _ hS ok1 st1 rfl
theorem s_ife (hc : PT X c (rdT X.K E fun sl S => (fc sl S).truth)) (ha : PE X a (rdE X.K E fa)) (hb : PE X b (rdE X.K E fb)) :
    PE X (.IfExp c a b pos) (rdE X.K E fun sl S => (fc sl S).truth.bind fun k S1 => if k then fa sl S1 else fb sl S1) :=
  PE.imp (pe_ifExp hc ha hb) fun σ H Q ⟨g0, g, sl, e, ok, so, h⟩ => by
    subst e
    refine ⟨g0, g, sl, rfl, ok, so, Post.bind h fun g1 k v ok1 st1 r1 h1 => ?_⟩
    subst r1
    cases v with
    | true => exact ⟨g0, g1, sl, rfl, ok1, so.step st1, h1.shiftE st1⟩
    | false => exact ⟨g0, g1, sl, rfl, ok1, so.step st1, h1.shiftE st1⟩
/-- a test of an IfExp, of a comparison: by the value -/
theorem s_cmpT {op : CmpOp} {o : Cop} (hu : X.A.units + 65 < cLine) (hm : behindInMarks op b = false) (ho : o.op = op) (ha : PE X a (rdE X.K E fa)) (hb : PE X b (rdE X.K E fb)) :
    PT X (.Compare a [op] [b] pos) (rdT X.K E fun sl S => Res.truth ((fa sl S).bind fun x S1 => (fb sl S1).bind fun y S2 => Res.opt (semC o x y) S2)) := by
  subst ho
  refine PT.imp (pt_cmpR (op_cmpS (E := E) hu o) ha hb hm) fun σ H Q ⟨g0, g, sl, e, ok, so, h⟩ => ?_
  subst e
  dsimp only at h
  refine ⟨g0, g, sl, rfl, ok, so, Post.bind (RS := fun _ _ a (b : Bool) => b = a) (γ := Bool) (k := fun x S1 => Res.truth ((fb sl S1).bind fun y S2 => Res.opt (semC o x y) S2)) (by
    cases e1 : fa sl g.S <;> rw [e1] at h <;> exact h) fun g1 x v ok1 st1 r1 h1 => ?_⟩
  refine ⟨g0, g1, sl, rfl, ok1, so.step st1, Post.bind (RS := fun _ _ a (b : Bool) => b = a) (γ := Bool) (k := fun y S2 => Res.truth (Res.opt (semC o x y) S2)) (by
    have h1 := Post.shiftT h1 st1
    cases e1 : fb sl g1.S <;> rw [e1] at h1 <;> exact h1) fun g2 y u ok2 st2 r2 h2 => ?_⟩
  refine ⟨g, g2, x, y, rfl, ok2, r1.after st2, r2.ahead st1, ?_⟩
  cases e1 : semC o x y with
  | none => rw [e1] at h2; exact h2.elim
  | some r =>
    rw [e1] at h2
    unfold semC at e1
    obtain ⟨k, e2, e3⟩ := Option.map_eq_some_iff.mp e1
    subst e3
    intro g3 v3 hS ok3 st3 r3
    have r3' : g3.Rep X.K (.bl k) v3 := r3
    cases r3'
    exact ⟨k, rfl, (Post.shiftT h2 st2) g3 k hS ok3 st3 rfl⟩
end
end
end Px
set_option Elab.async false
set_option linter.all false
set_option maxRecDepth 100000
set_option maxHeartbeats 4000000
namespace Px
open PySem PySem.Spec PyProof.Rows L2
theorem Res.bind_assoc {α β γ : Type} (r : Res α) (k : α → Sto → Res β) (l : β → Sto → Res γ) : (r.bind k).bind l = r.bind fun a S => (k a S).bind l := by cases r <;> rfl
def notStar : Expr → Bool
  | .Starred _ _ => false
  | _ => true
theorem star_cons {e : Expr} {es : List Expr} {env : Env} (h : notStar e = true) : starEach (e :: es) env = (false, eval e env) :: starEach es env := by
  cases e <;> first | rfl | cases h
theorem star_plain {env : Env} {pos : Pos} : ∀ {es : List Expr}, (∀ e ∈ es, notStar e = true) → (backTo pos (starEach es env)).any (·.1) = false
  | [], _ => rfl
  | e :: es, h => by
    rw [star_cons (h e List.mem_cons_self)]
    show (false || (backTo pos (starEach es env)).any (·.1)) = false
    rw [star_plain fun x hx => h x (List.mem_cons_of_mem _ hx)]
    rfl
section
variable {X : Cx} {F : Cf} {fns gls : List String} {n : Nat} {E : L2.St → XK} {a b c e : Expr} {es : List Expr} {fa fb fc : Slots → Sto → Res Rv} {pos : Pos}
theorem Post.bindAt {E : XK} {K : PySem.W.Frag} {α β γ δ : Type} {RR : Gh → Gh → α → β → Prop} {RS : Gh → Gh → γ → δ → Prop} {g g1 : Gh} {f : Res α} {k : α → Sto → Res γ} {Q : δ → Hp → Prop} {Q1 : β → Hp → Prop} (st : Stp g g1) (h : Post K E RS g (f.bind k) Q)
    (hk : ∀ g2 a v, Gok K g2 → Stp g1 g2 → RR g1 g2 a v → Post K E RS g (k a g2.S) Q → Q1 v g2.H) : Post K E RR g1 f Q1 := by
  cases f with
  | ok a S => intro g' v e ok s r; subst e; exact hk g' a v ok s r h
  | exc x S => intro g' C od e ok s q; exact h g' C od e ok (st.trans s) q
  | stuck => exact h
/-- data of an expression, then more -/
theorem Post.data {E : XK} {K : PySem.W.Frag} {γ δ : Type} {RS : Gh → Gh → γ → δ → Prop} {g0 g : Gh} {sl : Slots} {σ : L2.St} {r : Res Rv} {k : D → Sto → Res γ} {Q : δ → Hp → Prop} {Q1 : V → Hp → Prop} (so : SlOk K g0 g σ sl) (h : Post K E RS g (r.data.bind k) Q)
    (hk : ∀ g1 d v, Gok K g1 → Stp g g1 → SlOk K g0 g1 σ sl → g1.Rep K d v → Post K E RS g (k d g1.S) Q → Q1 v g1.H) : Post K E (RvR K) g r Q1 := by
  unfold Res.data at h
  rw [Res.bind_assoc] at h
  refine Post.bind h fun g1 x v ok1 st1 r1 h1 => ?_
  obtain ⟨d, e1, h2⟩ := Post.optBind h1
  obtain ⟨g2, q1, q2, q3, q4, q5, q6⟩ := r1.esc ok1 st1 e1
  rw [← q1]
  rw [← q2] at h2
  exact hk g2 d v q3 q4 (so.step q4) q6 h2
theorem s_nil {es : List Expr} (h : es = []) : PA X es (rdA X.K E (evA F .nil)) := by
  subst h
  exact PA.imp pa_nil fun σ H Q ⟨g0, g, sl, e, ok, so, h⟩ => by
    subst e
    unfold evA at h
    exact h g [] rfl ok (Stp.refl g) .nil
theorem s_cons {x : Ex} {xs : Exs} (hs : notStar e = true) (ha : PE X e (rdE X.K E (evE F x))) (hr : PA X es (rdA X.K E (evA F xs))) : PA X (e :: es) (rdA X.K E (evA F (.cons x xs))) :=
  PA.imp (pa_cons ha hr (star_cons hs)) fun σ H Q ⟨g0, g, sl, e, ok, so, h⟩ => by
    subst e
    unfold evA at h
    refine ⟨g0, g, sl, rfl, ok, so, Post.data so h fun g1 d v ok1 st1 so1 r1 h1 => ?_⟩
    refine ⟨g0, g1, sl, rfl, ok1, so1, Post.bind (h1.shiftA st1) fun g2 ds vs ok2 st2 r2 h2 => ?_⟩
    exact h2 g2 (v :: vs) rfl ok2 st2 (.cons (st2.gro.rep r1) r2)
theorem s_nilR {es : List Expr} (h : es = []) : PA X es (rdR X.K E (evR F .nil)) := by
  subst h
  exact PA.imp pa_nil fun σ H Q ⟨g0, g, sl, e, ok, so, h⟩ => by
    subst e
    unfold evR at h
    exact h g [] rfl ok (Stp.refl g) .nil
theorem s_consR {x : Ex} {xs : Exs} (hs : notStar e = true) (ha : PE X e (rdE X.K E (evE F x))) (hr : PA X es (rdR X.K E (evR F xs))) : PA X (e :: es) (rdR X.K E (evR F (.cons x xs))) :=
  PA.imp (pa_cons ha hr (star_cons hs)) fun σ H Q ⟨g0, g, sl, e, ok, so, h⟩ => by
    subst e
    unfold evR at h
    refine ⟨g0, g, sl, rfl, ok, so, Post.bind h fun g1 d v ok1 st1 r1 h1 => ?_⟩
    refine ⟨g0, g1, sl, rfl, ok1, so.step st1, Post.bindAt st1 h1 fun g2 ds vs ok2 st2 r2 h2 => ?_⟩
    exact h2 g2 (v :: vs) rfl ok2 (st1.trans st2) (.cons (r1.after st2) (r2.ahead st1))
theorem s_tup {xs : Exs} {k : Nat} (ha : PA X es (rdA X.K E (evA F xs))) : PE X (.Tuple es k pos) (rdE X.K E (evE F (.tup xs))) :=
  PE.imp (pe_tup ha) fun σ H Q ⟨g0, g, sl, e, ok, so, h⟩ => by
    subst e
    unfold evE at h
    refine ⟨g0, g, sl, rfl, ok, so, Post.bind h fun g1 ds vs ok1 st1 r1 h1 => ?_⟩
    split at h1
    case isFalse => exact h1.elim
    rename_i hz
    exact ⟨by rw [← r1.length]; exact hz, Post.tup (h1.shiftE st1) ok1 rfl r1 hz⟩
theorem s_list {xs : Exs} (ha : PA X es (rdA X.K E (evA F xs))) : PE X (.List es pos) (rdE X.K E (evE F (.list xs))) :=
  PE.imp (pe_lst ha) fun σ H Q ⟨g0, g, sl, e, ok, so, h⟩ => by
    subst e
    unfold evE at h
    refine ⟨g0, g, sl, rfl, ok, so, Post.bind h fun g1 ds vs ok1 st1 r1 h1 => ?_⟩
    split at h1
    case isFalse => exact h1.elim
    rename_i hz
    exact ⟨by rw [← r1.length]; exact hz, Post.fresh (h1.shiftE st1) ok1 rfl r1 hz⟩
/-- the call of a def, from a body -/
theorem run_P {E : XK} {P : Program} {a : Addr} {fd : FuncData} {ps : List Str} {φ : List D → Sto → Res Rv} {pins : List (Addr × Obj)} {σ : L2.St} {s : Shared} {Q : VK} {us : List Value} {vs : List V} {g : Gh} {ds : List D}
    (G : FnP X.prog X.w X.K X.mg X.base n a fd ps φ) (hps : PassesAt (L2.CX X.prog X.w) X σ E) (hr : Room (n + 2) X.A) (hg : X.A.guards = some []) (hb : Binds X.K fd ps []) (I : Inv X pins σ g.H s) (r : Vals vs us) (ok : Gok X.K g) (q : g.Reps X.K ds vs)
    (h : Post X.K E (RvR X.K) g (φ ds g.S) Q) : wpAny (model X.prog X.w) X.A (call (.ref a) us) (EP X pins σ Q) X.xe s := by
  have hl : ds.length = ps.length := G.len ds g.S fun e => by rw [e] at h; exact h
  have hl2 : (us ++ ([] : List Value)).length = ps.length := by rw [List.append_nil, ← r.length, ← q.length, hl]
  have hb2 := hb s us I.kIn hl2
  rw [List.append_nil] at hb2
  refine wpAny_call (codeAny_mono (G.run X.A X.stack s g ⟨us, []⟩ us vs ds Q E hr hg I.env0 hb2 r ok q h) fun rr s' hq => ?_)
  cases rr with
  | error e => exact hps pins g.H s e s' I hq
  | ok fl =>
    cases fl with
    | ret u => exact I.after hq
    | next => exact False.elim hq
    | brk => exact False.elim hq
    | cont => exact False.elim hq
theorem s_call (c : Ctx X F fns gls n E) {f : String} {x : Str} {p : Pos} {xs : Exs} (hx : x = sO f) (hgl : X.env.scope.names.lookup x = some .globalImplicit) (hf : f ∈ fns) (hcl : clsN f = false) (hd : (x == ("__debug__" : Str)) = false)
    (hst : ∀ e ∈ es, notStar e = true) (hz : es = [] → xs = .nil) (ha : PA X es (rdA X.K E (evA F xs))) : PE X (.Call (.Name x p) es [] pos) (rdE X.K E (evE F (.call f xs))) := by
  obtain ⟨a, fd, ps, hm, hk, hb, G⟩ := c.fn f hf hcl
  refine ⟨fun pins s σ H Q I ⟨g0, g, sl, e, ok, so, h⟩ => ?_⟩
  subst e hx
  unfold evE at h
  refine wpAny_Call_Name_kw (ld_glob I hgl hm ?_ hd)
  cases es with
  | nil =>
    refine PySem.W.callWith_K0 I.kIn hk ?_
    have := hz rfl
    subst this
    unfold evA at h
    exact run_P (P := X.prog) (vs := []) G (c.ps σ) c.room c.grd hb I .nil ok .nil h
  | cons e0 es =>
    refine PySem.W.callWith_K (h₀ := X.base) I.ok.mod.kin hk (thn (ha.run pos pins s σ g.H (fun vs H1 => ∃ g1 ds, g1.H = H1 ∧ Gok X.K g1 ∧ g1.Reps X.K ds vs ∧ Post X.K (E σ) (RvR X.K) g1 (F.call f ds g1.S) Q) I ?_) fun us s1 ⟨vs, H1, I1, r, g1, ds, e1, ok1, q1, h1⟩ => ⟨I1.kIn, ?_⟩) (star_cons (hst _ List.mem_cons_self)) (star_plain fun z hz => hst z (List.mem_cons_of_mem _ hz))
    · refine ⟨g0, g, sl, rfl, ok, so, Post.bind h fun g1 ds vs ok1 st1 r1 h1 => ?_⟩
      exact ⟨g1, ds, rfl, ok1, r1, h1.shiftE st1⟩
    · subst e1
      exact run_P (P := X.prog) G (c.ps σ) c.room c.grd hb I1 r ok1 q1 h1
theorem bi_boot : ∀ b : Bi, bootBuiltins (sO b.nm) = some b.val
  | .len => by decide +kernel | .abs => by decide +kernel | .max2 => by decide +kernel | .min2 => by decide +kernel | .maxL => by decide +kernel | .minL => by decide +kernel
  | .sum => by decide +kernel | .all => by decide +kernel | .any => by decide +kernel | .tuple => by decide +kernel | .list => by decide +kernel | .repr => by decide +kernel
  | .int => by decide +kernel | .str => by decide +kernel | .sorted => by decide +kernel | .bool => by decide +kernel
theorem bi_in (b : Bi) : b.nm ∈ blts := by cases b <;> decide
theorem bi_nn (b : Bi) : sO b.nm ≠ "__name__" := by cases b <;> decide +kernel
theorem bi_nd (b : Bi) : (sO b.nm == ("__debug__" : Str)) = false := by cases b <;> decide +kernel
theorem s_bi (c : Ctx X F fns gls n E) {bi : Bi} {x : Str} {p : Pos} {xs : Exs} (hx : x = sO bi.nm) (hgl : X.env.scope.names.lookup x = some .globalImplicit)
    (hst : ∀ y ∈ e :: es, notStar y = true) (ha : PA X (e :: es) (rdR X.K E (evR F xs))) : PE X (.Call (.Name x p) (e :: es) [] pos) (rdE X.K E (evE F (.bi bi xs))) := by
  subst hx
  have hm := c.bl _ (bi_in bi)
  have hs := star_cons (env := X.env) (es := es) (hst e List.mem_cons_self)
  have hp := star_plain (env := X.env) (pos := pos) fun z hz => hst z (List.mem_cons_of_mem e hz)
  have hcr := call_biS (E := E) c.calm c.grd (by have := c.un; omega) c.sys bi
  have key : PE X (.Call (.Name (sO bi.nm) p) (e :: es) [] pos) (tCB (rBi X.K E bi) (rdR X.K E (evR F xs))) := by
    by_cases ht : bi = .tuple ∨ bi = .list ∨ bi = .int ∨ bi = .str ∨ bi = .bool
    · rcases ht with ht | ht | ht | ht | ht
      · subst ht
        exact pe_callTy (T := "tuple") hcr hgl hm (bi_boot .tuple) ha (bi_nn .tuple) (bi_nd .tuple) hs hp
      · subst ht
        exact pe_callTy (T := "list") hcr hgl hm (bi_boot .list) ha (bi_nn .list) (bi_nd .list) hs hp
      · subst ht
        exact pe_callTy (T := "int") hcr hgl hm (bi_boot .int) ha (bi_nn .int) (bi_nd .int) hs hp
      · subst ht
        exact pe_callTy (T := "str") hcr hgl hm (bi_boot .str) ha (bi_nn .str) (bi_nd .str) hs hp
      · subst ht
        exact pe_callTy (T := "bool") hcr hgl hm (bi_boot .bool) ha (bi_nn .bool) (bi_nd .bool) hs hp
    · have e1 : bi.val = .builtin bi.nm := by cases bi <;> first | rfl | (exfalso; exact ht (.inl rfl)) | (exfalso; exact ht (.inr (.inl rfl))) | (exfalso; exact ht (.inr (.inr (.inl rfl)))) | (exfalso; exact ht (.inr (.inr (.inr (.inl rfl))))) | (exfalso; exact ht (.inr (.inr (.inr (.inr rfl)))))
      have hcr' : CallR X (.builtin bi.nm) (rBi X.K E bi) := by rw [← e1]; exact hcr
      exact pe_callB hcr' hgl hm (by rw [bi_boot, e1]) ha (bi_nn bi) (bi_nd bi) hs hp
  exact PE.imp key fun σ H Q ⟨g0, g, sl, e, ok, so, h⟩ => by
    subst e
    unfold evE at h
    refine ⟨g0, g, sl, rfl, ok, so, Post.bind h fun g1 ds vs ok1 st1 r1 h1 => ?_⟩
    exact ⟨g, g1, ds, rfl, ok1, r1, (h1.shiftE st1).optE⟩
def D.tyN : D → String
  | .non => "NoneType"
  | .bl _ => "bool" | .int _ => "int" | .str _ => "str" | .tup _ => "tuple" | .lst _ => "list" | .scr _ => "list" | .dic _ => "dict" | .ref _ => "list"
theorem tyX_of {g : Gh} {d : D} {v : V} (ok : Gok X.K g) (l : LookR X.K g d v) (nd : isDic d g.S = false) : TyX X.K g.H v (.type d.tyN) := by
  cases d with
  | non => cases l.non; exact .base .non
  | bl b => cases l.bl; exact .base (.bl _)
  | int b => cases l.int; exact .base (.int _)
  | str b => cases l.str; exact .base (.str _)
  | tup xs =>
    obtain ⟨a, vs, rfl, s1, t1, z1, q1⟩ := l.tup ok
    rcases t1 with (t1 | ⟨o, t1⟩) | ⟨o, its, m, t1, t2, _⟩
    · exact .base (.tup t1)
    · exact .fTuple t1
    · exact .kTuple t1 t2
  | lst xs =>
    obtain ⟨a, vs, rfl, h1, z1, q1⟩ := l.lst
    exact .base (.lst h1)
  | scr xs =>
    obtain ⟨a, vs, rfl, t1, z1, q1⟩ := l.scr ok
    rcases t1 with (t1 | ⟨o, t1⟩) | ⟨o, its, m, t1, t2, _⟩
    · exact .base (.lst t1)
    · exact .base (.frz t1)
    · exact .kList t1 t2
  | dic _ =>
    have h' : g.Rep X.K (.dic _) v := l
    cases h' with | dic a =>
    exact .base (.dK (ok.sub _ _ a))
  | ref i =>
    have h' : g.Rep X.K (.ref i) v := l
    cases h' with | ref e1 =>
    have hi : i < g.S.length := by rw [← ok.len]; exact (List.getElem?_eq_some_iff.mp e1).1
    obtain ⟨o, q1, q2, _⟩ := ok.sto i _ _ e1 (List.getElem?_eq_getElem hi)
    generalize hcc : g.S[i] = cc at q2
    cases cc with
    | lst ys => obtain ⟨_, vs, rfl, _⟩ := q2; exact .base (.lst q1)
    | dic ys =>
      unfold isDic at nd
      dsimp only at nd
      rw [List.getElem?_eq_getElem hi, hcc] at nd
      cases nd
    | dit ys =>
      unfold isDic at nd
      dsimp only at nd
      rw [List.getElem?_eq_getElem hi, hcc] at nd
      cases nd
    | err ys =>
      unfold isDic at nd
      dsimp only at nd
      rw [List.getElem?_eq_getElem hi, hcc] at nd
      cases nd
def isIn1 (d : D) (u : Ty) : Bool := match d.ty with | some t => t.sub u | none => false
theorem kitB_ty (t u : Ty) : kitB t.nm u.nm = some (t.sub u) := by cases t <;> cases u <;> decide +kernel
theorem kitB_non (u : Ty) : kitB "NoneType" u.nm = some false := by cases u <;> decide +kernel
theorem kit1 {K : PySem.W.Frag} (d : D) (u : Ty) : PySem.W.kitOne K (.type d.tyN) (.type u.nm) = some (isIn1 d u) := by
  cases d with
  | non => exact kit_ty (kitB_non u)
  | bl _ => exact kit_ty (kitB_ty .bool u)
  | int _ => exact kit_ty (kitB_ty .int u)
  | str _ => exact kit_ty (kitB_ty .str u)
  | tup _ => exact kit_ty (kitB_ty .tuple u)
  | lst _ => exact kit_ty (kitB_ty .list u)
  | scr _ => exact kit_ty (kitB_ty .list u)
  | dic _ => exact kit_ty (kitB_ty .dict u)
  | ref _ => exact kit_ty (kitB_ty .list u)
theorem isIn_eq (d : D) (ts : List Ty) : isIn d ts = ts.any (isIn1 d) := by
  unfold isIn isIn1
  cases d.ty with
  | none => induction ts with | nil => rfl | cons t ts ih => rw [List.any_cons, ← ih]; rfl
  | some t => rfl
theorem kitA {K : PySem.W.Frag} (d : D) : ∀ ts : List Ty, PySem.W.kitAny K (.type d.tyN) (ts.map fun t => .type t.nm) = some (isIn d ts)
  | [] => by rw [isIn_eq]; rfl
  | t :: ts => by
    rw [isIn_eq, List.any_cons, ← isIn_eq]
    refine kitAny_cons (kit1 d t) (fun e => ?_) fun e => ?_
    · rw [e, Bool.false_or]; exact kitA d ts
    · rw [e, Bool.true_or]
theorem ty_boot : ∀ u : Ty, bootBuiltins (sO u.nm) = some (.type u.nm)
  | .int => by decide +kernel | .bool => by decide +kernel | .str => by decide +kernel | .tuple => by decide +kernel | .list => by decide +kernel | .dict => by decide +kernel
theorem ty_in (u : Ty) : u.nm ∈ blts := by cases u <;> decide
theorem ty_nn (u : Ty) : sO u.nm ≠ "__name__" := by cases u <;> decide +kernel
theorem ty_nd (u : Ty) : (sO u.nm == ("__debug__" : Str)) = false := by cases u <;> decide +kernel
theorem pe_ty (c : Ctx X F fns gls n E) {u : Ty} (h : chkTy (tx X fns gls) u e = true) : PE X e (tC (.ty u.nm)) := by
  cases e <;> first | (cases h; done) | skip
  rename_i x p
  obtain ⟨h1, h2⟩ := gBlt_of (show gBlt (tx X fns gls) x u.nm = true from h)
  subst h1
  exact pe_bltn h2 (c.bl _ (ty_in u)) (ty_boot u) rfl (ty_nn u) (ty_nd u)
theorem ty_star {T : Tx} {u : Ty} (h : chkTy T u e = true) : notStar e = true := by cases e <;> first | rfl | cases h
/-- the written classes of a tuple -/
def tTys (ts : List Ty) : TA := fun _ H Q => Q (ts.map fun t => V.ty t.nm) H
theorem pa_tys (c : Ctx X F fns gls n E) : ∀ {ts : List Ty} {es : List Expr}, chkTys (tx X fns gls) ts es = true → PA X es (tTys ts)
  | [], [], _ => pa_nil
  | u :: us, e :: es, h => by
    have h' : chkTy (tx X fns gls) u e = true ∧ chkTys (tx X fns gls) us es = true := by simpa [chkTys] using h
    exact PA.imp (pa_cons (pe_ty c h'.1) (pa_tys c h'.2) (star_cons (ty_star h'.1))) fun σ H Q q => q
  | [], _ :: _, h => by simp [chkTys] at h
  | _ :: _, [], h => by simp [chkTys] at h
theorem s_isin1 (c : Ctx X F fns gls n E) {u : Ty} {x : Str} {p : Pos} {t : Expr} (hx : x = sO "isinstance") (hgl : X.env.scope.names.lookup x = some .globalImplicit) (hst : notStar e = true) (he : PE X e (rdE X.K E fa)) (ht : chkTy (tx X fns gls) u t = true) :
    PE X (.Call (.Name x p) [e, t] [] pos) (rdE X.K E fun sl S => (fa sl S).bind fun r S1 => if isDic r.look S1 then .stuck else .ok (.val (.bl (isIn r.look [u]))) S1) := by
  subst hx
  have hs2 := ty_star ht
  refine PE.imp (pe_callB call_isi hgl (c.bl _ (by decide)) (by decide +kernel) (pa_cons he (pa_cons (pe_ty c ht) pa_nil (star_cons hs2)) (star_cons hst)) (by decide +kernel) (by decide +kernel) (star_cons hst) (star_plain fun z hz => by
    have : z = t := by simpa using hz
    rw [this]; exact hs2)) fun σ H Q ⟨g0, g, sl, e, ok, so, h⟩ => ?_
  subst e
  refine ⟨g0, g, sl, rfl, ok, so, Post.bind h fun g1 r v ok1 st1 r1 h1 => ?_⟩
  split at h1
  case isTrue => exact h1.elim
  rename_i nd
  have nd := Bool.not_eq_true _ |>.mp nd
  refine ⟨v, .ty u.nm, .type r.look.tyN, .type u.nm, isIn r.look [u], rfl, .ty _, tyX_of ok1 (r1.lookR ok1) nd, ?_, h1 g1 _ rfl ok1 st1 (.bl _)⟩
  rw [kit1, isIn_eq]
  simp
theorem s_isinT (c : Ctx X F fns gls n E) {ts : List Ty} {x : Str} {p p2 : Pos} {k : Nat} {us : List Expr} (hx : x = sO "isinstance") (hgl : X.env.scope.names.lookup x = some .globalImplicit) (hst : notStar e = true) (he : PE X e (rdE X.K E fa)) (ht : chkTys (tx X fns gls) ts us = true) (hl : ts.length < 20) :
    PE X (.Call (.Name x p) [e, .Tuple us k p2] [] pos) (rdE X.K E fun sl S => (fa sl S).bind fun r S1 => if isDic r.look S1 then .stuck else .ok (.val (.bl (isIn r.look ts))) S1) := by
  subst hx
  refine PE.imp (pe_callB call_isiT hgl (c.bl _ (by decide)) (by decide +kernel) (pa_cons he (pa_cons (pe_tup (pa_tys c ht)) pa_nil (star_cons rfl)) (star_cons hst)) (by decide +kernel) (by decide +kernel) (star_cons hst) (star_plain fun z hz => by
    have : z = .Tuple us k p2 := by simpa using hz
    rw [this]; rfl)) fun σ H Q ⟨g0, g, sl, e, ok, so, h⟩ => ?_
  subst e
  refine ⟨g0, g, sl, rfl, ok, so, Post.bind h fun g1 r v ok1 st1 r1 h1 => ?_⟩
  split at h1
  case isTrue => exact h1.elim
  rename_i nd
  have nd := Bool.not_eq_true _ |>.mp nd
  refine ⟨by rw [List.length_map, sizeLine_eq]; omega, fun q hq => ?_⟩
  obtain ⟨k2, st2⟩ := ok1.newR hq (.tup (ts.map fun t => V.ty t.nm))
  refine ⟨v, q, ts.map fun t => V.ty t.nm, .type r.look.tyN, ts.map fun t => .type t.nm, isIn r.look ts, rfl, upd_same, ?_, tyX_of k2 ((r1.after st2).lookR k2) nd, kitA _ ts, h1 (g1.newR q _) _ rfl k2 (st1.trans st2) (.bl _)⟩
  clear h1 k2 st2
  induction ts with
  | nil => exact .nil
  | cons t ts ih => exact .cons (.ty _) (by
      have h' : chkTy (tx X fns gls) t (us.headD (.Constant .none 0 p2)) = true ∨ True := .inr trivial
      have : ∀ l : List Ty, Paired ClsV (l.map fun t => V.ty t.nm) (l.map fun t => Value.type t.nm) := fun l => by
        induction l with
        | nil => exact .nil
        | cons t l ih => exact .cons (.ty _) ih
      exact this ts)
end
end Px
set_option Elab.async false
set_option linter.all false
set_option maxRecDepth 100000
set_option maxHeartbeats 1000000
namespace Px
open PySem PySem.Spec PyProof.Rows L2
section
variable {X : Cx} {F : Cf} {fns gls : List String} {n : Nat} {E : L2.St → XK} {a b c e : Expr} {es : List Expr} {fa fb fc : Slots → Sto → Res Rv} {pos : Pos}
theorem plain_ix {b : Expr} (h : ∀ l u p, b ≠ .Slice l u none p) : PlainIx b := by
  intro o i
  cases b <;> first | rfl | skip
  rename_i l u st p
  cases st with
  | none => exact absurd rfl (h l u p)
  | some z => rfl
theorem s_ix {x y : Ex} (hb : ∀ l u p, b ≠ .Slice l u none p) (ha : PE X a (rdE X.K E (evE F x))) (hi : PE X b (rdE X.K E (evE F y))) : PE X (.Subscript a b pos) (rdE X.K E (evE F (.ix x y))) :=
  PE.imp (s_op2 (sem := opIx) (fun h1 h2 => pe_ix ix_S h1 h2 (plain_ix hb)) ha hi) fun σ H Q h => by
    obtain ⟨g0, g, sl, e, ok, so, h⟩ := h
    unfold evE at h
    exact ⟨g0, g, sl, e, ok, so, h⟩
/-- a part of a slice -/
theorem s_part {l : Option Expr} {x : Exo} {f : Slots → Sto → Res (Option Int)} (hf : f = evP F x) (h : (x = .no ∧ l = none) ∨ ∃ y e, x = .yes y ∧ l = some e ∧ PE X e (rdE X.K E (evE F y))) :
    PO X l (fun σ H (Q : Option Int → Hp → Prop) => rd X.K E (fun _ _ (a b : Option Int) => b = a) f σ H Q) := by
  subst hf
  rcases h with ⟨rfl, rfl⟩ | ⟨y, e, rfl, rfl, he⟩
  · refine ⟨fun pins s σ H Q I ⟨g0, g, sl, e, ok, so, h⟩ => ?_⟩
    subst e
    unfold evP at h
    exact (po_none (X := X)).run pins s σ g.H Q I (h g none rfl ok (Stp.refl g) rfl)
  · refine ⟨fun pins s σ H Q I ⟨g0, g, sl, e, ok, so, h⟩ => ?_⟩
    subst e
    unfold evP Res.int? at h
    rw [Res.bind_assoc] at h
    refine (po_some he).run pins s σ g.H Q I ⟨g0, g, sl, rfl, ok, so, Post.bind h fun g1 r v ok1 st1 r1 h1 => ?_⟩
    have l1 := r1.lookR ok1
    generalize r.look = d at h1 l1
    split at h1
    · cases l1.int
      exact ⟨_, rfl, h1 g1 _ rfl ok1 st1 rfl⟩
    · exact h1.elim
theorem s_sl {x : Ex} {lo hi : Exo} {l u : Option Expr} {p2 : Pos} (ha : PE X a (rdE X.K E (evE F x))) (hl : (lo = .no ∧ l = none) ∨ ∃ y e, lo = .yes y ∧ l = some e ∧ PE X e (rdE X.K E (evE F y)))
    (hu : (hi = .no ∧ u = none) ∨ ∃ y e, hi = .yes y ∧ u = some e ∧ PE X e (rdE X.K E (evE F y))) : PE X (.Subscript a (.Slice l u none p2) pos) (rdE X.K E (evE F (.sl x lo hi))) :=
  PE.imp (pe_slice (sl_S (E := E)) ha (s_part rfl hl) (s_part rfl hu)) fun σ H Q ⟨g0, g, sl, e, ok, so, h⟩ => by
    subst e
    unfold evE at h
    refine ⟨g0, g, sl, rfl, ok, so, Post.bind h fun g1 r v ok1 st1 r1 h1 => ?_⟩
    refine ⟨g0, g1, sl, rfl, ok1, so.step st1, Post.bindAt st1 h1 fun g2 lo' l' ok2 st2 r2 h2 => ?_⟩
    subst r2
    have st12 := st1.trans st2
    refine ⟨g0, g2, sl, rfl, ok2, so.step st12, Post.bindAt st12 h2 fun g3 hi' h' ok3 st3 r3 h3 => ?_⟩
    subst r3
    exact ⟨g, g3, r, rfl, ok3, r1.after (st2.trans st3), (h3.shiftE (st12.trans st3)).optE⟩
theorem s_rev {x : Ex} {k : Nat} {p1 p2 p3 : Pos} (ha : PE X a (rdE X.K E (evE F x))) : PE X (.Subscript a (.Slice none none (some (.UnaryOp .USub (.Constant (.int 1) k p1) p2)) p3) pos) (rdE X.K E (evE F (.rev x))) :=
  PE.imp (pe_back ha) fun σ H Q ⟨g0, g, sl, e, ok, so, h⟩ => by
    subst e
    unfold evE at h
    refine ⟨g0, g, sl, rfl, ok, so, Post.bind h fun g1 r v ok1 st1 r1 h1 => ?_⟩
    have l1 := r1.lookR ok1
    have h2 := h1.shiftE st1
    unfold opRev at h2
    generalize r.look = d1 at h2 l1
    unfold opRevD at h2
    split at h2 <;> first | exact (Post.no h2).elim | skip
    · rename_i xs
      obtain ⟨b, vs, rfl, s1, t1, z1, q1⟩ := l1.tup ok1
      exact ⟨b, vs, rfl, .inr ⟨t1, by rw [← q1.length]; exact z1, Post.tup h2 ok1 rfl q1.reverse (by rw [List.length_reverse]; exact z1)⟩⟩
    · obtain ⟨b, vs, rfl, hb, z1, q1⟩ := l1.lst
      exact ⟨b, vs, rfl, .inl ⟨SqL.of hb, Post.fresh h2 ok1 rfl q1.reverse (by rw [List.length_reverse]; exact z1)⟩⟩
theorem s_stp {x y : Ex} {p3 : Pos} (ha : PE X a (rdE X.K E (evE F x))) (hk : PE X b (rdE X.K E (evE F y))) : PE X (.Subscript a (.Slice none none (some b) p3) pos) (rdE X.K E (evE F (.op .stp (.cons x (.cons y .nil))))) :=
  PE.imp (pe_stpL ha hk) fun σ H Q ⟨g0, g, sl, e, ok, so, h⟩ => by
    subst e
    unfold evE evR at h
    rw [Res.bind_assoc] at h
    refine ⟨g0, g, sl, rfl, ok, so, Post.bind h fun g1 r v ok1 st1 r1 h1 => ?_⟩
    unfold evR at h1
    rw [Res.bind_assoc, Res.bind_assoc] at h1
    refine ⟨g0, g1, sl, rfl, ok1, so.step st1, Post.bindAt st1 h1 fun g2 d u ok2 st2 r2 h2 => ?_⟩
    have l1 := (r1.after st2).lookR ok2
    have l2 := r2.lookR ok2
    unfold evR at h2
    rw [Res.bind_ok, Res.bind_ok, Res.bind_ok] at h2
    have h2 := h2.shiftE (st1.trans st2)
    have h2 : Post X.K (E σ) (RvR X.K) g2 (Res.opt (stpV r.look d.look) g2.S) Q := h2
    generalize r.look = d1 at h2 l1
    generalize d.look = d2 at h2 l2
    unfold stpV at h2
    split at h2 <;> first | exact (Post.no h2).elim | skip
    rename_i xs k
    cases l2.int
    obtain ⟨ad, vs, rfl, hb, z1, q1⟩ := l1.lst
    by_cases k1 : k = 1
    · subst k1
      rw [if_pos rfl] at h2
      refine ⟨ad, vs, 1, rfl, rfl, SqL.of hb, .inl rfl, ?_⟩
      rw [if_pos rfl]
      exact Post.fresh h2 ok2 rfl q1 z1
    · rw [if_neg k1] at h2
      by_cases k2 : k = -1
      · subst k2
        rw [if_pos rfl] at h2
        refine ⟨ad, vs, -1, rfl, rfl, SqL.of hb, .inr rfl, ?_⟩
        rw [if_neg k1]
        exact Post.fresh h2 ok2 rfl q1.reverse (by rw [List.length_reverse]; exact z1)
      · rw [if_neg k2] at h2
        exact (Post.no h2).elim
end
end Px
set_option Elab.async false
set_option linter.all false
set_option maxRecDepth 100000
set_option maxHeartbeats 4000000
namespace Px
open PySem PySem.Spec PyProof.Rows L2
theorem insI_mem (k x : Int) : ∀ l : List Int, x ∈ insI k l ↔ x = k ∨ x ∈ l
  | [] => by simp [insI]
  | y :: l => by
    unfold insI
    split
    · simp
    · split
      · rename_i h; subst h; simp
      · simp only [List.mem_cons, insI_mem k x l]
        constructor
        · rintro (h | h | h) <;> simp [h]
        · rintro (h | h | h) <;> simp [h]
theorem insI_lt (k : Int) : ∀ {l : List Int}, l.Pairwise (· < ·) → (insI k l).Pairwise (· < ·)
  | [], _ => by simp [insI]
  | y :: l, h => by
    obtain ⟨h1, h2⟩ := List.pairwise_cons.mp h
    unfold insI
    split
    · rename_i c
      refine List.pairwise_cons.mpr ⟨fun z hz => ?_, h⟩
      rcases List.mem_cons.mp hz with rfl | hz
      · exact c
      · exact Int.lt_trans c (h1 z hz)
    · split
      · exact h
      · refine List.pairwise_cons.mpr ⟨fun z hz => ?_, insI_lt k h2⟩
        rcases (insI_mem k z l).mp hz with rfl | hz
        · omega
        · exact h1 z hz
theorem ssetI_mem (x : Int) : ∀ l : List Int, x ∈ ssetI l ↔ x ∈ l
  | [] => by simp [ssetI]
  | y :: l => by
    show x ∈ insI y (ssetI l) ↔ _
    rw [insI_mem, ssetI_mem x l, List.mem_cons]
theorem ssetI_lt : ∀ l : List Int, (ssetI l).Pairwise (· < ·)
  | [] => List.Pairwise.nil
  | y :: l => insI_lt y (ssetI_lt l)
theorem ssetI_nodup (l : List Int) : (ssetI l).Nodup := (ssetI_lt l).imp fun h => Int.ne_of_lt h
theorem rising_uniq : ∀ {a b : List Int}, a.Pairwise (· < ·) → b.Pairwise (· < ·) → (∀ x, x ∈ a ↔ x ∈ b) → a = b := fun {a b} ha hb h => by
  have na : a.Nodup := ha.imp fun h => Int.ne_of_lt h
  have nb : b.Nodup := hb.imp fun h => Int.ne_of_lt h
  have p : a.Perm b := (List.perm_ext_iff_of_nodup na nb).mpr h
  exact List.Perm.eq_of_pairwise (le := fun x y => x < y) (fun x y _ _ h1 h2 => absurd h1 (Int.not_lt.mpr (Int.le_of_lt h2))) ha hb p
theorem ssetI_of {a l : List Int} (h : a.Pairwise (· < ·)) (m : ∀ x, x ∈ a ↔ x ∈ l) : ssetI l = a :=
  rising_uniq (ssetI_lt l) h fun x => by rw [ssetI_mem, m]
abbrev setOb (w : World) : Obj := { cls := .type "set", dict := none, data := .set #[] 0 (.fresh 0 0 (!w.params.followText "set-order")) }
section
variable {P : Program} {w : World} {A : Around} {E : Value → Shared → Prop} {s : Shared}
set_option maxRecDepth 100000 in
set_option maxHeartbeats 4000000 in
theorem set_listR {t : Addr} {vs : Array Value} (ms : List Int) {Q : Value → Shared → Prop} (hh : A.handled = none) (ht : s.heap.IsList t vs) (hm : IntsAre vs.toList ms) (hb : ms.length + 1 < scanBound)
    (h : ∀ (k : Heap) (tk c : Nat), SetR w k s.heap.objs.size (fun j => decide (j ∈ ms)) c → (∀ b o, s.heap.get? b = some o → k.get? b = some o) → Q (.ref s.heap.objs.size) { s with heap := k, toks := tk }) :
    wpAny (model P w) A (call (.type "set") [.ref t]) Q E s := by
  have sz : vs.size = ms.length := by
    have := IntsAre.length hm
    rwa [Array.length_toList] at this
  obtain ⟨c0, tl, hmro⟩ := F.called_set.mro
  have hmade := F.called_set.made
  have hsub := F.called_set.sub
  refine wpAny_call (codeAny_of_tree ?_)
  show wpAny _ _ (callAny (.type "set") _) _ _ _
  refine wpAny_pure ⟨Code.quiet_builtin _ (by decide +kernel), codeAny_builtin F.entry_type_call ?_⟩
  rw [Around.under_plain (weight_type_call_type "set" [.ref t] []) rfl]
  have z1 := F.called_set.notType
  have z2 := F.called_set.canCreate
  have z3 := F.typeCall_set_1 (.ref t)
  repeat (any_goals (first | assumption | wp_step))
  refine codeAny_mono (code_set_led1 (.ref t) (E := E) (Q₁ := fun ob s1 => ob = .ref s.heap.objs.size ∧ s1 = { s with heap := s.heap.push (setOb w) }) ⟨rfl, rfl⟩) fun r s1 hr => ?_
  cases r with
  | error e => exact hr
  | ok fl =>
    cases fl with
    | ret ob =>
      obtain ⟨rfl, rfl⟩ := hr
      have hS : (s.heap.push (setOb w)).get? s.heap.objs.size = some (setOb w) := Heap.get?_push_size _ rfl
      have hT : Shared.TypeIs { s with heap := s.heap.push (setOb w) } (.ref s.heap.objs.size) "set" := ⟨_, hS, rfl⟩
      have y1 := F.called_set.init.lookup
      have y2 := F.called_set.init.bind (.ref s.heap.objs.size)
      repeat (any_goals (first | assumption | wp_step))
      refine codeAny_mono (codeAny_call_builtin (R := wants (fun r s2 => r = .none ∧ ∃ k tk c, s2 = { s with heap := k, toks := tk } ∧ SetR w k s.heap.objs.size (fun j => decide (j ∈ ms)) c ∧
          (∀ b o, s.heap.get? b = some o → k.get? b = some o)) E) F.called_set.init.plain F.entry_set_init (check_set_init_1 hT ?_)) fun r2 s2 hr2 => ?_
      · obtain ⟨⟨cl, di, da, sl⟩, hol, hcl, nl, hdl⟩ := ht
        simp only at hcl hdl
        subst hcl
        subst hdl
        have ho : (s.heap.push (setOb w)).get? t = some { cls := .type "list", dict := di, data := .seq vs nl, slots := sl } := Heap.get?_push_of_some _ hol
        have x1 := F.sub_list_set
        have x2 := F.sub_list_frozenset
        have x3 : (Value.type "list" == Value.type "dict") = false := by decide
        have hl1 : (s.heap.push (setOb w)).IsList t vs := ⟨_, ho, rfl, nl, rfl⟩
        unfold Builtin.«set.__init__» noKeywords Builtin.Frozenset.updateFrom
        generalize hPI : pyIter = PI
        wp_walk
        subst hPI
        refine wpAny_pyIter_list hl1 (wpAny_bind (wpAny_runValue ?_))
        have lt : t < s.heap.objs.size := Heap.lt_size hol
        have h3 : A.in1.in1.in1.handled = none := by simp [hh]
        have e1 : (s.heap.push (setOb w)).objs.size = s.heap.objs.size + 1 := Heap.size_push ..
        have n1 : t ≠ (s.heap.push (setOb w)).objs.size := by rw [e1]; exact Nat.ne_of_lt (Nat.lt_succ_of_lt lt)
        have n2 : s.heap.objs.size ∉ [(s.heap.push (setOb w)).objs.size, t] := by
          rw [e1]
          simp only [List.mem_cons, List.not_mem_nil, or_false, not_or]
          exact ⟨Nat.ne_of_lt (Nat.lt_succ_self _), Nat.ne_of_gt lt⟩
        have hv : ∀ (i : Nat) (v : Value), vs[i]? = some v → ∃ k t, ms[i]? = some k ∧ v = .int k t := fun i v hv => by
          have hi : i < ms.length := by rw [← sz]; exact (Array.getElem?_eq_some_iff.mp hv).1
          obtain ⟨t, e⟩ := PyProof.Rows.IntsAre.int_at hm i v (by rw [Array.getElem?_toList]; exact hv)
          exact ⟨ms[i], t, List.getElem?_eq_getElem hi, by rw [e, List.getD_eq_getElem?_getD, List.getElem?_eq_getElem hi] <;> rfl⟩
        refine set_update_ints ((Walks.list h3 _ t n1 vs).toS) s.heap.objs.size n2 ms sz hb hv (vs.size - 0) 0 _ (by omega) (Nat.zero_le _) ⟨⟨_, Heap.get?_push_size _ rfl, rfl, rfl⟩, (hl1.push _)⟩
          ⟨0, Nat.le_refl 0, setR_new_at (Heap.get?_push_of_some _ hS)⟩ fun s' c' hmv _ hS' => ?_
        obtain ⟨k, g2, d2, tk, os2⟩ := s'
        obtain rfl : g2 = s.gens := hmv.gens
        obtain rfl : d2 = s.drawn := hmv.drawn
        obtain rfl : os2 = s.os := hmv.os
        show wpAny _ _ _ _ _ _
        refine wpAny_pure ?_
        show wpAny _ _ (ret Value.none) _ _ _
        refine wpAny_pure ⟨rfl, k, tk, c', rfl, hS', fun b o e => ?_⟩
        have hb0 : b < s.heap.objs.size := Heap.lt_size e
        refine hmv.heap b o ?_ (Heap.get?_push_of_some _ (Heap.get?_push_of_some _ e))
        simp only [List.mem_cons, List.not_mem_nil, or_false, not_or]
        exact ⟨Nat.ne_of_lt hb0, by rw [e1]; exact Nat.ne_of_lt (Nat.lt_succ_of_lt hb0)⟩
      · cases r2 with
        | error e => exact hr2
        | ok f2 =>
          cases f2 with
          | ret r =>
            obtain ⟨rfl, k, tk, c', rfl, hS', hk'⟩ := hr2
            repeat (any_goals (first | assumption | wp_step))
            exact h _ _ _ hS' hk'
          | _ => exact hr2.elim
    | _ => exact hr.elim
theorem setR_card {k : Heap} {p : Addr} {S : Int → Bool} {c : Nat} {l : List Int} (R : SetR w k p S c) (h : ∀ x, S x = true ↔ x ∈ l) : c = (ssetI l).length := by
  obtain ⟨o, es, ep, t, ho, hx, hd, g, nd, hm, hb, hf, hn, _⟩ := R
  have q : (es.toList.map keyOf).Perm (ssetI l) := (List.perm_ext_iff_of_nodup nd (ssetI_nodup l)).mpr fun x => by rw [← hm, h, ssetI_mem]
  rw [← q.length_eq, List.length_map, Array.length_toList, hn]
end
section
variable {X : Cx} {F : Cf} {fns gls : List String} {n : Nat} {E : L2.St → XK} {a b c e : Expr} {es : List Expr} {pos : Pos}
def rSetL (K : PySem.W.Frag) (w : World) : List V → Hp → VK → Prop := fun vs H Q => ∃ (a : Addr) (ms : List Int), vs = [.ref a] ∧ SqL K H a (ms.map V.int) ∧ ms.length ≤ sizeLine ∧ ms.length + 1 < scanBound ∧
  ∀ p, H p = none → Q (.ref p) (upd H p (SetO w p (fun j => decide (j ∈ ms)) (ssetI ms).length))
theorem cr_setL (hc : X.calm = true) : CallR X (.type "set") (rSetL X.K X.w) := by
  intro pins s σ H vs us Q I r h
  obtain ⟨a, ms, rfl, hq, _, hb, q⟩ := h
  rw [Vals.ref1 r]
  obtain ⟨its, rv, pl, hz⟩ := I.list hq
  refine set_listR ms (I.ok.hd hc) pl.isList (by simpa using ints_of_vals rv) hb fun k tk c R hk => ?_
  have hc' := setR_card (l := ms) R fun x => by simp
  subst hc'
  exact ⟨.ref s.heap.objs.size, upd H s.heap.objs.size (SetO X.w s.heap.objs.size (fun j => decide (j ∈ ms)) (ssetI ms).length), I.laid (t' := tk) hk (Nat.le_refl _) (setO_new R), rfl, q _ (I.hok.fresh (Nat.le_refl _))⟩
theorem boot_sortedB : bootBuiltins (sO "sorted") = some (.builtin "sorted") := by decide +kernel
theorem boot_setT : bootBuiltins (sO "set") = some (.type "set") := by decide +kernel
theorem s_sset (cx : Ctx X F fns gls n E) {x : Ex} {nm nm2 : Str} {p p2 q : Pos} (hx : nm = sO "sorted") (hy : nm2 = sO "set") (hgl : X.env.scope.names.lookup nm = some .globalImplicit) (hgl2 : X.env.scope.names.lookup nm2 = some .globalImplicit)
    (hst : notStar a = true) (ha : PE X a (rdE X.K E (evE F x))) : PE X (.Call (.Name nm p) [.Call (.Name nm2 p2) [a] [] q] [] pos) (rdE X.K E (evE F (.sset x))) := by
  subst hx hy
  have in1 : PE X (.Call (.Name (sO "set") p2) [a] [] q) _ := pe_callTy (cr_setL cx.calm) hgl2 (cx.bl _ (by decide)) boot_setT (pa_cons ha pa_nil (star_cons hst)) (by decide +kernel) (by decide +kernel) (star_cons hst) (star_plain fun z hz => by cases hz)
  have out := pe_callB (id := "sorted") (cr_sortedSet cx.calm) hgl (cx.bl _ (by decide)) boot_sortedB (pa_cons in1 pa_nil (star_cons rfl)) (by decide +kernel) (by decide +kernel) (star_cons rfl) (star_plain fun z hz => by cases hz) (p := p) (pos := pos)
  refine PE.imp out fun σ H Q ⟨g0, g, sl, e, ok, so, h⟩ => ?_
  subst e
  unfold evE at h
  refine ⟨g0, g, sl, rfl, ok, so, Post.bind h fun g1 r v ok1 st1 r1 h1 => ?_⟩
  have l1 := r1.lookR ok1
  have h2 := h1.shiftE st1
  generalize r.look = d1 at h2 l1
  split at h2 <;> first | exact (Post.no h2).elim | exact h2.elim | skip
  rename_i xs
  split at h2
  case h_2 => exact h2.elim
  rename_i ns en
  split at h2
  case isFalse => exact h2.elim
  rename_i h64
  obtain ⟨b, vs, rfl, hb, z1, q1⟩ := l1.lst
  have ev := reps_int q1 en
  have hlen : ns.length ≤ sizeLine := by rw [dInts_len en]; exact z1
  refine ⟨b, ns, rfl, by rw [← ev]; exact SqL.of hb, hlen, ?_, fun p0 hp0 => ⟨p0, _, _, rfl, upd_same, h64.2, fun ms p1 hms hmem hml hp1 => ?_⟩⟩
  · show ns.length + 1 < 4096
    omega
  · have e2 : ssetI ns = ms := ssetI_of hms fun x => by rw [hmem]; simp
    rw [e2] at h2
    obtain ⟨k, st⟩ := ok1.new hp0 (SetO X.w p0 (fun j => decide (j ∈ ns)) (ssetI ns).length)
    have rp : ∀ ks : List Int, (g1.new p0 (SetO X.w p0 (fun j => decide (j ∈ ns)) (ssetI ns).length)).Reps X.K (ks.map D.int) (ks.map V.int) := fun ks => by
      induction ks with
      | nil => exact .nil
      | cons m ks ih => exact .cons (.int m) ih
    exact Post.fresh (h2.shiftE st) k rfl (rp ms) (by rw [List.length_map, hml]; unfold sizeLine; omega) p1 hp1
theorem s_lrng (cx : Ctx X F fns gls n E) {x : Ex} {nm nm2 : Str} {p p2 q : Pos} (hx : nm = sO "list") (hy : nm2 = sO "range") (hgl : X.env.scope.names.lookup nm = some .globalImplicit) (hgl2 : X.env.scope.names.lookup nm2 = some .globalImplicit)
    (hst : notStar a = true) (ha : PE X a (rdE X.K E (evE F x))) : PE X (.Call (.Name nm p) [.Call (.Name nm2 p2) [a] [] q] [] pos) (rdE X.K E (evE F (.lrng x))) := by
  subst hx hy
  refine PE.imp (pe_listRg cx.calm hgl (cx.bl _ (by decide)) (prg_1 hgl2 (cx.bl _ (by decide)) ha (star_cons hst)) (star_cons rfl)) fun σ H Q ⟨g0, g, sl, e, ok, so, h⟩ => ?_
  subst e
  unfold evE Res.int? at h
  rw [Res.bind_assoc] at h
  refine ⟨g0, g, sl, rfl, ok, so, Post.bind h fun g1 r v ok1 st1 r1 h1 => ?_⟩
  have l1 := r1.lookR ok1
  have h2 := h1.shiftE st1
  generalize r.look = d1 at h2 l1
  split at h2
  case h_2 => exact h2.elim
  rename_i i
  cases l1.int
  rw [Res.bind_ok] at h2
  split at h2
  case isFalse => exact h2.elim
  rename_i hz
  refine ⟨i, rfl, RgOk.of_le (Int.le_refl 0) hz.2 (by decide) hz.1, ?_⟩
  refine Post.fresh h2 ok1 rfl ?_ ?_
  · show g1.Reps X.K (rngD 0 i.toNat) (rgV 0 i)
    unfold rngD rgV
    rw [Int.sub_zero]
    have : ∀ ks : List Nat, g1.Reps X.K (ks.map fun (k : Nat) => D.int (0 + (k : Int))) (ks.map fun (k : Nat) => V.int (0 + (k : Int))) := fun ks => by
      induction ks with
      | nil => exact .nil
      | cons m ks ih => exact .cons (.int _) ih
    exact this _
  · unfold rngD sizeLine
    rw [List.length_map, List.length_range]
    omega
end
end Px
set_option Elab.async false
set_option linter.all false
set_option maxRecDepth 100000
set_option maxHeartbeats 1000000
namespace Px
open PySem PySem.Spec PyProof.Rows L2
section
variable {X : Cx} {F : Cf} {fns gls : List String} {n : Nat} {E : L2.St → XK} {pos : Pos}
theorem pps_dic : ∀ {d : List (String × Int)} {ks : List (Option Expr)} {vs : List Expr}, chkD d ks vs = true → PPs X pos ks vs (d.map fun p => (tC (.str (sO p.1)), tC (.int p.2)))
  | [], [], [], _ => pps_nil
  | [], _ :: _, _, h => by cases h
  | [], [], _ :: _, h => by cases h
  | p :: r, [], _, h => by cases h
  | p :: r, none :: ks, _, h => by cases h
  | p :: r, some k :: ks, [], h => by
    cases k <;> first | cases h | skip
    rename_i k _ _
    cases k <;> cases h
  | p :: r, some k :: ks, v :: vs, h => by
    cases k <;> first | cases h | skip
    rename_i k _ _
    cases k <;> first | cases h | skip
    cases v <;> first | cases h | skip
    rename_i v _ _
    cases v <;> first | cases h | skip
    rename_i x a b j c e
    have h' : (decide (_ = sO p.1) && decide (p.2 = _) && chkD r ks vs) = true := h
    rw [Bool.and_eq_true, Bool.and_eq_true] at h'
    obtain ⟨⟨e1, e2⟩, e3⟩ := h'
    have e1' := of_decide_eq_true e1
    have e2' := of_decide_eq_true e2
    subst e1' e2'
    exact pps_cons pe_str pe_int (pps_dic e3)
theorem tPairs_c : ∀ (d : List (V × V)) {σ : L2.St} {H : Hp} {Q : List (V × V) → Hp → Prop}, Q d H → tPairs (d.map fun p => (tC p.1, tC p.2)) σ H Q
  | [], _, _, _, h => h
  | p :: d, _, _, _, h => tPairs_c d h
theorem merge_nd : ∀ (more kvs : List (Key × V)), ((kvs ++ more).map (·.1)).Nodup → mergeK kvs more = kvs ++ more
  | [], kvs, _ => by show kvs = _; rw [List.append_nil]
  | p :: r, kvs, h => by
    have e : putK kvs p.1 p.2 = kvs ++ [p] := by
      unfold putK
      rw [if_neg]
      intro q
      obtain ⟨z, hz, e⟩ := List.any_eq_true.mp q
      rw [List.map_append, List.map_cons] at h
      exact (List.nodup_append.mp h).2.2 _ (List.mem_map_of_mem hz) _ List.mem_cons_self (of_decide_eq_true e)
    have e2 : (kvs ++ [p]) ++ r = kvs ++ p :: r := by simp
    show mergeK (putK kvs p.1 p.2) r = _
    rw [e, merge_nd r (kvs ++ [p]) (by rw [e2]; exact h), e2]
theorem s_dic {d : List (String × Int)} {ks : List (Option Expr)} {vs : List Expr} (h : chkD d ks vs = true) (hl : d.length ≤ 15) (hn : (d.map fun p => sO p.1).Nodup) : PE X (.Dict ks vs pos) (rdE X.K E (evE F (.dic d))) := by
  have done : ∀ {E : XK} {Q : VK} {g : Gh}, Post X.K E (RvR X.K) g (.ok (.val (.dic (d.map fun p => (.inr (Str.ofString p.1), p.2)))) g.S) Q → Gok X.K g → ∀ p, g.H p = none →
      Q (.ref p) (upd g.H p (.dK (d.map fun p => (Sum.inr (sO p.1), V.int p.2)))) := fun {E Q g} h ok p hp => by
    obtain ⟨k1, k2⟩ := ok.newR hp (.dK (d.map fun p => (Sum.inr (sO p.1), V.int p.2)))
    refine h (g.newR p _) (.ref p) rfl k1 k2 (Rep.dic ?_)
    show upd g.R p _ p = _
    rw [upd_same, List.map_map]
    rfl
  by_cases e0 : d = []
  · subst e0
    have e1 : ks = [] ∧ vs = [] := by
      cases ks with
      | nil => cases vs with
        | nil => exact ⟨rfl, rfl⟩
        | cons _ _ => cases h
      | cons _ _ => cases h
    obtain ⟨rfl, rfl⟩ := e1
    refine PE.imp pe_dnewK fun σ H Q ⟨g0, g, sl, e, ok, so, h⟩ => ?_
    subst e
    unfold evE at h
    exact fun p hp => done h ok p hp
  · have e2 : ∀ {d : List (String × Int)} {ks : List (Option Expr)} {vs : List Expr}, chkD d ks vs = true → ks.all (·.isSome) = true ∧ ks.length = vs.length ∧ ks.length = d.length := fun {d} => by
      induction d with
      | nil =>
        intro ks vs h
        cases ks with
        | nil => cases vs with
          | nil => exact ⟨rfl, rfl, rfl⟩
          | cons _ _ => cases h
        | cons _ _ => cases h
      | cons p r ih =>
        intro ks vs h
        cases ks with
        | nil => cases h
        | cons k ks =>
          cases k with
          | none => cases h
          | some k =>
            cases vs with
            | nil =>
              cases k <;> first | cases h | skip
              rename_i k _ _
              cases k <;> cases h
            | cons v vs =>
              cases k <;> first | cases h | skip
              rename_i k _ _
              cases k <;> first | cases h | skip
              cases v <;> first | cases h | skip
              rename_i v _ _
              cases v <;> first | cases h | skip
              have h' : (decide (_ = sO p.1) && decide (p.2 = _) && chkD r ks vs) = true := h
              rw [Bool.and_eq_true] at h'
              obtain ⟨a, b, c⟩ := ih h'.2
              exact ⟨by simpa using a, by simp [b], by simp [c]⟩
    obtain ⟨a1, a2, a3⟩ := e2 h
    refine PE.imp (pe_disp (pps_dic h) a1 a2 (fun z => e0 (List.eq_nil_of_length_eq_zero (by rw [← a3, z]; rfl))) (by omega)) fun σ H Q ⟨g0, g, sl, e, ok, so, h⟩ => ?_
    subst e
    unfold evE at h
    intro p hp
    have key : tPairs ((d.map fun p => (V.str (sO p.1), V.int p.2)).map fun p => (tC p.1, tC p.2)) σ (upd g.H p (.dK [])) (fun ps H2 => H2 p = some (.dK []) ∧ ∃ kvs : List (Key × V), ps = kvs.map (fun kv => (kV kv.1, kv.2)) ∧ kvs.length ≤ 15 ∧ Q (.ref p) (upd H2 p (.dK (mergeK [] kvs)))) := by
      refine tPairs_c _ ⟨upd_same, d.map fun p => (Sum.inr (sO p.1), V.int p.2), ?_, by simpa using hl, ?_⟩
      · rw [List.map_map]; rfl
      · rw [merge_nd _ _ ?_, List.nil_append, upd_upd]
        · exact done h ok p hp
        · rw [List.nil_append, List.map_map]
          have : (d.map ((fun x : Key × V => x.1) ∘ fun p => (Sum.inr (sO p.1), V.int p.2))) = (d.map fun p => sO p.1).map Sum.inr := by rw [List.map_map]; rfl
          rw [this]
          exact List.Pairwise.map _ (fun a b q z => q (Sum.inr.inj z)) hn
    rw [List.map_map] at key
    exact key
end
end Px
set_option Elab.async false
set_option linter.all false
set_option maxRecDepth 100000
set_option maxHeartbeats 1000000
namespace Px
open PySem PySem.Spec PyProof.Rows L2
section
variable {K : PySem.W.Frag} {g0 g : Gh} {σ : L2.St} {sl : Slots}
theorem SlOk.setVal (h : SlOk K g0 g σ sl) (i : Nat) {d : D} {v : V} (r : g.Rep K d v) : SlOk K g0 g (σ.set i (some v)) (sl.set i (.val d)) := by
  refine ⟨by rw [List.length_set, List.length_set]; exact h.len, fun j s e => ?_, fun j k c c' a e1 e2 hn e3 e4 => ?_⟩
  · by_cases hj : i = j
    · subst hj
      by_cases hl : i < sl.length
      · rw [List.getElem?_set_self hl] at e
        cases e
        exact ⟨some v, List.getElem?_set_self (by rw [h.len]; exact hl), v, rfl, r⟩
      · rw [List.getElem?_eq_none (by rw [List.length_set]; omega)] at e; cases e
    · rw [List.getElem?_set_ne hj] at e
      obtain ⟨x, e1, r1⟩ := h.at_ j s e
      exact ⟨x, by rw [List.getElem?_set_ne hj]; exact e1, r1⟩
  · have ne : ∀ {m : Nat} {c : Cn}, (sl.set i (.val d))[m]? = some (.own c) → i ≠ m ∧ sl[m]? = some (.own c) := fun {m c} q => by
      by_cases hm : i = m
      · subst hm
        by_cases hl : i < sl.length
        · rw [List.getElem?_set_self hl] at q; cases q
        · rw [List.getElem?_eq_none (by rw [List.length_set]; omega)] at q; cases q
      · rw [List.getElem?_set_ne hm] at q; exact ⟨hm, q⟩
    obtain ⟨n1, q1⟩ := ne e1
    obtain ⟨n2, q2⟩ := ne e2
    rw [List.getElem?_set_ne n1] at e3
    rw [List.getElem?_set_ne n2] at e4
    exact h.sep j k c c' a q1 q2 hn e3 e4
theorem SlOk.setEmp (h : SlOk K g0 g σ sl) (i : Nat) (x : Option V) : SlOk K g0 g (σ.set i x) (sl.set i .emp) := by
  refine ⟨by rw [List.length_set, List.length_set]; exact h.len, fun j s e => ?_, fun j k c c' a e1 e2 hn e3 e4 => ?_⟩
  · by_cases hj : i = j
    · subst hj
      by_cases hl : i < sl.length
      · rw [List.getElem?_set_self hl] at e
        cases e
        exact ⟨x, List.getElem?_set_self (by rw [h.len]; exact hl), trivial⟩
      · rw [List.getElem?_eq_none (by rw [List.length_set]; omega)] at e; cases e
    · rw [List.getElem?_set_ne hj] at e
      obtain ⟨x, e1, r1⟩ := h.at_ j s e
      exact ⟨x, by rw [List.getElem?_set_ne hj]; exact e1, r1⟩
  · have ne : ∀ {m : Nat} {c : Cn}, (sl.set i .emp)[m]? = some (.own c) → i ≠ m ∧ sl[m]? = some (.own c) := fun {m c} q => by
      by_cases hm : i = m
      · subst hm
        by_cases hl : i < sl.length
        · rw [List.getElem?_set_self hl] at q; cases q
        · rw [List.getElem?_eq_none (by rw [List.length_set]; omega)] at q; cases q
      · rw [List.getElem?_set_ne hm] at q; exact ⟨hm, q⟩
    obtain ⟨n1, q1⟩ := ne e1
    obtain ⟨n2, q2⟩ := ne e2
    rw [List.getElem?_set_ne n1] at e3
    rw [List.getElem?_set_ne n2] at e4
    exact h.sep j k c c' a q1 q2 hn e3 e4
theorem SlOk.wipe (h : SlOk K g0 g σ sl) : ∀ vs : List Nat, SlOk K g0 g (L2.wipe σ vs) (wipeS sl vs)
  | [] => h
  | v :: vs => (h.wipe vs).setEmp v none
end
def NoOwn (sl : Slots) : Prop := ∀ (i : Nat) c, sl[i]? ≠ some (Slot.own c)
theorem hide_get {sl : Slots} {i : Nat} {s : Slot} (h : (hideS sl)[i]? = some s) : sl[i]? = some s ∨ (s = .emp ∧ ∃ c, sl[i]? = some (.own c)) := by
  unfold hideS at h
  rw [List.getElem?_map] at h
  obtain ⟨t, e1, e2⟩ := Option.map_eq_some_iff.mp h
  cases t with
  | own c => cases e2; exact .inr ⟨rfl, c, e1⟩
  | emp => cases e2; exact .inl e1
  | val d => cases e2; exact .inl e1
theorem hide_no (sl : Slots) : NoOwn (hideS sl) := fun i c h => by
  unfold hideS at h
  rw [List.getElem?_map] at h
  obtain ⟨t, e1, e2⟩ := Option.map_eq_some_iff.mp h
  cases t <;> cases e2
theorem SlOk.hide {K : PySem.W.Frag} {g0 g : Gh} {σ : L2.St} {sl : Slots} (h : SlOk K g0 g σ sl) : SlOk K g0 g σ (hideS sl) := by
  refine ⟨by rw [h.len]; simp [hideS], fun i s e => ?_, fun i j c c' a e1 _ _ _ _ => (hide_no sl i c e1).elim⟩
  rcases hide_get e with e | ⟨rfl, c, e⟩
  · exact h.at_ i s e
  · obtain ⟨v, e1, _⟩ := h.at_ i _ e
    exact ⟨v, e1, trivial⟩
theorem NoOwn.set {sl : Slots} (h : NoOwn sl) (i : Nat) (s : Slot) (hs : ∀ c, s ≠ .own c) : NoOwn (sl.set i s) := fun j c e => by
  by_cases hj : i = j
  · subst hj
    by_cases hl : i < sl.length
    · rw [List.getElem?_set_self hl] at e; cases e; exact hs c rfl
    · rw [List.getElem?_eq_none (by rw [List.length_set]; omega)] at e; cases e
  · rw [List.getElem?_set_ne hj] at e; exact h j c e
theorem NoOwn.wipe {sl : Slots} (h : NoOwn sl) : ∀ vs : List Nat, NoOwn (wipeS sl vs)
  | [] => h
  | v :: vs => (h.wipe vs).set v _ fun _ q => nomatch q
mutual
theorem NoOwn.bind : ∀ {t : Tg} {d : D} {sl sl' : Slots}, NoOwn sl → bindT t d sl = some sl' → NoOwn sl'
  | .nm i, d, sl, sl', h, e => by unfold bindT at e; cases e; exact h.set i _ fun _ q => nomatch q
  | .tup ts, d, sl, sl', h, e => by
    cases d with
    | tup xs => exact NoOwn.binds h (show bindTs ts xs sl = some sl' by rw [← e]; simp [bindT])
    | _ => simp [bindT] at e
theorem NoOwn.binds : ∀ {ts : Tgs} {ds : List D} {sl sl' : Slots}, NoOwn sl → bindTs ts ds sl = some sl' → NoOwn sl'
  | .nil, [], sl, sl', h, e => by unfold bindTs at e; cases e; exact h
  | .cons t ts, x :: xs, sl, sl', h, e => by
    unfold bindTs at e
    cases e1 : bindT t x sl with
    | none => rw [e1] at e; cases e
    | some sl1 => rw [e1] at e; exact NoOwn.binds (NoOwn.bind h e1) e
  | .nil, _ :: _, _, _, _, e => by simp [bindTs] at e
  | .cons _ _, [], _, _, _, e => by simp [bindTs] at e
end
theorem SlOk.noOwn {K : PySem.W.Frag} {g0 g g' : Gh} {σ : L2.St} {sl : Slots} (h : SlOk K g0 g σ sl) (no : NoOwn sl) (gr : Gro g g') : SlOk K g0 g' σ sl := by
  refine ⟨h.len, fun i s e => ?_, fun i j c c' a e1 _ _ _ _ => (no i c e1).elim⟩
  obtain ⟨v, e1, r⟩ := h.at_ i s e
  refine ⟨v, e1, ?_⟩
  cases s with
  | emp => trivial
  | val d => obtain ⟨x, e2, q⟩ := r; exact ⟨x, e2, gr.rep q⟩
  | own c => exact (no i c e).elim
theorem bindTs_len : ∀ {ts : Tgs} {xs : List D} {sl sl' : Slots}, bindTs ts xs sl = some sl' → xs.length = ts.len
  | .nil, [], _, _, _ => rfl
  | .cons t ts, x :: xs, sl, sl', h => by
    unfold bindTs at h
    cases e1 : bindT t x sl with
    | none => rw [e1] at h; cases h
    | some sl1 => rw [e1] at h; simp [bindTs_len h, Tgs.len]
  | .nil, _ :: _, _, _, h => by simp [bindTs] at h
  | .cons _ _, [], _, _, h => by simp [bindTs] at h
/-- the slots differ at some places alone -/
def OffS (is : List Nat) (σ σ' : L2.St) : Prop := ∀ vs : List Nat, (∀ i ∈ is, i ∈ vs) → L2.wipe σ' vs = L2.wipe σ vs
theorem wipe_set {i : Nat} {x : Option V} : ∀ {vs : List Nat} {σ : L2.St}, i ∈ vs → L2.wipe (σ.set i x) vs = L2.wipe σ vs
  | v :: vs, σ, h => by
    by_cases hv : i = v
    · subst hv
      by_cases hm : i ∈ vs
      · unfold L2.wipe; rw [wipe_set hm]
      · unfold L2.wipe
        have aux : ∀ (vs : List Nat) (σ : L2.St), i ∉ vs → L2.wipe (σ.set i x) vs = (L2.wipe σ vs).set i x := fun vs => by
          induction vs with
          | nil => intro σ _; rfl
          | cons w ws ih =>
            intro σ hn
            unfold L2.wipe
            rw [ih σ fun q => hn (List.mem_cons_of_mem _ q), List.set_comm _ _ (fun e : i = w => hn (e ▸ List.mem_cons_self))]
        rw [aux vs σ hm, List.set_set]
    · have hm : i ∈ vs := (List.mem_cons.mp h).resolve_left hv
      unfold L2.wipe
      rw [wipe_set hm]
theorem wipe_idem : ∀ {vs ws : List Nat} {σ : L2.St}, (∀ i ∈ ws, i ∈ vs) → L2.wipe (L2.wipe σ ws) vs = L2.wipe σ vs
  | vs, [], σ, _ => rfl
  | vs, w :: ws, σ, h => by
    show L2.wipe ((L2.wipe σ ws).set w none) vs = _
    rw [wipe_set (h w List.mem_cons_self)]
    exact wipe_idem fun i hi => h i (List.mem_cons_of_mem _ hi)
/-- a target's reading -/
def rdG (K : PySem.W.Frag) (t : Tg) : TG := fun v σ H Q => ∃ g0 g sl d sl', g.H = H ∧ Gok K g ∧ SlOk K g0 g σ sl ∧ g.Rep K d v ∧ bindT t d sl = some sl' ∧ ∀ σ', SlOk K g0 g σ' sl' → OffS t.slots σ σ' → Q σ' g.H
def rdGs (K : PySem.W.Frag) (t : Tgs) : TGs := fun vs σ H Q => ∃ g0 g sl ds sl', g.H = H ∧ Gok K g ∧ SlOk K g0 g σ sl ∧ g.Reps K ds vs ∧ bindTs t ds sl = some sl' ∧ ∀ σ', SlOk K g0 g σ' sl' → OffS t.slots σ σ' → Q σ' g.H
theorem PG.imp {X : Cx} {e : Expr} {t u : TG} (h : PG X e t) (i : ∀ v σ H Q, u v σ H Q → t v σ H Q) : PG X e u := ⟨fun pins s σ H v w Q I r q => h.run pins s σ H v w Q I r (i v σ H Q q)⟩
theorem PGs.imp {X : Cx} {e : List Expr} {t u : TGs} (h : PGs X e t) (i : ∀ v σ H Q, u v σ H Q → t v σ H Q) : PGs X e u := ⟨fun pins s σ H v w Q I r q => h.run pins s σ H v w Q I r (i v σ H Q q)⟩
theorem chkG_star {T : Tx} {t : Tg} {e : Expr} (h : chkG T t e = true) : notStar e = true := by
  cases e <;> first | rfl | (cases t <;> simp [chkG] at h)
theorem each_cons {e : Expr} {es : List Expr} {env : Env} (h : notStar e = true) : assignEach (e :: es) env = (false, assign e env) :: assignEach es env := by
  cases e <;> first | rfl | cases h
theorem chkGs_each {T : Tx} {env : Env} : ∀ {ts : Tgs} {es : List Expr}, chkGs T ts es = true → (assignEach es env).length = ts.len ∧ (assignEach es env).findIdx? (·.1) = none
  | .nil, [], _ => ⟨rfl, rfl⟩
  | .cons t ts, e :: es, h => by
    have h' : chkG T t e = true ∧ chkGs T ts es = true := by simpa [chkGs] using h
    obtain ⟨h1, h2⟩ := chkGs_each (env := env) h'.2
    rw [each_cons (chkG_star h'.1)]
    refine ⟨by simp [h1, Tgs.len], ?_⟩
    rw [List.findIdx?_cons]
    simp [h2]
  | .nil, _ :: _, h => by simp [chkGs] at h
  | .cons _ _, [], h => by simp [chkGs] at h
section
variable {X : Cx} {F : Cf} {fns gls : List String} {n : Nat} {E : L2.St → XK}
mutual
theorem sG (hc : X.calm = true) (hN : X.N.Nodup) : ∀ (t : Tg) (e : Expr), chkG (tx X fns gls) t e = true → PG X e (rdG X.K t)
  | .nm i, .Name x p, h => by
    have h' : (atB X.N i x = true ∧ locB X.env.scope x = true) ∧ (X.fn x = true ∨ lclB X.env.scope x = true) := by simpa [chkG, tx] using h
    refine PG.imp (pg_name hN (at_of h'.1.1) (loc_of h'.1.2) (h'.2.imp id lcl_of)) fun v σ H Q ⟨g0, g, sl, d, sl', e, ok, so, r, hb, k⟩ => ?_
    subst e
    unfold bindT at hb
    cases hb
    exact k _ (so.setVal i r) fun vs hv => wipe_set (hv i (by simp [Tg.slots]))
  | .tup ts, .Tuple es kk p, h => by
    have h' : chkGs (tx X fns gls) ts es = true := by simpa [chkG] using h
    obtain ⟨c1, c2⟩ := chkGs_each (env := X.env) h'
    refine PG.imp (pg_tup hc (sGs hc hN ts es h') c1 c2) fun v σ H Q ⟨g0, g, sl, d, sl', e, ok, so, r, hb, k⟩ => ?_
    subst e
    cases d with
    | tup xs =>
      have hb' : bindTs ts xs sl = some sl' := by rw [← hb]; simp [bindT]
      cases r with | tup a l q =>
      refine ⟨_, _, rfl, SqT.mono a ok.sub, ?_, g0, g, sl, xs, sl', rfl, ok, so, q, hb', fun σ1 so1 of1 => k σ1 so1 fun vs hv => of1 vs (by simpa [Tg.slots] using hv)⟩
      rw [← q.length]
      exact bindTs_len hb'
    | _ => simp [bindT] at hb
  | .nm _, .BoolOp .., h | .nm _, .NamedExpr .., h | .nm _, .BinOp .., h | .nm _, .UnaryOp .., h | .nm _, .Lambda .., h | .nm _, .IfExp .., h | .nm _, .Dict .., h | .nm _, .Set .., h | .nm _, .ListComp .., h | .nm _, .SetComp .., h | .nm _, .DictComp .., h | .nm _, .GeneratorExp .., h | .nm _, .Await .., h | .nm _, .Yield .., h | .nm _, .YieldFrom .., h | .nm _, .Compare .., h | .nm _, .Call .., h | .nm _, .FormattedValue .., h | .nm _, .JoinedStr .., h | .nm _, .Constant .., h | .nm _, .Attribute .., h | .nm _, .Subscript .., h | .nm _, .Starred .., h | .nm _, .List .., h | .nm _, .Tuple .., h | .nm _, .Slice .., h => by simp [chkG] at h
  | .tup _, .BoolOp .., h | .tup _, .NamedExpr .., h | .tup _, .BinOp .., h | .tup _, .UnaryOp .., h | .tup _, .Lambda .., h | .tup _, .IfExp .., h | .tup _, .Dict .., h | .tup _, .Set .., h | .tup _, .ListComp .., h | .tup _, .SetComp .., h | .tup _, .DictComp .., h | .tup _, .GeneratorExp .., h | .tup _, .Await .., h | .tup _, .Yield .., h | .tup _, .YieldFrom .., h | .tup _, .Compare .., h | .tup _, .Call .., h | .tup _, .FormattedValue .., h | .tup _, .JoinedStr .., h | .tup _, .Constant .., h | .tup _, .Attribute .., h | .tup _, .Subscript .., h | .tup _, .Starred .., h | .tup _, .List .., h | .tup _, .Name .., h | .tup _, .Slice .., h => by simp [chkG] at h
theorem sGs (hc : X.calm = true) (hN : X.N.Nodup) : ∀ (ts : Tgs) (es : List Expr), chkGs (tx X fns gls) ts es = true → PGs X es (rdGs X.K ts)
  | .nil, [], _ => PGs.imp pgs_nil fun vs σ H Q ⟨g0, g, sl, ds, sl', e, ok, so, r, hb, k⟩ => by
    subst e
    cases ds with
    | nil => cases r; unfold bindTs at hb; cases hb; exact ⟨rfl, k σ so fun _ _ => rfl⟩
    | cons d ds => unfold bindTs at hb; cases hb
  | .cons t ts, e :: es, h => by
    have h' : chkG (tx X fns gls) t e = true ∧ chkGs (tx X fns gls) ts es = true := by simpa [chkGs] using h
    refine PGs.imp (pgs_cons (sG hc hN t e h'.1) (sGs hc hN ts es h'.2) (by rw [each_cons (chkG_star h'.1)]; rfl)) fun vs σ H Q ⟨g0, g, sl, ds, sl', e, ok, so, r, hb, k⟩ => ?_
    subst e
    cases ds with
    | nil => unfold bindTs at hb; cases hb
    | cons d ds =>
      unfold bindTs at hb
      cases e1 : bindT t d sl with
      | none => rw [e1] at hb; cases hb
      | some sl1 =>
        rw [e1] at hb
        cases r with | cons r rr =>
        refine ⟨_, _, rfl, g0, g, sl, d, sl1, rfl, ok, so, r, e1, fun σ1 so1 of1 => ⟨g0, g, sl1, ds, sl', rfl, ok, so1, rr, hb, fun σ2 so2 of2 => k σ2 so2 fun vs hv => ?_⟩⟩
        rw [of2 vs fun i hi => hv i (by simp [Tgs.slots, hi]), of1 vs fun i hi => hv i (by simp [Tgs.slots, hi])]
  | .nil, _ :: _, h => by simp [chkGs] at h
  | .cons _ _, [], h => by simp [chkGs] at h
end
end
end Px
set_option Elab.async false
set_option linter.all false
set_option maxRecDepth 100000
set_option maxHeartbeats 1000000
namespace Px
open PySem PySem.Spec PyProof.Rows L2
theorem enT_new {t : Addr} {its : Array Value} : Meets (Builtin.«enumerate.__new__» ⟨[.type "enumerate", .ref t], []⟩) (fun _ R z => z.heap.IsTuple t its ∧
      R (.ok (.ret (.ref (z.heap.push { cls := .type "tuple_iterator", data := .fields #[.ref t, .int 0 0] }).objs.size))) { z with heap := (z.heap.push { cls := .type "tuple_iterator", data := .fields #[.ref t, .int 0 0] }).push { cls := .type "enumerate", data := .fields #[.none, .bool false, .ref z.heap.objs.size, rawInt 0, .none, .none] } }) :=
  .of_wp fun prog w A R z h => by
    obtain ⟨hp, gg, dd, tt, oo⟩ := z
    obtain ⟨ht, h⟩ := h
    have sb := sub_enumerate
    have q : ∀ {A' : Around} {E : Value → Shared → Prop} {Q : Value → Shared → Prop}, Q (.ref hp.objs.size) ⟨hp.push { cls := .type "tuple_iterator", data := .fields #[.ref t, .int 0 0] }, gg, dd, tt, oo⟩ → wpAny (model prog w) A' (pyIter (.ref t)) Q E ⟨hp, gg, dd, tt, oo⟩ := fun q => wpAny_pyIter_tuple ht q
    obtain ⟨o, e, _⟩ := id ht
    wp_walk using q
    refine wpAny_stack_any fun st => wpAny_pure ?_
    split
    · rename_i c _ _ _ _ _
      cases (c == Value.type "enumerate") <;> (wp_walk using q; exact ⟨_, rfl, h⟩)
    · wp_walk using q
      exact ⟨_, rfl, h⟩
section
variable {prog : Program} {w : World} {A : Around} {E : Value → Shared → Prop} {s : Shared}
theorem enT_call {t : Addr} {its : Array Value} {Q : Value → Shared → Prop} (ht : s.heap.IsTuple t its)
    (h : ∀ k, IsEnum k (s.heap.objs.size + 1) s.heap.objs.size 0 .none → k.IsTupleIter s.heap.objs.size t 0 → k.objs.size = s.heap.objs.size + 2 → (∀ b o, s.heap.get? b = some o → k.get? b = some o) → Q (.ref (s.heap.objs.size + 1)) { s with heap := k }) :
    wpAny (model prog w) A (call (.type "enumerate") [.ref t]) Q E s := by
  refine callType_new F.called_enumerate (by decide) (F.typeCall_enumerate_1 _) (F.newCall_enumerate_1 _) (fun ob => F.args_object_init_2 ob _) F.entry_enumerate_new enT_new ⟨ht, ?_⟩
  have z1 : (s.heap.push { cls := .type "tuple_iterator", data := .fields #[.ref t, .int 0 0] }).objs.size = s.heap.objs.size + 1 := Heap.size_push ..
  show _ ∧ _
  rw [z1]
  have z2 : IsEnum ((s.heap.push { cls := .type "tuple_iterator", data := .fields #[.ref t, .int 0 0] }).push { cls := .type "enumerate", data := .fields #[.none, .bool false, .ref s.heap.objs.size, rawInt 0, .none, .none] }) (s.heap.objs.size + 1) s.heap.objs.size 0 .none := by
    have q := Heap.get?_push_size (s.heap.push { cls := .type "tuple_iterator", data := .fields #[.ref t, .int 0 0] }) (o := { cls := .type "enumerate", data := .fields #[.none, .bool false, .ref s.heap.objs.size, rawInt 0, .none, .none] }) rfl
    rw [z1] at q
    exact q
  exact ⟨⟨_, z2, rfl⟩, h _ z2 ⟨_, Heap.get?_push_of_some _ (Heap.get?_push_size _ rfl), rfl, rfl⟩ (by rw [Heap.size_push, z1]) fun b o x => Heap.get?_push_of_some _ (Heap.get?_push_of_some _ x)⟩
end
/-- the tuple at a, each item in a new pair with its number -/
def IteT (K : PySem.W.Frag) (a : Addr) : It :=
  ⟨fun i H => ∃ (xs : List V) (x : V), SqT K H a xs ∧ xs[i]? = some x, fun i H v H' => ∃ T x, v = .ref T ∧ H T = none ∧ H' = upd H T (.tup [.int (i : Nat), x]) ∧ ∀ xs, SqT K H a xs → xs[i]? = some x, fun i H => ∃ xs : List V, SqT K H a xs ∧ xs.length ≤ i⟩
theorem turn_enumT {P : Program} {w : World} {K : PySem.W.Frag} {els : List Expr} {kk : Nat} {tp : Pos} (a e it : Addr) (hai : a ≠ it) (hae : e ≠ a) :
    Turn P w K (.Tuple els kk tp) (IteT K a) [e, it] e (fun i h => (∃ old, IsEnum h e it ((i : Nat) : Int) old) ∧ h.IsTupleIter it a i ∧ e ≠ it) where
  mem := by simp
  obj := fun i h st b hb => by
    obtain ⟨⟨old, he⟩, ⟨o, ho, hc, hd⟩, _⟩ := st
    rcases (show b = e ∨ b = it by simpa using hb) with z | z
    · subst z; exact ⟨_, he, fun v q => nomatch q⟩
    · subst z; exact ⟨o, ho, fun v q => by rw [hd] at q; cases q⟩
  keep := fun i h k st q => let ⟨⟨old, he⟩, hi, hne⟩ := st; ⟨⟨old, q e (by simp) _ he⟩, hi.at fun o r => q it (by simp) o r, hne⟩
  item := by
    intro X hP hw hK hc i pins s σ H E I hf st hg
    subst hP hw hK
    obtain ⟨⟨old, he⟩, hit, hne⟩ := st
    obtain ⟨xs, x, hq, hx⟩ := hg
    obtain ⟨its, rv, p, hz⟩ := I.tuple hq
    obtain ⟨u, hu, ru⟩ := rv.get hx
    have le1 : e < s.heap.objs.size := Heap.lt_size he
    have le2 : it < s.heap.objs.size := by obtain ⟨_, q, _⟩ := hit; exact Heap.lt_size q
    have hin : X.A.in1.handled = none := I.ok.hd hc
    have dr := Draws.tuple (prog := X.prog) (w := X.w) hin it a hai its.toArray
    have li : i < its.toArray.size := by
      obtain ⟨q, _⟩ := List.getElem?_eq_some_iff.mp hu
      simpa using q
    refine wpAny_pyNext_enum_itemD dr he ⟨hit, p⟩ li hne (by simp [hne, hae]) fun y h' tk hy ho hit' hT hsz hk => ?_
    obtain rfl : y = u := by
      have q : its.toArray[i]? = some y := hy
      rw [List.getElem?_toArray, hu] at q
      exact (Option.some.inj q).symm
    refine ⟨_, rfl, wpAny_letOwnedTupleGo_enum (s := { s with heap := h', toks := tk + 1 }) ho fun h'' he' sb => ?_⟩
    have hT2 : h''.get? s.heap.objs.size = some { cls := .type "tuple", data := .seq #[.int i tk, y] } := (sb.2 _ (Nat.ne_of_gt le1)).trans hT
    have new : ObjOk X.prog X.w (upd H s.heap.objs.size (.tup [.int (i : Nat), x])) h'' s.heap.objs.size (.tup [.int (i : Nat), x]) :=
      ⟨by show 2 ≤ sizeLine; decide, [.int i tk, y], .cons ⟨_, rfl⟩ (.cons ru .nil), ⟨_, hT2, rfl, _, rfl⟩⟩
    have I1 : Inv X pins σ (upd H s.heap.objs.size (.tup [.int (i : Nat), x])) { s with heap := h'', toks := tk + 1 } :=
      I.turnedNew (ch := [e, it]) (fun b ob hb q => (sb.2 b (fun z => hb (by simp [z]))).trans (hk b ob (fun z => hb (by simp [z])) (fun z => hb (by simp [z])) q)) hf (Nat.le_refl _) new
    refine ⟨.ref s.heap.objs.size, _, I1, rfl, ⟨_, x, rfl, I.hok.fresh (Nat.le_refl _), rfl, fun ys hy => by rw [I.tuple_inj hy hq]; exact hx⟩, ⟨⟨y, ?_⟩, hit'.1.at fun o q => (sb.2 it (Ne.symm hne)).trans q, hne⟩, fun b hb => ?_⟩
    · rw [show ((i + 1 : Nat) : Int) = (i : Int) + 1 by omega]
      exact he'
    · have lb : b < s.heap.objs.size := by
        rcases (show b = e ∨ b = it by simpa using hb) with z | z
        · subst z; exact le1
        · subst z; exact le2
      rw [upd_ne (Nat.ne_of_lt lb)]
      exact (hf b hb).1
  done := by
    intro X hP hw hK hc i pins s σ H E I hf st hg
    subst hP hw hK
    obtain ⟨⟨old, he⟩, hit, hne⟩ := st
    obtain ⟨xs, hq, hx⟩ := hg
    obtain ⟨its, rv, p, hz⟩ := I.tuple hq
    obtain ⟨f0, f1, f2, f3, f4, f5⟩ := hf it (by simp)
    have hl := rv.length
    unfold pyNext
    have hT : s.TypeIs (.ref e) "enumerate" := ⟨_, he, rfl⟩
    refine wpAny_bind (wpAny_attempt (wpAny_callSpecial?_slot (name := Str.ofString "__next__") hT F.slot_enumerate_next (wpAny_call_entry F.slot_enumerate_next hT F.entry_enumerate_next ?_ (F.args_enumerate_next_1 _))))
    show wpAny _ _ (field (.ref e) 2 >>= _) _ _ _
    refine wpAny_bind (wpAny_field he rfl (x := .ref it) rfl (wpAny_bind (wpAny_nextOf_tuple_end (I.ok.hd hc) hit p (by simp; omega) fun h' x he' hx' => ?_)))
    obtain ⟨o, ho, hcl⟩ := hx'
    refine wpAny_bind (wpAny_isInstance (T := "StopIteration") (b := true) ⟨o, ho, hcl⟩ isSubtype_stop (wpAny_pure ⟨rfl, ?_⟩))
    exact I.turned (t' := s.toks) (fun b o hb q => he' b o hb q) f0 f1 f3 f4 f5
  self := fun A i s Q E st h => let ⟨⟨_, he⟩, _⟩ := st; wpAny_pyIter_enum he h
def iEnumA (K : PySem.W.Frag) (ta : TA) : TI := fun σ H R => ta σ H fun vs H1 => ∃ a xs, vs = [.ref a] ∧ ((SqL K H1 a xs ∧ R (Ite K a) H1) ∨ (SqT K H1 a xs ∧ R (IteT K a) H1))
theorem pi_enumA {X : Cx} {e : Expr} {ta : TA} {p pos tp : Pos} {els : List Expr} {kk : Nat} (hg : Gl X "enumerate") (hm : X.mg "enumerate" = none) (ha : PA X [e] ta) (hs : starEach [e] X.env = [(false, eval e X.env)]) :
    PI X (.Tuple els kk tp) (.Call (.Name "enumerate" p) [e] [] pos) (iEnumA X.K ta) := by
  refine ⟨fun pins s σ H R I h => ?_⟩
  refine Call_ (ld_blt I hg hm boot_enumerate (PyProof.Rows.callWith_type1 (thn (ha.run pos pins s σ H _ I h) fun us s1 ⟨vs, H1, I1, r1, q1⟩ => ?_) hs rfl))
  obtain ⟨a, xs, ex, q1⟩ := q1
  subst ex
  cases r1 with
  | cons r rr =>
    cases rr
    cases r
    have fp : ∀ b ∈ [s1.heap.objs.size + 1, s1.heap.objs.size], FpOk X pins H1 b := fun b hb => by
      have hle : s1.heap.objs.size ≤ b := by
        rcases (show b = s1.heap.objs.size + 1 ∨ b = s1.heap.objs.size by simpa using hb) with z | z <;> omega
      exact I1.fpOk hle (I1.hok.fresh hle)
    rcases q1 with ⟨hq, q⟩ | ⟨hq, q⟩
    · obtain ⟨its, rv, p', hz⟩ := I1.list hq
      refine call_enumerate_list p'.isList fun h' he hit hsz hk => wpAny_pyIter_enum he ?_
      exact ⟨s1.heap.objs.size + 1, [s1.heap.objs.size + 1, s1.heap.objs.size], _, _, H1, rfl, I1.kept (t' := s1.toks) hk, turn_enum a (s1.heap.objs.size + 1) s1.heap.objs.size, ⟨⟨.none, he⟩, hit, Nat.succ_ne_self _⟩, fp, q⟩
    · obtain ⟨its, rv, p', hz⟩ := I1.tuple hq
      have la : a < s1.heap.objs.size := by obtain ⟨_, q, _⟩ := id p'; exact Heap.lt_size q
      refine enT_call p' fun h' he hit hsz hk => wpAny_pyIter_enum he ?_
      exact ⟨s1.heap.objs.size + 1, [s1.heap.objs.size + 1, s1.heap.objs.size], _, _, H1, rfl, I1.kept (t' := s1.toks) hk, turn_enumT a (s1.heap.objs.size + 1) s1.heap.objs.size (Nat.ne_of_lt la) (Nat.ne_of_gt (Nat.lt_succ_of_lt la)), ⟨⟨.none, he⟩, hit, Nat.succ_ne_self _⟩, fp, q⟩
end Px
set_option Elab.async false
set_option linter.all false
set_option maxRecDepth 100000
set_option maxHeartbeats 1000000
namespace Px
open PySem PySem.Spec PyProof.Rows L2
/-- a list and a tuple side by side -/
def ItzM (K : PySem.W.Frag) (a b : Addr) : It :=
  ⟨fun i H => ∃ (vs us : List V) (v u : V), SqL K H a vs ∧ SqT K H b us ∧ vs[i]? = some v ∧ us[i]? = some u,
   fun i H r H' => ∃ T v u, r = .ref T ∧ H T = none ∧ H' = upd H T (.tup [v, u]) ∧ (∀ vs, SqL K H a vs → vs[i]? = some v) ∧ ∀ us, SqT K H b us → us[i]? = some u,
   fun i H => ∃ vs us : List V, SqL K H a vs ∧ SqT K H b us ∧ (vs.length ≤ i ∨ us.length ≤ i)⟩
theorem sepOf {a b z TI TO i1 i2 : Addr} (D : ZipApart z TI TO i1 i2 a b) : ZipSep2 z TI TO i1 i2 [i1, a] [i2, b] where
  TIz := D.TIz
  TOz := D.TOz
  TITO := D.TITO
  TIi1 := D.TIi1
  TIi2 := D.TIi2
  mem1 := by simp
  mem2 := by simp
  zf1 := by simp [D.i1z.symm, D.l1z.symm]
  zf2 := by simp [D.i2z.symm, D.l2z.symm]
  Tf1 := by simp [D.TOi1, D.l1TO.symm]
  Tf2 := by simp [D.TOi2, D.l2TO.symm]
  sep1_2 := by simp [D.i12, D.l2i1.symm]
  sep2_1 := by simp [D.i12.symm, D.l1i2.symm]
abbrev StM (a b z TI TO i1 i2 : Addr) (i : Nat) (h : Heap) : Prop :=
  IsZip h z TI TO .none ∧ IsPair h TI (.ref i1) (.ref i2) ∧ (∃ x y, IsPair h TO x y) ∧ h.IsListIter i1 a i ∧ h.IsTupleIter i2 b i
theorem endL {P : Program} {w : World} {A : Around} (hh : A.handled = none) (it l : Addr) (hne : l ≠ it) {ws : Array Value} {i : Nat} (hx : ws[i]? = none) :
    Draws P w A it [it, l] i (fun _ _ => False) (fun j h => j = i ∧ h.IsListIter it l i ∧ h.IsList l ws) where
  live := fun _ _ st => let ⟨o, ho, _⟩ := st.2.1; ⟨o, ho⟩
  frame := fun _ _ _ st hk => ⟨st.1, st.2.1.at fun o e => hk it (by simp) o e, st.2.2.at fun o e => hk l (by simp) o e⟩
  item := fun j s Q E hj st => absurd st.1 (Nat.ne_of_lt hj)
  done := fun s Q E st hE => wpAny_nextOf_list_end hh st.2.1 st.2.2 hx hE
theorem endT {P : Program} {w : World} {A : Around} (hh : A.handled = none) (it l : Addr) (hne : l ≠ it) {ws : Array Value} {i : Nat} (hx : ws[i]? = none) :
    Draws P w A it [it, l] i (fun _ _ => False) (fun j h => j = i ∧ h.IsTupleIter it l i ∧ h.IsTuple l ws) where
  live := fun _ _ st => let ⟨o, ho, _⟩ := st.2.1; ⟨o, ho⟩
  frame := fun _ _ _ st hk => ⟨st.1, st.2.1.at fun o e => hk it (by simp) o e, st.2.2.at fun o e => hk l (by simp) o e⟩
  item := fun j s Q E hj st => absurd st.1 (Nat.ne_of_lt hj)
  done := fun s Q E st hE => wpAny_nextOf_tuple_end hh st.2.1 st.2.2 hx hE
theorem endM {P : Program} {w : World} {A : Around} {E : Value → Shared → Prop} {s : Shared} {a b z TI TO i1 i2 : Addr} {i : Nat} {ws ts : List Value} {x0 y0 : Value} {Q : Option Value → Shared → Prop} (hh : A.handled = none) (D : ZipApart z TI TO i1 i2 a b)
    (q1 : IsZip s.heap z TI TO .none) (q2 : IsPair s.heap TI (.ref i1) (.ref i2)) (q3 : IsPair s.heap TO x0 y0) (q4 : s.heap.IsListIter i1 a i) (q5 : s.heap.IsTupleIter i2 b i) (p1 : s.heap.IsList a ws.toArray) (p2 : s.heap.IsTuple b ts.toArray) (hend : ws.length ≤ i ∨ ts.length ≤ i)
    (h : ∀ h' tk, (∀ c o, c ≠ z → c ≠ TO → c ≠ i1 → c ≠ i2 → s.heap.get? c = some o → h'.get? c = some o) → Q none { s with heap := h', toks := tk }) : wpAny (model P w) A (pyNext (.ref z)) Q E s := by
  have n1 : ws.length ≤ i → ws.toArray[i]? = none := fun h => by simpa using h
  have n2 : ts.length ≤ i → ts.toArray[i]? = none := fun h => by simpa using h
  by_cases c1 : ws.length ≤ i
  · by_cases c2 : ts.length ≤ i
    · exact wpAny_pyNext_zipD2_end (sepOf D) (endL (A := A.in1) hh i1 a D.l1i1 (n1 c1)) (endT (A := A.in1) hh i2 b D.l2i2 (n2 c2)) q1 q2 q3 ⟨rfl, q4, p1⟩ ⟨rfl, q5, p2⟩ (Nat.le_refl _) (Nat.le_refl _) (.inl rfl) h
    · exact wpAny_pyNext_zipD2_end (sepOf D) (endL (A := A.in1) hh i1 a D.l1i1 (n1 c1)) (Draws.tuple (A := A.in1) hh i2 b D.l2i2 ts.toArray) q1 q2 q3 ⟨rfl, q4, p1⟩ ⟨q5, p2⟩ (Nat.le_refl _) (by simpa using Nat.le_of_not_le c2) (.inl rfl) h
  · have c2 : ts.length ≤ i := hend.resolve_left c1
    exact wpAny_pyNext_zipD2_end (sepOf D) (Draws.list (A := A.in1) hh i1 a D.l1i1 ws.toArray) (endT (A := A.in1) hh i2 b D.l2i2 (n2 c2)) q1 q2 q3 ⟨q4, p1⟩ ⟨rfl, q5, p2⟩ (by simpa using Nat.le_of_not_le c1) (Nat.le_refl _) (.inr rfl) h
theorem turn_zipM {P : Program} {w : World} {K : PySem.W.Frag} {elts : List Expr} {kk : Nat} {tpos : Pos} {a b z TI TO i1 i2 : Addr} (D : ZipApart z TI TO i1 i2 a b) :
    Turn P w K (.Tuple elts kk tpos) (ItzM K a b) [z, TI, TO, i1, i2] z (StM a b z TI TO i1 i2) where
  mem := by simp
  obj := fun i h st c hc => by
    obtain ⟨q1, q2, ⟨x, y, q3⟩, ⟨o1, e1, _, d1⟩, o2, e2, _, d2⟩ := st
    simp only [List.mem_cons, List.not_mem_nil, or_false] at hc
    rcases hc with rfl | rfl | rfl | rfl | rfl
    · exact ⟨_, q1, fun v q => nomatch q⟩
    · exact ⟨_, q2, fun v q => nomatch q⟩
    · exact ⟨_, q3, fun v q => nomatch q⟩
    · exact ⟨o1, e1, fun v q => by rw [d1] at q; cases q⟩
    · exact ⟨o2, e2, fun v q => by rw [d2] at q; cases q⟩
  keep := fun i h h' st k => by
    obtain ⟨q1, q2, ⟨x, y, q3⟩, q4, q5⟩ := st
    exact ⟨k z (by simp) _ q1, k TI (by simp) _ q2, ⟨x, y, k TO (by simp) _ q3⟩, q4.at fun o q => k i1 (by simp) o q, q5.at fun o q => k i2 (by simp) o q⟩
  item := by
    intro X hP hw hK hc i pins s σ H E I hf st hg
    subst hP hw hK
    obtain ⟨q1, q2, ⟨x0, y0, q3⟩, q4, q5⟩ := st
    obtain ⟨vs, us, v, u, hv, hu, iv, iu⟩ := hg
    obtain ⟨ws, rw1, p1, _⟩ := I.list hv
    obtain ⟨ts, rw2, p2, _⟩ := I.tuple hu
    obtain ⟨m1, hm1, rm1⟩ := rw1.get iv
    obtain ⟨m2, hm2, rm2⟩ := rw2.get iu
    have lz : z < s.heap.objs.size := Heap.lt_size q1
    have hh := I.ok.hd hc
    refine wpAny_pyNext_zipD2_item (sepOf D) (Draws.list (by exact hh) i1 a D.l1i1 ws.toArray) (Draws.tuple (by exact hh) i2 b D.l2i2 ts.toArray) q1 q2 q3 ⟨q4, p1.isList⟩ ⟨q5, p2⟩ (by have := (List.getElem?_eq_some_iff.mp hm1).1; simpa using this) (by have := (List.getElem?_eq_some_iff.mp hm2).1; simpa using this) fun y1 y2 h' tk e1 e2 z' TO' s1 s2 hT hsz hk => ?_
    have e1' : y1 = m1 := by
      have : ws[i]? = some y1 := by simpa using e1
      rw [hm1] at this; cases this; rfl
    have e2' : y2 = m2 := by
      have : ts[i]? = some y2 := by simpa using e2
      rw [hm2] at this; cases this; rfl
    subst e1' e2'
    refine ⟨_, rfl, wpAny_letOwnedTupleGo_zip (s := { s with heap := h', toks := tk }) z' fun k zz sb => ?_⟩
    have hN : k.get? s.heap.objs.size = some { cls := .type "tuple", data := .seq #[y1, y2] } := (sb.2 _ (Nat.ne_of_gt lz)).trans hT
    have nw : ObjOk X.prog X.w (upd H s.heap.objs.size (.tup [v, u])) k s.heap.objs.size (.tup [v, u]) :=
      ⟨by show 2 ≤ sizeLine; decide, [y1, y2], .cons rm1 (.cons rm2 .nil), ⟨_, hN, rfl, _, rfl⟩⟩
    have J : Inv X pins σ (upd H s.heap.objs.size (.tup [v, u])) { s with heap := k, toks := tk } :=
      I.turnedNew (t' := tk) (ch := [z, TI, TO, i1, i2]) (fun c o hb q => by
        have n1 : c ≠ z := fun e => hb (by simp [e])
        exact (sb.2 c n1).trans (hk c o n1 (fun e => hb (by simp [e])) (fun e => hb (by simp [e])) (fun e => hb (by simp [e])) q)) hf (Nat.le_refl _) nw
    refine ⟨.ref s.heap.objs.size, _, J, rfl, ⟨_, v, u, rfl, I.hok.fresh (Nat.le_refl _), rfl, fun l hl => by rw [I.list_inj hl hv]; exact iv, fun l hl => by rw [I.tuple_inj hl hu]; exact iu⟩, ⟨zz, (sb.2 _ D.TIz).trans (hk _ _ D.TIz D.TITO D.TIi1 D.TIi2 q2), ⟨y1, y2, (sb.2 _ D.TOz).trans TO'⟩, s1.1.at fun o q => (sb.2 _ D.i1z).trans q, s2.1.at fun o q => (sb.2 _ D.i2z).trans q⟩, fun c hcm => ?_⟩
    have hlt : c < s.heap.objs.size := by
      simp only [List.mem_cons, List.not_mem_nil, or_false] at hcm
      rcases hcm with rfl | rfl | rfl | rfl | rfl
      · exact lz
      · exact Heap.lt_size q2
      · exact Heap.lt_size q3
      · obtain ⟨_, e, _⟩ := q4; exact Heap.lt_size e
      · obtain ⟨_, e, _⟩ := q5; exact Heap.lt_size e
    rw [upd_ne (Nat.ne_of_lt hlt)]
    exact (hf c hcm).1
  done := by
    intro X hP hw hK hc i pins s σ H E I hf st hg
    subst hP hw hK
    obtain ⟨q1, q2, ⟨x0, y0, q3⟩, q4, q5⟩ := st
    obtain ⟨vs, us, hv, hu, hend⟩ := hg
    obtain ⟨ws, rw1, p1, _⟩ := I.list hv
    obtain ⟨ts, rw2, p2, _⟩ := I.tuple hu
    have l1 := rw1.length
    have l2 := rw2.length
    have hh := I.ok.hd hc
    have fin := fun (Q : Option Value → Shared → Prop) (h : ∀ h' tk, (∀ c o, c ≠ z → c ≠ TO → c ≠ i1 → c ≠ i2 → s.heap.get? c = some o → h'.get? c = some o) → Q none { s with heap := h', toks := tk }) => endM (P := X.prog) (w := X.w) (Q := Q) (E := E) hh D q1 q2 q3 q4 q5 p1.isList p2 (by omega) h
    exact fin _ fun h' tk hk => ⟨rfl, I.turnedL (t' := tk) (ch := [z, TI, TO, i1, i2]) (fun c o hb q =>
      hk c o (fun e => hb (by simp [e])) (fun e => hb (by simp [e])) (fun e => hb (by simp [e])) (fun e => hb (by simp [e])) q) hf⟩
  self := fun A i s Q E st h => wpAny_pyIter_zip st.1 h
/-- zip(x, y): two lists, two tuples, a list and a tuple -/
def iZipX (K : PySem.W.Frag) (ta : TA) : TI := fun σ H R => ta σ H fun vs H1 => ∃ a b xs ys, vs = [.ref a, .ref b] ∧ ((SqL K H1 a xs ∧ SqL K H1 b ys ∧ R (Itz K a b) H1) ∨ (SqT K H1 a xs ∧ SqT K H1 b ys ∧ R (RZ.ItzT K a b) H1) ∨ (SqL K H1 a xs ∧ SqT K H1 b ys ∧ R (ItzM K a b) H1))
theorem pi_zipX {X : Cx} {e e2 : Expr} {ta : TA} {p pos tpos : Pos} {elts : List Expr} {kk : Nat} (hg : Gl X "zip") (hm : X.mg "zip" = none) (ha : PA X [e, e2] ta)
    (hs : starEach [e, e2] X.env = (false, eval e X.env) :: starEach [e2] X.env := by rfl) (hpl : (backTo pos (starEach [e2] X.env)).any (·.1) = false := by rfl) :
    PI X (.Tuple elts kk tpos) (.Call (.Name "zip" p) [e, e2] [] pos) (iZipX X.K ta) := by
  refine ⟨fun pins s σ H R I h => Call_ (ld_blt I hg hm PyProof.Rows.boot_zip (PyProof.Rows.callWith_type1 (thn (ha.run pos pins s σ H _ I h) fun us s1 ⟨vs, H1, J, rl, a, b, xs, ys, ex, q⟩ => ?_) hs hpl))⟩
  subst ex
  obtain ⟨u1, u2, rfl, r1, r2⟩ : ∃ u1 u2, us = [u1, u2] ∧ RelV (.ref a) u1 ∧ RelV (.ref b) u2 := by
    cases rl with | cons r1 rl => cases rl with | cons r2 rl => cases rl; exact ⟨_, _, rfl, r1, r2⟩
  cases r1
  cases r2
  have nw : ∀ c, c ∈ [s1.heap.objs.size + 4, s1.heap.objs.size + 2, s1.heap.objs.size + 3, s1.heap.objs.size, s1.heap.objs.size + 1] → FpOk X pins H1 c := fun c hc => by
    have hle : s1.heap.objs.size ≤ c := by
      simp only [List.mem_cons, List.not_mem_nil, or_false] at hc
      rcases hc with rfl | rfl | rfl | rfl | rfl <;> first | exact Nat.le_add_right _ _ | exact Nat.le_refl _
    exact J.fpOk hle (J.hok.fresh hle)
  rcases q with ⟨qa, qb, q⟩ | ⟨qa, qb, q⟩ | ⟨qa, qb, q⟩
  · obtain ⟨w1, v1, p1, _⟩ := J.list qa
    obtain ⟨w2, v2, p2, _⟩ := J.list qb
    exact call_zip_2 p1.isList p2.isList fun k z1 z2 z3 z4 z5 z6 hk => wpAny_pyIter_zip z1 ⟨s1.heap.objs.size + 4, [s1.heap.objs.size + 4, s1.heap.objs.size + 2, s1.heap.objs.size + 3, s1.heap.objs.size, s1.heap.objs.size + 1], _, _, H1, rfl, J.kept (t' := s1.toks) hk, turn_zip (PySem.W.ktu_apart s1.heap.objs.size a b p1.lt p2.lt), ⟨z1, z2, ⟨_, _, z3⟩, z4, z5⟩, nw, q⟩
  · obtain ⟨w1, v1, p1, _⟩ := J.tuple qa
    obtain ⟨w2, v2, p2, _⟩ := J.tuple qb
    obtain ⟨o1, k1, _⟩ := id p1
    obtain ⟨o2, k2, _⟩ := id p2
    exact RZ.call_zipT (show s1.heap.IsTuple a w1.toArray from p1) (show s1.heap.IsTuple b w2.toArray from p2) fun k z1 z2 z3 z4 z5 z6 hk => wpAny_pyIter_zip z1 ⟨s1.heap.objs.size + 4, [s1.heap.objs.size + 4, s1.heap.objs.size + 2, s1.heap.objs.size + 3, s1.heap.objs.size, s1.heap.objs.size + 1], _, _, H1, rfl, J.kept (t' := s1.toks) hk, RZ.turn_zipT (PySem.W.ktu_apart s1.heap.objs.size a b (Heap.lt_size k1) (Heap.lt_size k2)), ⟨z1, z2, ⟨_, _, z3⟩, z4, z5⟩, nw, q⟩
  · obtain ⟨w1, v1, p1, _⟩ := J.list qa
    obtain ⟨w2, v2, p2, _⟩ := J.tuple qb
    obtain ⟨o2, k2, _⟩ := id p2
    exact zip_begins2 (begins_list a w1.toArray) (begins_tuple b w2.toArray) p1.isList (show s1.heap.IsTuple b w2.toArray from p2) fun k z1 z2 z3 z4 z5 z6 hk => wpAny_pyIter_zip z1 ⟨s1.heap.objs.size + 4, [s1.heap.objs.size + 4, s1.heap.objs.size + 2, s1.heap.objs.size + 3, s1.heap.objs.size, s1.heap.objs.size + 1], _, _, H1, rfl, J.kept (t' := s1.toks) hk, turn_zipM (PySem.W.ktu_apart s1.heap.objs.size a b p1.lt (Heap.lt_size k2)), ⟨z1, z2, ⟨_, _, z3⟩, ⟨_, z4, rfl, rfl⟩, ⟨_, z5, rfl, rfl⟩⟩, nw, q⟩
end Px
set_option Elab.async false
set_option linter.all false
set_option maxRecDepth 100000
set_option maxHeartbeats 1000000
namespace Px
open PySem PySem.Spec PyProof.Rows L2
/-- a walk that yields the data ds -/
def ItR (K : PySem.W.Frag) (_ g' : Gh) (ds : List D) (J : It) : Prop := ∀ g1, Gro g' g1 → Gok K g1 → ∀ i : Nat,
  (∀ d, ds[i]? = some d → J.go i g1.H ∧ ∀ x H', J.yld i g1.H x H' → ∃ g2 : Gh, g2.H = H' ∧ g2.S = g1.S ∧ Gok K g2 ∧ Stp g1 g2 ∧ g2.Rep K d x) ∧ (ds[i]? = none → J.stop i g1.H)
/-- the same, of a list that steps leave alone -/
def ItRs (K : PySem.W.Frag) (_ g' : Gh) (ds : List D) (J : It) : Prop := ∀ g1, Stp g' g1 → Gok K g1 → ∀ i : Nat,
  (∀ d, ds[i]? = some d → J.go i g1.H ∧ ∀ x H', J.yld i g1.H x H' → ∃ g2 : Gh, g2.H = H' ∧ g2.S = g1.S ∧ Gok K g2 ∧ Stp g1 g2 ∧ g2.Rep K d x) ∧ (ds[i]? = none → J.stop i g1.H)
theorem ItR.weak {K : PySem.W.Frag} {g g' : Gh} {ds : List D} {J : It} (h : ItR K g g' ds J) : ItRs K g g' ds J := fun g1 st => h g1 st.gro
abbrev rdIs (K : PySem.W.Frag) (E : L2.St → XK) (f : Slots → Sto → Res (List D)) : TI := rd K E (ItRs K) f
abbrev rdI (K : PySem.W.Frag) (E : L2.St → XK) (f : Slots → Sto → Res (List D)) : TI := rd K E (ItR K) f
theorem PI.imp {X : Cx} {tg e : Expr} {t u : TI} (h : PI X tg e t) (i : ∀ σ H R, u σ H R → t σ H R) : PI X tg e u := ⟨fun pins s σ H R I q => h.run pins s σ H R I (i σ H R q)⟩
theorem PI.or {X : Cx} {tg e : Expr} {t u : TI} (h : PI X tg e t) (h' : PI X tg e u) : PI X tg e (fun σ H R => t σ H R ∨ u σ H R) := ⟨fun pins s σ H R I q => q.elim (h.run pins s σ H R I) (h'.run pins s σ H R I)⟩
section
variable {X : Cx} {F : Cf} {fns gls : List String} {n : Nat} {E : L2.St → XK} {tg a b c e : Expr} {fa fb fc : Slots → Sto → Res Rv} {pos : Pos}
theorem itr_list {K : PySem.W.Frag} {g g' : Gh} {a : Addr} {xs : List D} {vs : List V} (h : g'.R a = some (.lst vs)) (q : g'.Reps K xs vs) : ItR K g g' xs (Itl K a) := fun g1 gr ok i => by
  have hs : SqL K g1.H a vs := SqL.of (ok.sub _ _ (gr.rr _ _ h))
  refine ⟨fun d hd => ?_, fun hn => ⟨vs, hs, ?_⟩⟩
  · obtain ⟨v, h1, h2⟩ := (gr.reps q).get hd
    refine ⟨⟨vs, v, hs, h1⟩, fun x H' y => ?_⟩
    obtain ⟨e1, e2⟩ := y
    subst e1
    have := e2 vs hs
    rw [h1] at this
    cases this
    exact ⟨g1, rfl, rfl, ok, Stp.refl _, h2⟩
  · rw [← q.length]; exact List.getElem?_eq_none_iff.mp hn
theorem itr_tup {K : PySem.W.Frag} {g g' : Gh} {a : Addr} {xs : List D} {vs : List V} (h : SqT K g'.R a vs) (q : g'.Reps K xs vs) : ItR K g g' xs (Itt K a) := fun g1 gr ok i => by
  have hs : SqT K g1.H a vs := SqT.mono (SqT.mono h gr.rr) ok.sub
  refine ⟨fun d hd => ?_, fun hn => ⟨vs, hs, ?_⟩⟩
  · obtain ⟨v, h1, h2⟩ := (gr.reps q).get hd
    refine ⟨⟨vs, v, hs, h1⟩, fun x H' y => ?_⟩
    obtain ⟨e1, e2⟩ := y
    subst e1
    have := e2 vs hs
    rw [h1] at this
    cases this
    exact ⟨g1, rfl, rfl, ok, Stp.refl _, h2⟩
  · rw [← q.length]; exact List.getElem?_eq_none_iff.mp hn
theorem rngD_get {lo : Int} {m i : Nat} : (rngD lo m)[i]? = if i < m then some (.int (lo + i)) else none := by
  unfold rngD
  rw [List.getElem?_map]
  by_cases h : i < m
  · rw [if_pos h, List.getElem?_eq_getElem (by simpa using h)]; simp
  · rw [if_neg h, List.getElem?_eq_none (by simpa using h)]; rfl
theorem itr_rng {K : PySem.W.Frag} {g g' : Gh} {lo : Int} {m : Nat} : ItR K g g' (rngD lo m) (Itr lo m) := fun g1 gr ok i => by
  rw [rngD_get]
  by_cases h : i < m
  · rw [if_pos h]
    refine ⟨fun d hd => ?_, fun q => by cases q⟩
    cases hd
    refine ⟨h, fun x H' y => ?_⟩
    obtain ⟨e1, e2⟩ := y
    subst e1 e2
    exact ⟨g1, rfl, rfl, ok, Stp.refl _, .int _⟩
  · rw [if_neg h]
    refine ⟨fun d q => ?_, fun _ => Nat.le_of_not_lt h⟩
    cases q
theorem enumD_get {xs : List D} {i : Nat} : (enumD xs)[i]? = xs[i]?.map fun d => .tup [.int i, d] := by
  unfold enumD
  rw [List.getElem?_map, List.getElem?_zipIdx]
  cases xs[i]? with
  | none => rfl
  | some d => simp
theorem zipD_get : ∀ {xs ys : List D} {i : Nat}, (zipD xs ys)[i]? = match xs[i]?, ys[i]? with | some x, some y => some (.tup [x, y]) | _, _ => none
  | [], ys, i => by simp [zipD]
  | x :: xs, [], i => by cases i <;> simp [zipD] <;> (cases xs[_]? <;> rfl)
  | x :: xs, y :: ys, 0 => by simp [zipD]
  | x :: xs, y :: ys, i + 1 => by
    have := zipD_get (xs := xs) (ys := ys) (i := i)
    simpa [zipD] using this
theorem new_pair {K : PySem.W.Frag} {g1 : Gh} (ok : Gok K g1) {T : Addr} (hT : g1.H T = none) {x y : V} {d e : D} (rx : g1.Rep K d x) (ry : g1.Rep K e y) :
    ∃ g2 : Gh, g2.H = upd g1.H T (.tup [x, y]) ∧ g2.S = g1.S ∧ Gok K g2 ∧ Stp g1 g2 ∧ g2.Rep K (.tup [d, e]) (.ref T) := by
  obtain ⟨k, st⟩ := ok.newR hT (.tup [x, y])
  refine ⟨g1.newR T (.tup [x, y]), rfl, rfl, k, st, .tup (vs := [x, y]) (SqT.of (show upd g1.R T (.tup [x, y]) T = some _ from upd_same)) ?_ (.cons (st.gro.rep rx) (.cons (st.gro.rep ry) .nil))⟩
  show 2 ≤ sizeLine
  rw [sizeLine_eq]; decide
theorem itr_enum {K : PySem.W.Frag} {g g' : Gh} {a : Addr} {xs : List D} {vs : List V} (h : g'.R a = some (.lst vs)) (q : g'.Reps K xs vs) : ItR K g g' (enumD xs) (Ite K a) := fun g1 gr ok i => by
  have hs : SqL K g1.H a vs := SqL.of (ok.sub _ _ (gr.rr _ _ h))
  rw [enumD_get]
  refine ⟨fun d hd => ?_, fun hn => ⟨vs, hs, ?_⟩⟩
  · obtain ⟨d0, hd0, e0⟩ := Option.map_eq_some_iff.mp hd
    subst e0
    obtain ⟨v, h1, h2⟩ := (gr.reps q).get hd0
    refine ⟨⟨vs, v, hs, h1⟩, fun x H' y => ?_⟩
    obtain ⟨T, z, e1, e2, e3, e4⟩ := y
    have := e4 vs hs
    rw [h1] at this
    cases this
    obtain ⟨g2, k1, k2, k3, k4, k5⟩ := new_pair ok e2 (.int (i : Int)) h2
    exact ⟨g2, by rw [k1, e3], k2, k3, k4, by rw [e1]; exact k5⟩
  · rw [← q.length]
    exact List.getElem?_eq_none_iff.mp (by simpa using hn)
theorem itr_enumT {K : PySem.W.Frag} {g g' : Gh} {a : Addr} {xs : List D} {vs : List V} (h : SqT K g'.R a vs) (q : g'.Reps K xs vs) : ItR K g g' (enumD xs) (IteT K a) := fun g1 gr ok i => by
  have hs : SqT K g1.H a vs := SqT.mono (SqT.mono h gr.rr) ok.sub
  rw [enumD_get]
  refine ⟨fun d hd => ?_, fun hn => ⟨vs, hs, ?_⟩⟩
  · obtain ⟨d0, hd0, e0⟩ := Option.map_eq_some_iff.mp hd
    subst e0
    obtain ⟨v, h1, h2⟩ := (gr.reps q).get hd0
    refine ⟨⟨vs, v, hs, h1⟩, fun x H' y => ?_⟩
    obtain ⟨T, z, e1, e2, e3, e4⟩ := y
    have := e4 vs hs
    rw [h1] at this
    cases this
    obtain ⟨g2, k1, k2, k3, k4, k5⟩ := new_pair ok e2 (.int (i : Int)) h2
    exact ⟨g2, by rw [k1, e3], k2, k3, k4, by rw [e1]; exact k5⟩
  · rw [← q.length]
    exact List.getElem?_eq_none_iff.mp (by simpa using hn)
theorem itr_zipL {K : PySem.W.Frag} {g g' : Gh} {a b : Addr} {xs ys : List D} {vs us : List V} (h : g'.R a = some (.lst vs)) (q : g'.Reps K xs vs) (h' : g'.R b = some (.lst us)) (q' : g'.Reps K ys us) : ItR K g g' (zipD xs ys) (Itz K a b) := fun g1 gr ok i => by
  have hs : SqL K g1.H a vs := SqL.of (ok.sub _ _ (gr.rr _ _ h))
  have hs' : SqL K g1.H b us := SqL.of (ok.sub _ _ (gr.rr _ _ h'))
  rw [zipD_get]
  refine ⟨fun d hd => ?_, fun hn => ⟨vs, us, hs, hs', ?_⟩⟩
  · cases e1 : xs[i]? with
    | none => rw [e1] at hd; cases hd
    | some d1 =>
      cases e2 : ys[i]? with
      | none => rw [e1, e2] at hd; cases hd
      | some d2 =>
        rw [e1, e2] at hd
        cases hd
        obtain ⟨v, h1, h2⟩ := (gr.reps q).get e1
        obtain ⟨u, h3, h4⟩ := (gr.reps q').get e2
        refine ⟨⟨vs, us, v, u, hs, hs', h1, h3⟩, fun x H' y => ?_⟩
        obtain ⟨T, z, w, f1, f2, f3, f4, f5⟩ := y
        have j1 := f4 vs hs
        have j2 := f5 us hs'
        rw [h1] at j1; cases j1
        rw [h3] at j2; cases j2
        obtain ⟨g2, k1, k2, k3, k4, k5⟩ := new_pair ok f2 h2 h4
        exact ⟨g2, by rw [k1, f3], k2, k3, k4, by rw [f1]; exact k5⟩
  · rw [← q.length, ← q'.length]
    cases e1 : xs[i]? with
    | none => exact .inl (List.getElem?_eq_none_iff.mp e1)
    | some d1 =>
      cases e2 : ys[i]? with
      | none => exact .inr (List.getElem?_eq_none_iff.mp e2)
      | some d2 => rw [e1, e2] at hn; cases hn
theorem itr_zipT {K : PySem.W.Frag} {g g' : Gh} {a b : Addr} {xs ys : List D} {vs us : List V} (h : SqT K g'.R a vs) (q : g'.Reps K xs vs) (h' : SqT K g'.R b us) (q' : g'.Reps K ys us) : ItR K g g' (zipD xs ys) (RZ.ItzT K a b) := fun g1 gr ok i => by
  have hs : SqT K g1.H a vs := SqT.mono (SqT.mono h gr.rr) ok.sub
  have hs' : SqT K g1.H b us := SqT.mono (SqT.mono h' gr.rr) ok.sub
  rw [zipD_get]
  refine ⟨fun d hd => ?_, fun hn => ⟨vs, us, hs, hs', ?_⟩⟩
  · cases e1 : xs[i]? with
    | none => rw [e1] at hd; cases hd
    | some d1 =>
      cases e2 : ys[i]? with
      | none => rw [e1, e2] at hd; cases hd
      | some d2 =>
        rw [e1, e2] at hd
        cases hd
        obtain ⟨v, h1, h2⟩ := (gr.reps q).get e1
        obtain ⟨u, h3, h4⟩ := (gr.reps q').get e2
        refine ⟨⟨vs, us, v, u, hs, hs', h1, h3⟩, fun x H' y => ?_⟩
        obtain ⟨T, z, w, f1, f2, f3, f4, f5⟩ := y
        have j1 := f4 vs hs
        have j2 := f5 us hs'
        rw [h1] at j1; cases j1
        rw [h3] at j2; cases j2
        obtain ⟨g2, k1, k2, k3, k4, k5⟩ := new_pair ok f2 h2 h4
        exact ⟨g2, by rw [k1, f3], k2, k3, k4, by rw [f1]; exact k5⟩
  · rw [← q.length, ← q'.length]
    cases e1 : xs[i]? with
    | none => exact .inl (List.getElem?_eq_none_iff.mp e1)
    | some d1 =>
      cases e2 : ys[i]? with
      | none => exact .inr (List.getElem?_eq_none_iff.mp e2)
      | some d2 => rw [e1, e2] at hn; cases hn
/-- data of an expression, then more: with what it is -/
theorem itr_zipM {K : PySem.W.Frag} {g g' : Gh} {a b : Addr} {xs ys : List D} {vs us : List V} (h : g'.R a = some (.lst vs)) (q : g'.Reps K xs vs) (h' : SqT K g'.R b us) (q' : g'.Reps K ys us) : ItR K g g' (zipD xs ys) (ItzM K a b) := fun g1 gr ok i => by
  have hs : SqL K g1.H a vs := SqL.of (ok.sub _ _ (gr.rr _ _ h))
  have hs' : SqT K g1.H b us := SqT.mono (SqT.mono h' gr.rr) ok.sub
  rw [zipD_get]
  refine ⟨fun d hd => ?_, fun hn => ⟨vs, us, hs, hs', ?_⟩⟩
  · cases e1 : xs[i]? with
    | none => rw [e1] at hd; cases hd
    | some d1 =>
      cases e2 : ys[i]? with
      | none => rw [e1, e2] at hd; cases hd
      | some d2 =>
        rw [e1, e2] at hd
        cases hd
        obtain ⟨v, h1, h2⟩ := (gr.reps q).get e1
        obtain ⟨u, h3, h4⟩ := (gr.reps q').get e2
        refine ⟨⟨vs, us, v, u, hs, hs', h1, h3⟩, fun x H' y => ?_⟩
        obtain ⟨T, z, w, f1, f2, f3, f4, f5⟩ := y
        have j1 := f4 vs hs
        have j2 := f5 us hs'
        rw [h1] at j1; cases j1
        rw [h3] at j2; cases j2
        obtain ⟨g2, k1, k2, k3, k4, k5⟩ := new_pair ok f2 h2 h4
        exact ⟨g2, by rw [k1, f3], k2, k3, k4, by rw [f1]; exact k5⟩
  · rw [← q.length, ← q'.length]
    cases e1 : xs[i]? with
    | none => exact .inl (List.getElem?_eq_none_iff.mp e1)
    | some d1 =>
      cases e2 : ys[i]? with
      | none => exact .inr (List.getElem?_eq_none_iff.mp e2)
      | some d2 => rw [e1, e2] at hn; cases hn
/-- data of an expression, then more: with what it is -/
theorem Post.dataE {K : PySem.W.Frag} {E : XK} {γ δ : Type} {RS : Gh → Gh → γ → δ → Prop} {g0 g g' : Gh} {sl : Slots} {σ : L2.St} {r : Res Rv} {k : D → Sto → Res γ} {Q : δ → Hp → Prop} {Q1 : V → Hp → Prop} (st : Stp g g') (so : SlOk K g0 g' σ sl) (h : Post K E RS g (r.data.bind k) Q)
    (hk : ∀ g1 d v, r.data = .ok d g1.S → Gok K g1 → Stp g' g1 → SlOk K g0 g1 σ sl → g1.Rep K d v → Post K E RS g (k d g1.S) Q → Q1 v g1.H) : Post K E (RvR K) g' r Q1 := by
  cases r with
  | stuck => exact h
  | exc x S => intro g1 C od e ok s q; exact h g1 C od e ok (st.trans s) q
  | ok x S =>
    intro g1 v e ok1 st1 r1
    subst e
    unfold Res.data at h
    rw [Res.bind_ok] at h
    obtain ⟨d, e1, h2⟩ := Post.optBind h
    obtain ⟨g2, q1, q2, q3, q4, q5, q6⟩ := r1.esc ok1 st1 e1
    rw [← q1]
    rw [← q2] at h2
    refine hk g2 d v ?_ q3 q4 (so.step q4) q6 h2
    unfold Res.data
    rw [Res.bind_ok, e1, q2]
    rfl
theorem Post.int {K : PySem.W.Frag} {E : XK} {γ δ : Type} {RS : Gh → Gh → γ → δ → Prop} {g g' : Gh} {r : Res Rv} {k : Int → Sto → Res γ} {Q : δ → Hp → Prop} {Q1 : V → Hp → Prop} (st : Stp g g') (h : Post K E RS g (r.int?.bind k) Q)
    (hk : ∀ g1 i, Gok K g1 → Stp g' g1 → Post K E RS g (k i g1.S) Q → Q1 (.int i) g1.H) : Post K E (RvR K) g' r Q1 := by
  unfold Res.int? at h
  rw [Res.bind_assoc] at h
  refine Post.bindAt st h fun g1 x v ok1 st1 r1 h1 => ?_
  have l1 := r1.lookR ok1
  generalize x.look = d at h1 l1
  split at h1
  · cases l1.int
    exact hk g1 _ ok1 st1 h1
  · exact h1.elim
theorem i_val {x : Ex} (ha : PE X e (rdE X.K E (evE F x))) : PI X tg e (rdI X.K E (evI F (.val x))) :=
  PI.imp (PI.or (pi_tup (tg := tg) ha) (pi_list (tg := tg) ha)) fun σ H R ⟨g0, g, sl, e, ok, so, h⟩ => by
    subst e
    unfold evI at h
    by_cases ht : ∃ xs S, (evE F x sl g.S).data = .ok (.tup xs) S
    · obtain ⟨xs, S, e1⟩ := ht
      refine .inl ⟨g0, g, sl, rfl, ok, so, Post.dataE (Stp.refl g) so h fun g1 d v ed ok1 st1 so1 r1 h1 => ?_⟩
      rw [e1] at ed
      cases ed
      cases r1 with | tup q1 q2 q3 =>
      exact ⟨_, rfl, ⟨_, SqT.mono q1 ok1.sub⟩, h1 g1 _ rfl ok1 st1 (itr_tup q1 q3)⟩
    · refine .inr ⟨g0, g, sl, rfl, ok, so, Post.dataE (Stp.refl g) so h fun g1 d v ed ok1 st1 so1 r1 h1 => ?_⟩
      cases d with
      | tup xs => exact absurd ⟨xs, _, ed⟩ ht
      | lst xs =>
        cases r1 with | lst q1 q2 q3 =>
        exact ⟨_, rfl, ⟨_, SqL.of (ok1.sub _ _ q1)⟩, h1 g1 _ rfl ok1 st1 (itr_list q1 q3)⟩
      | _ => exact (Post.no h1).elim
theorem pi_weak {f : Slots → Sto → Res (List D)} (h : PI X tg e (rdI X.K E f)) : PI X tg e (rdIs X.K E f) :=
  PI.imp h fun σ H R ⟨g0, g, sl, e, ok, so, h⟩ => ⟨g0, g, sl, e, ok, so, by
    cases hr : f sl g.S with
    | stuck => rw [hr] at h; exact h
    | exc x S => rw [hr] at h; exact h
    | ok ds S => rw [hr] at h; intro g' J e ok st r; exact h g' J e ok st r.weak⟩
theorem itrs_list {K : PySem.W.Frag} {g g' : Gh} {a : Addr} {xs : List D} {vs : List V} (h : ∀ g1, Stp g' g1 → Gok K g1 → g1.H a = some (.lst vs)) (q : g'.Reps K xs vs) : ItRs K g g' xs (Itl K a) := fun g1 gr ok i => by
  have hs : SqL K g1.H a vs := SqL.of (h g1 gr ok)
  refine ⟨fun d hd => ?_, fun hn => ⟨vs, hs, ?_⟩⟩
  · obtain ⟨v, h1, h2⟩ := (gr.gro.reps q).get hd
    refine ⟨⟨vs, v, hs, h1⟩, fun x H' y => ?_⟩
    obtain ⟨e1, e2⟩ := y
    subst e1
    have := e2 vs hs
    rw [h1] at this
    cases this
    exact ⟨g1, rfl, rfl, ok, Stp.refl _, h2⟩
  · rw [← q.length]; exact List.getElem?_eq_none_iff.mp hn
theorem i_look {x : Ex} (ha : PE X e (rdE X.K E (evE F x))) : PI X tg e (rdIs X.K E (evI F (.look x))) :=
  PI.imp (PI.or (pi_tup (tg := tg) ha) (pi_list (tg := tg) ha)) fun σ H R ⟨g0, g, sl, e, ok, so, h⟩ => by
    subst e
    unfold evI at h
    cases er : evE F x sl g.S with
    | stuck => rw [er] at h; exact h.elim
    | exc x S => rw [er] at h; exact .inl ⟨g0, g, sl, rfl, ok, so, by rw [er]; exact h⟩
    | ok r S =>
      rw [er, Res.bind_ok] at h
      cases r with
      | val d =>
        cases d with
        | tup xs => exact .inl ⟨g0, g, sl, rfl, ok, so, by
            rw [er]
            intro g1 v e ok1 st1 r1
            subst e
            cases r1 with | tup q1 q2 q3 =>
            exact ⟨_, rfl, ⟨_, SqT.mono q1 ok1.sub⟩, h g1 _ rfl ok1 st1 (itr_tup q1 q3).weak⟩⟩
        | lst xs => exact .inr ⟨g0, g, sl, rfl, ok, so, by
            rw [er]
            intro g1 v e ok1 st1 r1
            subst e
            cases r1 with | lst q1 q2 q3 =>
            exact ⟨_, rfl, ⟨_, SqL.of (ok1.sub _ _ q1)⟩, h g1 _ rfl ok1 st1 (itr_list q1 q3).weak⟩⟩
        | _ => exact (show False from h).elim
      | fresh c =>
        cases c with
        | dic _ => exact (show False from h).elim
        | dit _ => exact (show False from h).elim
        | err _ => exact (show False from h).elim
        | lst xs => exact .inr ⟨g0, g, sl, rfl, ok, so, by
            rw [er]
            intro g1 v e ok1 st1 r1
            subst e
            obtain ⟨a, o, rfl, h1, ⟨za, vs, rfl, ra⟩, h3, h4, h5⟩ := r1
            exact ⟨_, rfl, ⟨_, SqL.of h1⟩, h g1 _ rfl ok1 st1 (itrs_list (fun g2 st _ => st.hp _ _ h1 h4) ra)⟩⟩
      | own c =>
        cases c with
        | dic _ => exact (show False from h).elim
        | dit _ => exact (show False from h).elim
        | err _ => exact (show False from h).elim
        | lst xs => exact .inr ⟨g0, g, sl, rfl, ok, so, by
            rw [er]
            intro g1 v e ok1 st1 r1
            subst e
            obtain ⟨a, o, rfl, h1, ⟨za, vs, rfl, ra⟩, h3, h4⟩ := r1
            exact ⟨_, rfl, ⟨_, SqL.of h1⟩, h g1 _ rfl ok1 st1 (itrs_list (fun g2 st _ => st.hp _ _ h1 h4) ra)⟩⟩
theorem i_rng1 (c : Ctx X F fns gls n E) {x : Ex} {nm : Str} {p : Pos} (hx : nm = sO "range") (hgl : X.env.scope.names.lookup nm = some .globalImplicit) (hst : notStar e = true) (ha : PE X e (rdE X.K E (evE F x))) :
    PI X tg (.Call (.Name nm p) [e] [] pos) (rdI X.K E (evI F (.rng1 x))) := by
  subst hx
  refine PI.imp (pi_range1 hgl (c.bl _ (by decide)) (pa_cons ha pa_nil (star_cons hst)) (star_cons hst)) fun σ H R ⟨g0, g, sl, e, ok, so, h⟩ => ?_
  subst e
  unfold evI at h
  refine ⟨g0, g, sl, rfl, ok, so, Post.int (Stp.refl g) h fun g1 i ok1 st1 h1 => ?_⟩
  split at h1
  case isFalse => exact h1.elim
  rename_i hb
  have hb' : -(2 ^ 62) ≤ i ∧ i < 2 ^ 62 := by simpa [small62] using hb
  exact ⟨i, rfl, hb'.1, hb'.2, h1 g1 _ rfl ok1 st1 itr_rng⟩
theorem i_rng2 (c : Ctx X F fns gls n E) {x y : Ex} {nm : Str} {p : Pos} (hx : nm = sO "range") (hgl : X.env.scope.names.lookup nm = some .globalImplicit) (hst : notStar a = true) (hst2 : notStar b = true) (ha : PE X a (rdE X.K E (evE F x))) (hb : PE X b (rdE X.K E (evE F y))) :
    PI X tg (.Call (.Name nm p) [a, b] [] pos) (rdI X.K E (evI F (.rng2 x y))) := by
  subst hx
  refine PI.imp (pi_range2 hgl (c.bl _ (by decide)) (pa_cons ha (pa_cons hb pa_nil (star_cons hst2)) (star_cons hst)) (by rw [star_cons hst, star_cons hst2]; rfl) (by rw [star_cons hst2]; rfl)) fun σ H R ⟨g0, g, sl, e, ok, so, h⟩ => ?_
  subst e
  unfold evI at h
  refine ⟨g0, g, sl, rfl, ok, so, Post.int (Stp.refl g) h fun g1 i ok1 st1 h1 => ?_⟩
  refine ⟨g0, g1, sl, rfl, ok1, so.step st1, Post.int st1 h1 fun g2 j ok2 st2 h2 => ?_⟩
  split at h2
  case isFalse => exact h2.elim
  rename_i hb
  have hb' : (-(2 ^ 62) ≤ i ∧ i < 2 ^ 62) ∧ -(2 ^ 62) ≤ j ∧ j < 2 ^ 62 := by simpa [small62] using hb
  exact ⟨i, j, rfl, ⟨hb'.1.1, hb'.1.2, hb'.2.1, hb'.2.2⟩, h2 g2 _ rfl ok2 (st1.trans st2) itr_rng⟩
theorem i_enum (c : Ctx X F fns gls n E) {x : Ex} {nm : Str} {p : Pos} (hx : nm = sO "enumerate") (hgl : X.env.scope.names.lookup nm = some .globalImplicit) (hst : notStar a = true) (ha : PE X a (rdE X.K E (evE F x))) (ht : isTupE tg = true) :
    PI X tg (.Call (.Name nm p) [a] [] pos) (rdI X.K E (evI F (.enum x))) := by
  subst hx
  cases tg <;> first | (cases ht; done) | skip
  refine PI.imp (pi_enumA hgl (c.bl _ (by decide)) (pa_cons ha pa_nil (star_cons hst)) (star_cons hst)) fun σ H R ⟨g0, g, sl, e, ok, so, h⟩ => ?_
  subst e
  unfold evI at h
  refine ⟨g0, g, sl, rfl, ok, so, Post.dataE (Stp.refl g) so h fun g1 d v ed ok1 st1 so1 r1 h1 => ?_⟩
  cases d with
  | tup xs =>
    cases r1 with | tup q1 q2 q3 =>
    exact ⟨_, _, rfl, .inr ⟨SqT.mono q1 ok1.sub, h1 g1 _ rfl ok1 st1 (itr_enumT q1 q3)⟩⟩
  | lst xs =>
    cases r1 with | lst q1 q2 q3 =>
    exact ⟨_, _, rfl, .inl ⟨SqL.of (ok1.sub _ _ q1), h1 g1 _ rfl ok1 st1 (itr_enum q1 q3)⟩⟩
  | _ => exact h1.elim
theorem i_zip (c : Ctx X F fns gls n E) {x y : Ex} {nm : Str} {p : Pos} (hx : nm = sO "zip") (hgl : X.env.scope.names.lookup nm = some .globalImplicit) (hst : notStar a = true) (hst2 : notStar b = true) (ha : PE X a (rdE X.K E (evE F x))) (hb : PE X b (rdE X.K E (evE F y))) (ht : isTupE tg = true) :
    PI X tg (.Call (.Name nm p) [a, b] [] pos) (rdI X.K E (evI F (.zip x y))) := by
  subst hx
  cases tg <;> first | (cases ht; done) | skip
  refine PI.imp (pi_zipX hgl (c.bl _ (by decide)) (pa_cons ha (pa_cons hb pa_nil (star_cons hst2)) (star_cons hst)) (star_cons hst) (star_plain fun z hz => by
    have : z = b := by simpa using hz
    rw [this]; exact hst2)) fun σ H R ⟨g0, g, sl, e, ok, so, h⟩ => ?_
  subst e
  unfold evI at h
  refine ⟨g0, g, sl, rfl, ok, so, Post.dataE (Stp.refl g) so h fun g1 d v ed ok1 st1 so1 r1 h1 => ?_⟩
  refine ⟨g0, g1, sl, rfl, ok1, so1, Post.dataE st1 so1 h1 fun g2 d2 v2 ed2 ok2 st2 so2 r2 h2 => ?_⟩
  have r1 := st2.gro.rep r1
  split at h2
  · cases r1 with | tup q1 q2 q3 =>
    cases r2 with | tup p1 p2 p3 =>
    exact ⟨_, _, _, _, rfl, .inr (.inl ⟨SqT.mono q1 ok2.sub, SqT.mono p1 ok2.sub, h2 g2 _ rfl ok2 (st1.trans st2) (itr_zipT q1 q3 p1 p3)⟩)⟩
  · cases r1 with | lst q1 q2 q3 =>
    cases r2 with | lst p1 p2 p3 =>
    exact ⟨_, _, _, _, rfl, .inl ⟨SqL.of (ok2.sub _ _ q1), SqL.of (ok2.sub _ _ p1), h2 g2 _ rfl ok2 (st1.trans st2) (itr_zipL q1 q3 p1 p3)⟩⟩
  · cases r1 with | lst q1 q2 q3 =>
    cases r2 with | tup p1 p2 p3 =>
    exact ⟨_, _, _, _, rfl, .inr (.inr ⟨SqL.of (ok2.sub _ _ q1), SqT.mono p1 ok2.sub, h2 g2 _ rfl ok2 (st1.trans st2) (itr_zipM q1 q3 p1 p3)⟩)⟩
  · exact h2.elim
end
end Px
set_option Elab.async false
set_option linter.all false
set_option maxRecDepth 100000
set_option maxHeartbeats 1000000
namespace Px
open PySem PySem.Spec PyProof.Rows L2
def Gh.setH (g : Gh) (a : Addr) (o : HO) : Gh := { g with H := upd g.H a o }
section
variable {K : PySem.W.Frag} {g g' g1 : Gh} {a : Addr} {o o' : HO}
theorem Stp.own (st : Stp g g') (h1 : g.H a = some o) (h2 : g.R a = none) (h3 : a ∉ g.sa) : g'.H a = some o ∧ g'.R a = none ∧ a ∉ g'.sa :=
  ⟨st.hp a o h1 h3, st.rn a h2 (by rw [h1]; simp), fun m => by have := st.sn a m h3; rw [h1] at this; cases this⟩
theorem Stp.setH (st : Stp g g') (h : g.H a = none) (h1 : g'.H a = some o') : Stp g (g'.setH a o) :=
  ⟨fun b u e n => by
    show upd g'.H a o b = some u
    rw [upd_ne (ne_of_none e h)]; exact st.hp b u e n, fun b e => by
    have e' : upd g'.H a o b = none := e
    by_cases hb : b = a
    · subst hb; rw [upd_same] at e'; cases e'
    · rw [upd_ne hb] at e'; exact st.dom b e', st.rr, st.rn, st.sp, st.sn⟩
theorem Gro.setH (h : Gro g g') : Gro g (g'.setH a o) := ⟨h.rr, h.sp⟩
theorem Gok.setH (ok : Gok K g) (h1 : g.R a = none) (h2 : a ∉ g.sa) : Gok K (g.setH a o) := by
  refine ⟨fun b u e => ?_, ok.len, ok.nd, fun i b c e1 e2 => ?_⟩
  · show upd g.H a o b = some u
    rw [upd_ne (fun z : b = a => by rw [z] at e; exact absurd (h1.symm.trans e) (by simp))]
    exact ok.sub b u e
  · obtain ⟨u, q1, q2, q3⟩ := ok.sto i b c e1 e2
    refine ⟨u, ?_, (Gro.setH (Gro.refl g)).srep q2, q3⟩
    show upd g.H a o b = some u
    rw [upd_ne (fun z : b = a => h2 (z ▸ List.mem_of_getElem? e1))]
    exact q1
end
theorem PTs.imp {X : Cx} {es : List Expr} {t u : TT} (h : PTs X es t) (i : ∀ σ H Q, u σ H Q → t σ H Q) : PTs X es u := ⟨fun pins s σ H Q I q => h.run pins s σ H Q I (i σ H Q q)⟩
theorem s_notest {X : Cx} {F : Cf} {E : L2.St → XK} : PTs X [] (rdT X.K E fun sl S => (evE F .nop sl S).truth) :=
  PTs.imp pts_nil fun σ H Q ⟨g0, g, sl, e, ok, so, h⟩ => by
    subst e
    unfold evE at h
    exact h g true rfl ok (Stp.refl g) rfl
/-- the turns of a comprehension: from the place of the loop to its end -/
structure LcW (K : PySem.W.Frag) (E : XK) (g0 gs g1 : Gh) (σ : L2.St) (sl : Slots) (items : List D) (f : D → List D → Sto → Res (List D)) (D0 : Addr) (Q : V → Hp → Prop) (i : Nat) (H : Hp) : Prop where
  ex : ∃ g2 acc vs, g2.H = H ∧ Gok K g2 ∧ Stp gs g2 ∧ (Stp g1 g2 ∧ g1.H D0 = none) ∧ SlOk K g0 g2 σ sl ∧ g2.H D0 = some (.lst vs) ∧ g2.R D0 = none ∧ D0 ∉ g2.sa ∧ g2.Reps K acc vs ∧ acc.length ≤ sizeLine ∧
    Post K E (RvR K) gs ((compL f (items.drop i) acc g2.S).bind fun ds S2 => .ok (.fresh (.lst ds)) S2) Q
section
variable {X : Cx} {F : Cf} {fns gls : List String} {n : Nat} {E : L2.St → XK}
theorem s_comp (hc : X.calm = true) (hN : X.N.Nodup) {own : List (String × Nat)} {tg : Tg} {it : Itx} {cx elt : Ex} {t i e : Expr} {ifs : List Expr} {scope : Scope} {pos : Pos} (hi : PI X t i (rdIs X.K E (evI F it))) (ok : BlkOk X.N X.env.scope scope (ownS own))
    (hg : ∀ (s : Shared) (H : Hp) (C : Addr) (cl : List (Str × Addr)) (fp : List Addr), PG (X.blk s H scope (compEnvC scope cl C X.env) fp) t (rdG X.K tg))
    (ht : ∀ (s : Shared) (H : Hp) (C : Addr) (cl : List (Str × Addr)) (fp : List Addr), PTs (X.blk s H scope (compEnvC scope cl C X.env) fp) ifs (rdT X.K (kE noE) fun sl S => (evE F cx sl S).truth))
    (he : ∀ (s : Shared) (H : Hp) (C : Addr) (cl : List (Str × Addr)) (fp : List Addr), PE (X.blk s H scope (compEnvC scope cl C X.env) fp) e (rdE X.K (kE noE) (evE F elt)))
    (hs : ∀ x, foldedSetIterable i X.env x = pure x) (hsub : ∀ k ∈ tg.slots, k ∈ own.map (·.2)) :
    PE X (.ListComp e [⟨t, i, ifs, 0⟩] scope pos) (tLc (rdIs X.K E (evI F it)) (rdG X.K tg) (rdT X.K (kE noE) fun sl S => (evE F cx sl S).truth) (rdE X.K (kE noE) (evE F elt)) (own.map (·.2))) := by
  have e1 : (ownS own).map (·.2) = own.map (·.2) := by simp [ownS]
  rw [← e1]
  exact pe_lc hc hN hi ok hg ht he hs
theorem lc_read {own : List Nat} {tg : Tg} {it : Itx} {cx elt : Ex} (hsub : ∀ k ∈ tg.slots, k ∈ own) {σ : L2.St} {H : Hp} {Q : VK} {K : PySem.W.Frag}
    (h : rdE K E (fun sl S => (evI F it sl S).bind fun items S1 =>
      (compL (fun x acc S => match bindT tg x (wipeS sl own) with
        | none => .stuck
        | some sl2 => (evE F cx sl2 S).truth.bind fun k S2 => if k then (evE F elt sl2 S2).data.bind fun d S3 => addL acc d S3 else .ok acc S2) items [] S1).noX.bind fun ds S2 => .ok (.fresh (.lst ds)) S2) σ H Q) :
    tLc (rdIs K E (evI F it)) (rdG K tg) (rdT K (kE noE) fun sl S => (evE F cx sl S).truth) (rdE K (kE noE) (evE F elt)) own σ H Q := by
  obtain ⟨g0, g, sl, e, ok, so, h⟩ := h
  subst e
  refine ⟨g0, g, sl, rfl, ok, so, Post.bind h fun g1 items J ok1 st1 it1 h1 => ?_⟩
  intro D0 hD
  replace h1 := Post.noX (E' := noE) h1
  generalize hf : (fun (x : D) (acc : List D) (S : Sto) => match bindT tg x (wipeS sl own) with
        | none => (Res.stuck : Res (List D))
        | some sl2 => (evE F cx sl2 S).truth.bind fun k S2 => if k then (evE F elt sl2 S2).data.bind fun d S3 => addL acc d S3 else .ok acc S2) = f at h1
  have hDg : g.H D0 = none := st1.dom D0 hD
  refine ⟨fun i m H => m = items.length - i ∧ i ≤ items.length ∧ LcW K noE g0 g g1 σ sl items f D0 Q i H, ⟨items.length, by simp, Nat.zero_le _, ⟨?_⟩⟩, ?_⟩
  · obtain ⟨k, st⟩ := ok1.new hD (.lst [])
    exact ⟨g1.new D0 (.lst []), [], [], rfl, k, st1.trans st, ⟨st, hD⟩, so.step (st1.trans st), upd_same, ok1.Rnone hD, ok1.saTr hD, .nil, Nat.zero_le _, h1⟩
  rintro i m H ⟨rfl, hi, ⟨g2, acc, vs, rfl, ok2, st2, gr2, so2, hD2, hR2, hs2, ra, za, h2⟩⟩
  obtain ⟨gr2, hD1⟩ := gr2
  obtain ⟨go, stp⟩ := it1 g2 gr2 ok2 i
  cases ei : items[i]? with
  | none =>
    refine .inl ⟨stp ei, ?_⟩
    have e2 : items.drop i = [] := by rw [List.drop_eq_nil_iff]; exact List.getElem?_eq_none_iff.mp ei
    rw [e2] at h2
    exact h2 g2 (.ref D0) rfl ok2 st2 ⟨D0, _, rfl, hD2, ⟨za, vs, rfl, ra⟩, hR2, hs2, hDg⟩
  | some d =>
    obtain ⟨g_go, yl⟩ := go d ei
    have hlt : i < items.length := (List.getElem?_eq_some_iff.mp ei).1
    have e2 : items.drop i = d :: items.drop (i + 1) := by
      rw [List.drop_eq_getElem_cons hlt]
      congr 1
      exact (List.getElem?_eq_some_iff.mp ei).2
    rw [e2] at h2
    unfold compL at h2
    rw [Res.bind_assoc] at h2
    refine .inr ⟨g_go, fun H' => LcW K noE g0 g g1 σ sl items f D0 Q (i + 1) H', fun H' w => ⟨items.length - (i + 1), by omega, rfl, hlt, w⟩, fun x H' y => ?_⟩
    obtain ⟨g3, rfl, eS, ok3, st3, r3⟩ := yl x H' y
    rw [← eS] at h2
    have fx : f d acc g3.S = match bindT tg d (wipeS sl own) with
        | none => .stuck
        | some sl2 => (evE F cx sl2 g3.S).truth.bind fun k S2 => if k then (evE F elt sl2 S2).data.bind fun d S3 => addL acc d S3 else .ok acc S2 := by rw [← hf]
    rw [fx] at h2
    cases eb : bindT tg d (wipeS sl own) with
    | none => rw [eb] at h2; exact h2.elim
    | some sl2 =>
      rw [eb] at h2
      dsimp only at h2
      rw [Res.bind_assoc] at h2
      have st23 := st2.trans st3
      obtain ⟨hD3, hR3, hs3⟩ := st3.own hD2 hR2 hs2
      have so3 := (so2.step st3)
      refine ⟨g0, g3, wipeS sl own, d, sl2, rfl, ok3, so3.wipe own, r3, eb, fun σ2 sob ofs => ⟨?_, ?_⟩⟩
      · rw [ofs own hsub]; exact wipe_idem fun _ h => h
      refine ⟨g0, g3, sl2, rfl, ok3, sob, Post.bindAt st23 h2 fun g4 k b ok4 st4 r4 h4 => ?_⟩
      subst r4
      have st24 := st23.trans st4
      obtain ⟨hD4, hR4, hs4⟩ := st4.own hD3 hR3 hs3
      have gr4 := gr2.trans (st3.trans st4)
      cases b with
      | false =>
        rw [if_neg Bool.false_ne_true] at h4 ⊢
        rw [Res.bind_ok] at h4
        exact ⟨g4, acc, vs, rfl, ok4, st24, ⟨gr4, hD1⟩, so3.step st4, hD4, hR4, hs4, (st3.gro.trans st4.gro).reps ra, za, h4⟩
      | true =>
        rw [if_pos rfl] at h4 ⊢
        rw [Res.bind_assoc] at h4
        refine ⟨g0, g4, sl2, rfl, ok4, sob.step st4, Post.dataE st24 (sob.step st4) h4 fun g5 dd v ed ok5 st5 so5 r5 h5 => ?_⟩
        unfold addL at h5
        split at h5
        case isFalse => exact h5.elim
        rename_i hz
        rw [Res.bind_ok] at h5
        obtain ⟨hD5, hR5, hs5⟩ := st5.own hD4 hR4 hs4
        have ra5 : g5.Reps K acc vs := (st3.gro.trans (st4.gro.trans st5.gro)).reps ra
        have hl := ra5.length
        refine ⟨vs, hD5, by omega, ⟨g5.setH D0 (.lst (vs ++ [v])), acc ++ [dd], vs ++ [v], rfl, ok5.setH hR5 hs5, (st24.trans st5).setH hDg hD5, ⟨(gr4.trans st5).setH hD1 hD5, hD1⟩, ?_, upd_same, hR5, hs5, ?_, by rw [List.length_append]; exact hz, h5⟩⟩
        · exact so.step ((st24.trans st5).setH hDg hD5)
        · exact (Gro.setH (Gro.refl g5)).reps (ra5.append (.one r5))
end
end Px
set_option Elab.async false
set_option linter.all false
set_option maxRecDepth 100000
set_option maxHeartbeats 1000000
namespace Px
open PySem PySem.Spec PyProof.Rows L2
/-- the turns of a comprehension of two clauses -/
structure LcG (K : PySem.W.Frag) (E : XK) (g0 gs g1 : Gh) (σ : L2.St) (sl : Slots) (items : List D) (f : D → List D → Sto → Res (List D)) (D0 : Addr) (Q : V → Hp → Prop) (i : Nat) (H : Hp) : Prop where
  ex : ∃ g2 acc vs, g2.H = H ∧ Gok K g2 ∧ Stp gs g2 ∧ Gro g1 g2 ∧ SlOk K g0 g2 σ sl ∧ g2.H D0 = some (.lst vs) ∧ g2.R D0 = none ∧ D0 ∉ g2.sa ∧ g2.Reps K acc vs ∧ acc.length ≤ sizeLine ∧
    Post K E (RvR K) gs ((compL f (items.drop i) acc g2.S).bind fun ds S2 => .ok (.fresh (.lst ds)) S2) Q
structure Lc2W (K : PySem.W.Frag) (E : XK) (g0 gs g1 : Gh) (σ : L2.St) (sl : Slots) (items : List D) (f : D → List D → Sto → Res (List D)) (k : List D → Sto → Res Rv) (D0 : Addr) (Q : V → Hp → Prop) (i : Nat) (H : Hp) : Prop where
  ex : ∃ g2 acc vs, g2.H = H ∧ Gok K g2 ∧ Stp gs g2 ∧ Gro g1 g2 ∧ SlOk K g0 g2 σ sl ∧ g2.H D0 = some (.lst vs) ∧ g2.R D0 = none ∧ D0 ∉ g2.sa ∧ g2.Reps K acc vs ∧ acc.length ≤ sizeLine ∧
    Post K E (RvR K) gs ((compL f (items.drop i) acc g2.S).bind k) Q
section
variable {X : Cx} {F : Cf} {fns gls : List String} {n : Nat} {E : L2.St → XK}
theorem lc2_read {own vs1 : List Nat} {tg tg1 : Tg} {it it1 : Itx} {cx cx1 elt : Ex} (hsub : ∀ k ∈ tg.slots, k ∈ own) (hsub1 : ∀ k ∈ tg1.slots, k ∈ vs1) {σ : L2.St} {H : Hp} {Q : VK} {K : PySem.W.Frag}
    (h : rdE K E (fun sl S => (evI F it sl S).bind fun items S1 =>
      (compL (fun x acc S => match bindT tg x (wipeS (hideS sl) own) with
        | none => .stuck
        | some sl2 => (evE F cx sl2 S).truth.bind fun k S2 => if k then (evI F it1 sl2 S2).bind fun items1 S3 =>
            compL (fun x acc S => match bindT tg1 x (wipeS sl2 vs1) with
              | none => .stuck
              | some sl3 => (evE F cx1 sl3 S).truth.bind fun k S2 => if k then (evE F elt sl3 S2).data.bind fun d S3 => addL acc d S3 else .ok acc S2) items1 acc S3
          else .ok acc S2) items [] S1).noX.bind fun ds S2 => .ok (.fresh (.lst ds)) S2) σ H Q) :
    tLc2 (rdI K E (evI F it)) (rdG K tg) (rdT K (kE noE) fun sl S => (evE F cx sl S).truth) (rdI K (kE noE) (evI F it1)) (rdG K tg1) (rdT K (kE noE) fun sl S => (evE F cx1 sl S).truth) (rdE K (kE noE) (evE F elt)) own vs1 σ H Q := by
  obtain ⟨g0, g, sl, e, ok, so, h⟩ := h
  subst e
  refine ⟨g0, g, sl, rfl, ok, so, Post.bind h fun g1 items J ok1 st1 it1' h1 => ?_⟩
  intro D0 hD
  replace h1 := Post.noX (E' := noE) h1
  generalize hf : (fun (x : D) (acc : List D) (S : Sto) => match bindT tg x (wipeS (hideS sl) own) with
        | none => (Res.stuck : Res (List D))
        | some sl2 => (evE F cx sl2 S).truth.bind fun k S2 => if k then (evI F it1 sl2 S2).bind fun items1 S3 =>
            compL (fun x acc S => match bindT tg1 x (wipeS sl2 vs1) with
              | none => .stuck
              | some sl3 => (evE F cx1 sl3 S).truth.bind fun k S2 => if k then (evE F elt sl3 S2).data.bind fun d S3 => addL acc d S3 else .ok acc S2) items1 acc S3
          else .ok acc S2) = f at h1
  have hDg : g.H D0 = none := st1.dom D0 hD
  refine ⟨fun i m H => m = items.length - i ∧ i ≤ items.length ∧ LcG K noE g0 g g1 σ sl items f D0 Q i H, ⟨items.length, by simp, Nat.zero_le _, ⟨?_⟩⟩, ?_⟩
  · obtain ⟨k, st⟩ := ok1.new hD (.lst [])
    exact ⟨g1.new D0 (.lst []), [], [], rfl, k, st1.trans st, st.gro, so.step (st1.trans st), upd_same, ok1.Rnone hD, ok1.saTr hD, .nil, Nat.zero_le _, h1⟩
  rintro i m H ⟨rfl, hi, ⟨g2, acc, vs, rfl, ok2, st2, gr2, so2, hD2, hR2, hs2, ra, za, h2⟩⟩
  obtain ⟨go, stp⟩ := it1' g2 gr2 ok2 i
  cases ei : items[i]? with
  | none =>
    refine .inl ⟨stp ei, ?_⟩
    have e2 : items.drop i = [] := by rw [List.drop_eq_nil_iff]; exact List.getElem?_eq_none_iff.mp ei
    rw [e2] at h2
    exact h2 g2 (.ref D0) rfl ok2 st2 ⟨D0, _, rfl, hD2, ⟨za, vs, rfl, ra⟩, hR2, hs2, hDg⟩
  | some d =>
    obtain ⟨g_go, yl⟩ := go d ei
    have hlt : i < items.length := (List.getElem?_eq_some_iff.mp ei).1
    have e2 : items.drop i = d :: items.drop (i + 1) := by
      rw [List.drop_eq_getElem_cons hlt]
      congr 1
      exact (List.getElem?_eq_some_iff.mp ei).2
    rw [e2] at h2
    unfold compL at h2
    rw [Res.bind_assoc] at h2
    refine .inr ⟨g_go, fun H' => LcG K noE g0 g g1 σ sl items f D0 Q (i + 1) H', fun H' w => ⟨items.length - (i + 1), by omega, rfl, hlt, w⟩, fun x H' y => ?_⟩
    obtain ⟨g3, rfl, eS, ok3, st3, r3⟩ := yl x H' y
    rw [← eS] at h2
    have fx : f d acc g3.S = match bindT tg d (wipeS (hideS sl) own) with
        | none => .stuck
        | some sl2 => (evE F cx sl2 g3.S).truth.bind fun k S2 => if k then (evI F it1 sl2 S2).bind fun items1 S3 =>
            compL (fun x acc S => match bindT tg1 x (wipeS sl2 vs1) with
              | none => .stuck
              | some sl3 => (evE F cx1 sl3 S).truth.bind fun k S2 => if k then (evE F elt sl3 S2).data.bind fun d S3 => addL acc d S3 else .ok acc S2) items1 acc S3
          else .ok acc S2 := by rw [← hf]
    rw [fx] at h2
    cases eb : bindT tg d (wipeS (hideS sl) own) with
    | none => rw [eb] at h2; exact h2.elim
    | some sl2 =>
      rw [eb] at h2
      dsimp only at h2
      rw [Res.bind_assoc] at h2
      have st23 := st2.trans st3
      obtain ⟨hD3, hR3, hs3⟩ := st3.own hD2 hR2 hs2
      have so3 := (so2.step st3)
      refine ⟨g0, g3, wipeS (hideS sl) own, d, sl2, rfl, ok3, so3.hide.wipe own, r3, eb, fun σ2 sob ofs => ⟨?_, ?_⟩⟩
      · rw [ofs own hsub]; exact wipe_idem fun _ h => h
      refine ⟨g0, g3, sl2, rfl, ok3, sob, Post.bindAt st23 h2 fun g4 k b ok4 st4 r4 h4 => ?_⟩
      subst r4
      have st24 := st23.trans st4
      obtain ⟨hD4, hR4, hs4⟩ := st4.own hD3 hR3 hs3
      have gr4 := gr2.trans (st3.gro.trans st4.gro)
      cases b with
      | false =>
        rw [if_neg Bool.false_ne_true] at h4 ⊢
        rw [Res.bind_ok] at h4
        exact ⟨g4, acc, vs, rfl, ok4, st24, gr4, so3.step st4, hD4, hR4, hs4, (st3.gro.trans st4.gro).reps ra, za, h4⟩
      | true =>
        rw [if_pos rfl] at h4 ⊢
        rw [Res.bind_assoc] at h4
        refine ⟨g0, g4, sl2, rfl, ok4, sob.step st4, Post.bindAt st24 h4 fun g5 items1 J1 ok5 st5 it5 h5 => ?_⟩
        -- the inner loop
        have st25 := st24.trans st5
        obtain ⟨hD5, hR5, hs5⟩ := st5.own hD4 hR4 hs4
        have so5 := (sob.step st4).step st5
        have no2 : NoOwn sl2 := ((hide_no sl).wipe own).bind eb
        generalize hf1 : (fun (x : D) (acc : List D) (S : Sto) => match bindT tg1 x (wipeS sl2 vs1) with
              | none => (Res.stuck : Res (List D))
              | some sl3 => (evE F cx1 sl3 S).truth.bind fun k S2 => if k then (evE F elt sl3 S2).data.bind fun d S3 => addL acc d S3 else .ok acc S2) = f1 at h5
        let k5 : List D → Sto → Res Rv := fun acc' S' => (compL f (items.drop (i + 1)) acc' S').bind fun ds S2 => .ok (.fresh (.lst ds)) S2
        refine ⟨fun j m H => m = items1.length - j ∧ j ≤ items1.length ∧ Gro g1 g5 ∧ Lc2W K noE g0 g g5 σ2 sl2 items1 f1 k5 D0 Q j H ∧ True, ⟨items1.length, by simp, Nat.zero_le _, gr4.trans st5.gro, ⟨?_⟩, trivial⟩, ?_⟩
        · exact ⟨g5, acc, vs, rfl, ok5, st25, Gro.refl _, so5, hD5, hR5, hs5, (st3.gro.trans (st4.gro.trans st5.gro)).reps ra, za, h5⟩
        rintro j m H ⟨rfl, hj, gr15, ⟨g6, acc6, vs6, rfl, ok6, st6, gr6, so6, hD6, hR6, hs6, ra6, za6, h6⟩, _⟩
        obtain ⟨go6, stp6⟩ := it5 g6 gr6 ok6 j
        cases ej : items1[j]? with
        | none =>
          refine .inl ⟨stp6 ej, ?_⟩
          have e6 : items1.drop j = [] := by rw [List.drop_eq_nil_iff]; exact List.getElem?_eq_none_iff.mp ej
          rw [e6] at h6
          unfold compL at h6
          rw [Res.bind_ok] at h6
          exact ⟨g6, acc6, vs6, rfl, ok6, st6, gr15.trans gr6, so.step st6, hD6, hR6, hs6, ra6, za6, h6⟩
        | some d6 =>
          obtain ⟨g_go6, yl6⟩ := go6 d6 ej
          have hlt6 : j < items1.length := (List.getElem?_eq_some_iff.mp ej).1
          have e6 : items1.drop j = d6 :: items1.drop (j + 1) := by
            rw [List.drop_eq_getElem_cons hlt6]
            congr 1
            exact (List.getElem?_eq_some_iff.mp ej).2
          rw [e6] at h6
          unfold compL at h6
          rw [Res.bind_assoc] at h6
          refine .inr ⟨g_go6, fun H' => Lc2W K noE g0 g g5 σ2 sl2 items1 f1 k5 D0 Q (j + 1) H', fun H' w => ⟨items1.length - (j + 1), by omega, rfl, hlt6, gr15, w, trivial⟩, fun x6 H6 y6 => ?_⟩
          obtain ⟨g7, rfl, eS7, ok7, st7, r7⟩ := yl6 x6 H6 y6
          rw [← eS7] at h6
          have fx6 : f1 d6 acc6 g7.S = match bindT tg1 d6 (wipeS sl2 vs1) with
              | none => .stuck
              | some sl3 => (evE F cx1 sl3 g7.S).truth.bind fun k S2 => if k then (evE F elt sl3 S2).data.bind fun d S3 => addL acc6 d S3 else .ok acc6 S2 := by rw [← hf1]
          rw [fx6] at h6
          cases eb6 : bindT tg1 d6 (wipeS sl2 vs1) with
          | none => rw [eb6] at h6; exact h6.elim
          | some sl3 =>
            rw [eb6] at h6
            dsimp only at h6
            rw [Res.bind_assoc] at h6
            have st67 := st6.trans st7
            obtain ⟨hD7, hR7, hs7⟩ := st7.own hD6 hR6 hs6
            have so7 := so6.step st7
            refine ⟨g0, g7, wipeS sl2 vs1, d6, sl3, rfl, ok7, so7.wipe vs1, r7, eb6, fun σ3 soc ofs1 => ⟨?_, ?_⟩⟩
            · rw [ofs1 vs1 hsub1]; exact wipe_idem fun _ h => h
            refine ⟨g0, g7, sl3, rfl, ok7, soc, Post.bindAt st67 h6 fun g8 k8 b8 ok8 st8 r8 h8 => ?_⟩
            subst r8
            have st68 := st67.trans st8
            obtain ⟨hD8, hR8, hs8⟩ := st8.own hD7 hR7 hs7
            have gr8 := gr6.trans (st7.gro.trans st8.gro)
            cases b8 with
            | false =>
              rw [if_neg Bool.false_ne_true] at h8 ⊢
              rw [Res.bind_ok] at h8
              exact ⟨g8, acc6, vs6, rfl, ok8, st68, gr8, so7.step st8, hD8, hR8, hs8, (st7.gro.trans st8.gro).reps ra6, za6, h8⟩
            | true =>
              rw [if_pos rfl] at h8 ⊢
              rw [Res.bind_assoc] at h8
              refine ⟨g0, g8, sl3, rfl, ok8, soc.step st8, Post.dataE st68 (soc.step st8) h8 fun g9 dd v ed ok9 st9 so9 r9 h9 => ?_⟩
              unfold addL at h9
              split at h9
              case isFalse => exact h9.elim
              rename_i hz
              rw [Res.bind_ok] at h9
              obtain ⟨hD9, hR9, hs9⟩ := st9.own hD8 hR8 hs8
              have ra9 : g9.Reps K acc6 vs6 := (st7.gro.trans (st8.gro.trans st9.gro)).reps ra6
              have hl := ra9.length
              have st69 := st68.trans st9
              refine ⟨vs6, hD9, by omega, ⟨g9.setH D0 (.lst (vs6 ++ [v])), acc6 ++ [dd], vs6 ++ [v], rfl, ok9.setH hR9 hs9, st69.setH hDg hD9, (gr8.trans st9.gro).setH, ?_, upd_same, hR9, hs9, ?_, by rw [List.length_append]; exact hz, h9⟩⟩
              · exact so6.noOwn no2 ((st7.gro.trans (st8.gro.trans st9.gro)).setH)
              · exact (Gro.setH (Gro.refl g9)).reps (ra9.append (.one r9))
end
end Px
set_option Elab.async false
set_option linter.all false
set_option maxRecDepth 100000
set_option maxHeartbeats 1000000
namespace Px
open PySem PySem.Spec PyProof.Rows L2
/-- the forms that an operation told by name has -/
def opSh : Expr → Bool
  | .Subscript _ _ _ => true
  | .Call _ _ _ _ => true
  | _ => false
theorem chkP_sh {T : Tx} {o : Op} {es : Exs} {x : Expr} (h : chkP T o es x = true) : opSh x = true := by
  cases x <;> first | rfl | (cases o <;> rcases es with _ | ⟨a, _ | ⟨b, _ | ⟨c, _⟩⟩⟩ <;> exact Bool.noConfusion (show false = true from h))
theorem chkE_star {T : Tx} {e : Ex} {x : Expr} (h : chkE T e x = true) : notStar x = true := by
  cases x <;> first | rfl | (cases e <;> first | exact Bool.noConfusion (show false = true from h) | exact Bool.noConfusion (show false = true from chkP_sh (show chkP T _ _ _ = true from h)))
theorem chkE_slice {T : Tx} {e : Ex} {l u st : Option Expr} {p : Pos} (h : chkE T e (.Slice l u st p) = true) : False := by
  cases e <;> first | exact Bool.noConfusion (show false = true from h) | exact Bool.noConfusion (show false = true from chkP_sh (show chkP T _ _ _ = true from h))
theorem chkE_set {T : Tx} {e : Ex} {l : List Expr} {k : Nat} {p : Pos} (h : chkE T e (.Set l k p) = true) : False := by
  cases e <;> first | exact Bool.noConfusion (show false = true from h) | exact Bool.noConfusion (show false = true from chkP_sh (show chkP T _ _ _ = true from h))
theorem chkE_marks {T : Tx} {e : Ex} {x : Expr} {op : CmpOp} (h : chkE T e x = true) : behindInMarks op x = false := by
  cases x <;> first | rfl | exact (chkE_set h).elim
theorem chkI_set {T : Tx} {tg : Expr} {it : Itx} {x : Expr} {env : Env} (h : chkI T tg it x = true) : ∀ v, foldedSetIterable x env v = pure v := by
  intro v
  cases x <;> first | rfl | skip
  cases it <;> first | exact (chkE_set (show chkE T _ (Expr.Set _ _ _) = true from h)).elim | exact Bool.noConfusion (show false = true from h)
theorem chkL_set {T : Tx} {it : Itx} {x : Expr} {env : Env} (h : chkL T it x = true) : ∀ v, foldedSetIterable x env v = pure v := by
  intro v
  cases it <;> first | exact Bool.noConfusion (show false = true from h) | skip
  cases x <;> first | rfl | exact (chkE_set (show chkE T _ (Expr.Set _ _ _) = true from h)).elim
theorem chkIL_set {T : Tx} {tg : Expr} {it : Itx} {x : Expr} {env : Env} (h : (chkI T tg it x || chkL T it x) = true) : ∀ v, foldedSetIterable x env v = pure v := by
  rw [Bool.or_eq_true] at h
  exact h.elim chkI_set chkL_set
theorem chkA_star {T : Tx} : ∀ {es : Exs} {xs : List Expr}, chkA T es xs = true → ∀ y ∈ xs, notStar y = true
  | .nil, [], _, y, hy => by cases hy
  | .cons e es, x :: xs, h, y, hy => by
    have h' : chkE T e x = true ∧ chkA T es xs = true := by simpa [chkA] using h
    rcases List.mem_cons.mp hy with rfl | hy
    · exact chkE_star h'.1
    · exact chkA_star h'.2 y hy
  | .nil, _ :: _, h, _, _ => by simp [chkA] at h
  | .cons _ _, [], h, _, _ => by simp [chkA] at h
theorem subB_of {xs ys : List Nat} (h : subB xs ys = true) : ∀ i ∈ xs, i ∈ ys := by
  unfold subB at h
  rw [List.all_eq_true] at h
  exact fun i hi => by simpa using h i hi
section
variable {X : Cx} {F : Cf} {fns gls : List String} {n : Nat} {E : L2.St → XK} {a b c e : Expr} {fa fb fc : Slots → Sto → Res Rv} {pos : Pos}
theorem passesAt_no {Y : Cx} {σ : L2.St} : PassesAt (L2.CX Y.prog Y.w) Y σ noE := fun _ _ _ _ _ _ ⟨_, _, _, _, _, _, _, _, _, _, _, _, hE⟩ => hE.elim
theorem Ctx.blk (c : Ctx X F fns gls n E) (s : Shared) (H : Hp) (scope : Scope) (cenv : Env) (fp : List Addr) : Ctx (X.blk s H scope cenv fp) F fns gls n (kE noE) :=
  ⟨fun σ => passesAt_no, c.calm, c.nd, c.room, c.grd, c.sys, c.bl, c.fn, c.xc, c.gl⟩
theorem s_cmp {op : CmpOp} {o : Cop} (hu : X.A.units + 65 < cLine) (hm : behindInMarks op b = false) (ho : o.op = op) (ha : PE X a (rdE X.K E fa)) (hb : PE X b (rdE X.K E fb)) :
    PE X (.Compare a [op] [b] pos) (rdE X.K E fun sl S => (fa sl S).bind fun x S1 => (fb sl S1).bind fun y S2 => Res.opt (semC o x y) S2) := by
  subst ho
  exact s_op2 (fun h1 h2 => pe_cmpR (op_cmpS hu o) h1 h2 hm) ha hb
theorem chain_read {o o' : Cop} {σ : L2.St} {H : Hp} {Q : VK} {K : PySem.W.Frag}
    (h : rdE K E (fun sl S => (fa sl S).bind fun x S1 => (fb sl S1).bind fun y S2 => (Res.opt (opCmp o x y) S2).bind fun k S3 =>
      if k then (fc sl S3).bind fun z S4 => Res.opt (semC o' y z) S4 else .ok (.val (.bl false)) S3) σ H Q) : tChain (rOp2 K E (semC o)) (rOp2 K E (semC o')) (rdE K E fa) (rdE K E fb) (rdE K E fc) σ H Q := by
  obtain ⟨g0, g, sl, e, ok, so, h⟩ := h
  subst e
  refine ⟨g0, g, sl, rfl, ok, so, Post.bind h fun g1 x v ok1 st1 r1 h1 => ?_⟩
  refine ⟨g0, g1, sl, rfl, ok1, so.step st1, Post.bindAt st1 h1 fun g2 y u ok2 st2 r2 h2 => ?_⟩
  obtain ⟨k, ek, h3⟩ := Post.optBind h2
  refine ⟨g, g2, x, y, rfl, ok2, r1.after st2, r2.ahead st1, ?_⟩
  unfold semC
  rw [ek]
  intro g3 v3 hS ok3 st3 r3
  have r3' : g3.Rep K (.bl k) v3 := r3
  cases r3'
  refine ⟨k, rfl, ?_⟩
  have st12 := st1.trans st2
  have st13 := st12.trans st3
  cases k with
  | false =>
    rw [if_neg Bool.false_ne_true] at h3 ⊢
    exact h3 g3 _ hS ok3 st13 (.bl _)
  | true =>
    rw [if_pos rfl] at h3 ⊢
    rw [← hS] at h3
    refine ⟨g0, g3, sl, rfl, ok3, so.step st13, Post.bindAt st13 h3 fun g4 z w ok4 st4 r4 h4 => ?_⟩
    exact ⟨g, g4, y, z, rfl, ok4, (r2.ahead st1).after (st3.trans st4), r4.ahead st13, (h4.shiftE (st13.trans st4)).optE⟩
theorem rd_boolE {f : Slots → Sto → Res Rv} {K : PySem.W.Frag} (hb : ∀ sl S r S', f sl S = .ok r S' → ∃ k, r = .val (.bl k)) {σ : L2.St} {H : Hp} {Q : Bool → Hp → Prop} (h : rdT K E (fun sl S => (f sl S).truth) σ H Q) : rdE K E f σ H (fun x H' => ∃ k, x = .bl k ∧ Q k H') := by
  obtain ⟨g0, g, sl, e, ok, so, h⟩ := h
  subst e
  refine ⟨g0, g, sl, rfl, ok, so, ?_⟩
  dsimp only at h
  cases e1 : f sl g.S with
  | stuck => rw [e1] at h; exact h.elim
  | exc x S => rw [e1] at h; exact h
  | ok r S =>
    obtain ⟨k, ek⟩ := hb _ _ _ _ e1
    subst ek
    rw [e1] at h
    intro g1 v hS ok1 st1 r1
    have r1' : g1.Rep K (.bl k) v := r1
    cases r1'
    exact ⟨k, rfl, h g1 k hS ok1 st1 rfl⟩
theorem semC_bl {o : Cop} {x y r : Rv} (h : semC o x y = some r) : ∃ k, r = .val (.bl k) := by
  unfold semC at h
  obtain ⟨k, _, e⟩ := Option.map_eq_some_iff.mp h
  exact ⟨k, e.symm⟩
theorem bind_ok {α β : Type} {r : Res α} {k : α → Sto → Res β} {b : β} {S : Sto} (h : r.bind k = .ok b S) : ∃ a S', r = .ok a S' ∧ k a S' = .ok b S := by
  cases r with
  | ok a S' => exact ⟨a, S', rfl, h⟩
  | exc _ _ => cases h
  | stuck => cases h
theorem opt_ok {α : Type} {o : Option α} {S S' : Sto} {a : α} (h : Res.opt o S = .ok a S') : o = some a ∧ S = S' := by
  cases o with
  | none => cases h
  | some b => cases h; exact ⟨rfl, rfl⟩
theorem s_cmp2 {op op' : CmpOp} {o o' : Cop} (hu : X.A.units + 65 < cLine) (hmm : behindInMarks op' c = false) (ho : o.op = op) (ho' : o'.op = op') (ha : PE X a (rdE X.K E fa)) (hb : PE X b (rdE X.K E fb)) (hc : PE X c (rdE X.K E fc)) :
    PE X (.Compare a [op, op'] [b, c] pos) (rdE X.K E fun sl S => (fa sl S).bind fun x S1 => (fb sl S1).bind fun y S2 => (Res.opt (opCmp o x y) S2).bind fun k S3 => if k then (fc sl S3).bind fun z S4 => Res.opt (semC o' y z) S4 else .ok (.val (.bl false)) S3) ∧
    PT X (.Compare a [op, op'] [b, c] pos) (rdT X.K E fun sl S => Res.truth ((fa sl S).bind fun x S1 => (fb sl S1).bind fun y S2 => (Res.opt (opCmp o x y) S2).bind fun k S3 => if k then (fc sl S3).bind fun z S4 => Res.opt (semC o' y z) S4 else .ok (.val (.bl false)) S3)) := by
  subst ho ho'
  have hm : lastMarks [o.op, o'.op] [b, c] = false := by
    show behindInMarks o'.op c = false
    exact hmm
  refine ⟨PE.imp (pe_chain (op_cmpS hu o) (op_cmpS hu o') ha hb hc hm) fun σ H Q h => chain_read h, PT.imp (pt_chain (op_cmpS hu o) (op_cmpS hu o') ha hb hc hm) fun σ H Q h => chain_read (rd_boolE (fun sl S r S' h => ?_) h)⟩
  obtain ⟨x, S1, _, h⟩ := bind_ok h
  obtain ⟨y, S2, _, h⟩ := bind_ok h
  obtain ⟨k, S3, _, h⟩ := bind_ok h
  split at h
  · obtain ⟨z, S4, _, h⟩ := bind_ok h
    exact semC_bl (opt_ok h).1
  · cases h; exact ⟨false, rfl⟩
theorem s_ifeT (hc : PT X c (rdT X.K E fun sl S => (fc sl S).truth)) (ha : PT X a (rdT X.K E fun sl S => (fa sl S).truth)) (hb : PT X b (rdT X.K E fun sl S => (fb sl S).truth)) :
    PT X (.IfExp c a b pos) (rdT X.K E fun sl S => Res.truth ((fc sl S).truth.bind fun k S1 => if k then fa sl S1 else fb sl S1)) := by
  refine ⟨fun pins s σ H Q I ⟨g0, g, sl, e, ok, so, h⟩ => ?_⟩
  subst e
  show wpAny _ X.A (do if ← isTrue c X.env (eval c X.env) then isTrue a X.env (eval a X.env) else isTrue b X.env (eval b X.env)) _ _ s
  have h' : Post X.K (E σ) (fun _ _ a (b : Bool) => b = a) g ((fc sl g.S).truth.bind fun k S1 => Res.truth (if k then fa sl S1 else fb sl S1)) Q := by
    dsimp only at h
    unfold Res.truth at h ⊢
    rw [Res.bind_assoc] at h
    exact h
  refine wpAny_bind (thn (hc.run pins s σ g.H (fun k H1 => if k = true then rdT X.K E (fun sl S => (fa sl S).truth) σ H1 Q else rdT X.K E (fun sl S => (fb sl S).truth) σ H1 Q) I ⟨g0, g, sl, rfl, ok, so, Post.bind h' fun g1 k v ok1 st1 r1 h1 => ?_⟩) fun k s1 ⟨H1, I1, q1⟩ => ?_)
  · subst r1
    cases v with
    | true => exact ⟨g0, g1, sl, rfl, ok1, so.step st1, Post.shiftT h1 st1⟩
    | false => exact ⟨g0, g1, sl, rfl, ok1, so.step st1, Post.shiftT h1 st1⟩
  · cases k with
    | true => exact ha.run pins s1 σ H1 Q I1 q1
    | false => exact hb.run pins s1 σ H1 Q I1 q1
end
end Px
set_option Elab.async false
set_option linter.all false
set_option maxRecDepth 100000
set_option maxHeartbeats 1000000
namespace Px
open PySem PySem.Spec PyProof.Rows L2
section
variable {X : Cx} {F : Cf} {fns gls : List String} {n : Nat} {E : L2.St → XK} {a b c e : Expr} {fa fb fc : Slots → Sto → Res Rv} {pos : Pos}
theorem sto_get {K : PySem.W.Frag} {g : Gh} {j : Nat} {v : V} {c : Cn} (ok : Gok K g) (r : g.Rep K (.ref j) v) (h : g.S[j]? = some c) : ∃ a o, v = .ref a ∧ g.sa[j]? = some a ∧ g.H a = some o ∧ g.SRep K a c o ∧ g.R a = none := by
  cases r with | ref ra =>
  obtain ⟨o, h1, h2, h3⟩ := ok.sto j _ c ra h
  exact ⟨_, o, rfl, ra, h1, h2, h3⟩
theorem Rep.lookS {K : PySem.W.Frag} {g : Gh} (ok : Gok K g) {d : D} {v : V} (h : LookR K g d v) : LookR K g (d.lookS g.S) v := by
  cases d with
  | ref i =>
    unfold D.lookS
    dsimp only
    cases e : g.S[i]? with
    | none => exact h
    | some c =>
      cases c with
      | dic kvs => exact h
      | dit kvs => exact h
      | err kvs => exact h
      | lst xs =>
      obtain ⟨a, o, rfl, h1, h2, h3, h4⟩ := sto_get ok (show g.Rep K (.ref i) v from h) e
      obtain ⟨l, vs, rfl, r⟩ := h3
      exact ⟨a, vs, rfl, h2, l, r⟩
  | _ => exact h
theorem RvR.lookRS {K : PySem.W.Frag} {g g' : Gh} (ok : Gok K g') {r : Rv} {v : V} (h : RvR K g g' r v) : LookR K g' (r.lookS g'.S) v := Rep.lookS ok (h.lookR ok)
theorem s_opL {ex : Expr} {sem : D → D → Option Rv} (mk : ∀ {ta tb : TE}, PE X a ta → PE X b tb → PE X ex (tOp (rLk X.K E sem) ta tb)) (ha : PE X a (rdE X.K E fa)) (hb : PE X b (rdE X.K E fb)) :
    PE X ex (rdE X.K E fun sl S => (fa sl S).bind fun x S1 => (fb sl S1).bind fun y S2 => Res.opt (sem (x.lookS S2) (y.lookS S2)) S2) :=
  PE.imp (mk ha hb) fun σ H Q ⟨g0, g, sl, e, ok, so, h⟩ => by
    subst e
    refine ⟨g0, g, sl, rfl, ok, so, Post.bind h fun g1 x v ok1 st1 r1 h1 => ?_⟩
    refine ⟨g0, g1, sl, rfl, ok1, so.step st1, Post.bind (h1.shiftE st1) fun g2 y u ok2 st2 r2 h2 => ?_⟩
    exact ⟨g2, _, _, rfl, ok2, (r1.after st2).lookRS ok2, r2.lookRS ok2, (h2.shiftE st2).optE⟩
theorem s_ixr {x y : Ex} (hb : ∀ l u p, b ≠ .Slice l u none p) (ha : PE X a (rdE X.K E (evE F x))) (hi : PE X b (rdE X.K E (evE F y))) : PE X (.Subscript a b pos) (rdE X.K E (evE F (.ixr x y))) :=
  PE.imp (s_opL (sem := opIxD) (fun h1 h2 => pe_ix ix_L h1 h2 (plain_ix hb)) ha hi) fun σ H Q h => by
    obtain ⟨g0, g, sl, e, ok, so, h⟩ := h
    unfold evE at h
    exact ⟨g0, g, sl, e, ok, so, h⟩
theorem s_cmpr {op : CmpOp} {o : Cop} (hu : X.A.units + 65 < cLine) (hm : behindInMarks op b = false) (ho : o.op = op) (ha : PE X a (rdE X.K E fa)) (hb : PE X b (rdE X.K E fb)) :
    PE X (.Compare a [op] [b] pos) (rdE X.K E fun sl S => (fa sl S).bind fun x S1 => (fb sl S1).bind fun y S2 => Res.opt (semD o (x.lookS S2) (y.lookS S2)) S2) := by
  subst ho
  exact s_opL (fun h1 h2 => pe_cmpR (op_cmpL hu o) h1 h2 hm) ha hb
theorem s_cmprT {op : CmpOp} {o : Cop} (hu : X.A.units + 65 < cLine) (hm : behindInMarks op b = false) (ho : o.op = op) (ha : PE X a (rdE X.K E fa)) (hb : PE X b (rdE X.K E fb)) :
    PT X (.Compare a [op] [b] pos) (rdT X.K E fun sl S => Res.truth ((fa sl S).bind fun x S1 => (fb sl S1).bind fun y S2 => Res.opt (semD o (x.lookS S2) (y.lookS S2)) S2)) := by
  subst ho
  refine PT.imp (pt_cmpR (op_cmpL (E := E) hu o) ha hb hm) fun σ H Q ⟨g0, g, sl, e, ok, so, h⟩ => ?_
  subst e
  dsimp only at h
  refine ⟨g0, g, sl, rfl, ok, so, Post.bind (RS := fun _ _ a (b : Bool) => b = a) (γ := Bool) (k := fun x S1 => Res.truth ((fb sl S1).bind fun y S2 => Res.opt (semD o (x.lookS S2) (y.lookS S2)) S2)) (by
    cases e1 : fa sl g.S <;> rw [e1] at h <;> exact h) fun g1 x v ok1 st1 r1 h1 => ?_⟩
  refine ⟨g0, g1, sl, rfl, ok1, so.step st1, Post.bind (RS := fun _ _ a (b : Bool) => b = a) (γ := Bool) (k := fun y S2 => Res.truth (Res.opt (semD o (x.lookS S2) (y.lookS S2)) S2)) (by
    have h1 := Post.shiftT h1 st1
    cases e1 : fb sl g1.S <;> rw [e1] at h1 <;> exact h1) fun g2 y u ok2 st2 r2 h2 => ?_⟩
  refine ⟨g2, _, _, rfl, ok2, (r1.after st2).lookRS ok2, r2.lookRS ok2, ?_⟩
  cases e1 : semD o (x.lookS g2.S) (y.lookS g2.S) with
  | none => rw [e1] at h2; exact h2.elim
  | some r =>
    rw [e1] at h2
    unfold semD at e1
    obtain ⟨k, e2, e3⟩ := Option.map_eq_some_iff.mp e1
    subst e3
    intro g3 v3 hS ok3 st3 r3
    have r3' : g3.Rep X.K (.bl k) v3 := r3
    cases r3'
    exact ⟨k, rfl, (Post.shiftT h2 st2) g3 k hS ok3 st3 rfl⟩
/-- a new thing becomes a shared one -/
theorem RvR.share {K : PySem.W.Frag} {g g' : Gh} {c : Cn} {v : V} (ok : Gok K g') (st : Stp g g') (h : RvR K g g' (.fresh c) v) :
    ∃ g1 : Gh, g1.H = g'.H ∧ g1.S = g'.S ++ [c] ∧ Gok K g1 ∧ Stp g g1 ∧ g1.Rep K (.ref g'.S.length) v := by
  obtain ⟨a, o, rfl, h1, h2, h3, h4, h5⟩ := h
  have gr : Gro g' ⟨g'.H, g'.R, g'.sa ++ [a], g'.S ++ [c]⟩ := ⟨fun _ _ q => q, ⟨[a], rfl⟩⟩
  refine ⟨⟨g'.H, g'.R, g'.sa ++ [a], g'.S ++ [c]⟩, rfl, rfl, ⟨ok.sub, ?_, ?_, fun j b c' q1 q2 => ?_⟩, ⟨st.hp, st.dom, st.rr, st.rn, ?_, fun b m n => ?_⟩, .ref ?_⟩
  · show (g'.sa ++ [a]).length = (g'.S ++ [c]).length
    rw [List.length_append, List.length_append, ok.len]; rfl
  · show (g'.sa ++ [a]).Nodup
    rw [List.nodup_append]
    exact ⟨ok.nd, by simp, fun b hb d hd => by simp at hd; subst hd; exact fun z => h4 (z ▸ hb)⟩
  · have q1' : (g'.sa ++ [a])[j]? = some b := q1
    have q2' : (g'.S ++ [c])[j]? = some c' := q2
    by_cases hj : j < g'.sa.length
    · rw [List.getElem?_append_left hj] at q1'
      rw [List.getElem?_append_left (by rw [← ok.len]; exact hj)] at q2'
      obtain ⟨u, f1, f2, f3⟩ := ok.sto j b c' q1' q2'
      exact ⟨u, f1, gr.srep f2, f3⟩
    · have hjl : j < (g'.sa ++ [a]).length := (List.getElem?_eq_some_iff.mp q1').1
      have ej : j = g'.sa.length := by rw [List.length_append] at hjl; simp at hjl; omega
      subst ej
      rw [List.getElem?_append_right (Nat.le_refl _)] at q1'
      rw [List.getElem?_append_right (by rw [ok.len]; exact Nat.le_refl _)] at q2'
      rw [ok.len] at q2'
      simp at q1' q2'
      subst q1' q2'
      exact ⟨o, h1, (gr.crep h2).s, h3⟩
  · obtain ⟨t, q⟩ := st.sp
    exact ⟨t ++ [a], by show g'.sa ++ [a] = _; rw [q, List.append_assoc]⟩
  · have m' : b ∈ g'.sa ++ [a] := m
    rcases List.mem_append.mp m' with m' | m'
    · exact st.sn b m' n
    · have : b = a := by simpa using m'
      rw [this]; exact h5
  · show (g'.sa ++ [a])[g'.S.length]? = some a
    rw [← ok.len, List.getElem?_append_right (Nat.le_refl _)]
    simp
theorem s_shr {x : Ex} (ha : PE X a (rdE X.K E (evE F x))) : PE X a (rdE X.K E (evE F (.shr x))) :=
  PE.imp ha fun σ H Q ⟨g0, g, sl, e, ok, so, h⟩ => by
    subst e
    unfold evE at h
    refine ⟨g0, g, sl, rfl, ok, so, Post.bind h fun g1 r v ok1 st1 r1 h1 => ?_⟩
    split at h1
    · obtain ⟨g2, e1, e2, ok2, st2, r2⟩ := r1.share ok1 st1
      rw [← e1]
      exact h1 g2 v e2 ok2 st2 r2
    · exact h1.elim
/-- a shared list gets another content -/
theorem sto_set {K : PySem.W.Frag} {g : Gh} {j : Nat} {a : Addr} {xs ys : List D} {vs us : List V} (ok : Gok K g) (ra : g.sa[j]? = some a) (e' : g.S[j]? = some (.lst xs)) (h1 : g.H a = some (.lst vs)) (h3 : g.R a = none) (ru : g.Reps K ys us) (lu : ys.length ≤ sizeLine) :
    ∃ g1 : Gh, g1.H = upd g.H a (.lst us) ∧ g1.S = g.S.set j (.lst ys) ∧ Gok K g1 ∧ Stp g g1 ∧ g1.R = g.R ∧ g1.sa = g.sa := by
  have gr : Gro g ⟨upd g.H a (.lst us), g.R, g.sa, g.S.set j (.lst ys)⟩ := ⟨fun _ _ q => q, ⟨[], by simp⟩⟩
  have ha : a ∈ g.sa := List.mem_of_getElem? ra
  refine ⟨⟨upd g.H a (.lst us), g.R, g.sa, g.S.set j (.lst ys)⟩, rfl, rfl, ⟨fun b u q => ?_, ?_, ok.nd, fun k b c' p1 p2 => ?_⟩, ⟨fun b u q n => ?_, fun b q => ?_, fun _ _ q => q, fun _ q _ => q, ⟨[], by simp⟩, fun b m n => absurd m n⟩, rfl, rfl⟩
  · show upd g.H a (.lst us) b = some u
    rw [upd_ne (fun z : b = a => by rw [z] at q; exact absurd (h3.symm.trans q) (by simp))]
    exact ok.sub b u q
  · show g.sa.length = (g.S.set j (.lst ys)).length
    rw [List.length_set]; exact ok.len
  · have p2' : (g.S.set j (.lst ys))[k]? = some c' := p2
    have p1' : g.sa[k]? = some b := p1
    by_cases hk : j = k
    · subst hk
      rw [ra] at p1'
      cases p1'
      rw [List.getElem?_set_self (List.getElem?_eq_some_iff.mp e').1] at p2'
      cases p2'
      exact ⟨.lst us, upd_same, ⟨lu, us, rfl, gr.reps ru⟩, h3⟩
    · rw [List.getElem?_set_ne hk] at p2'
      obtain ⟨u, f1, f2, f3⟩ := ok.sto k b c' p1' p2'
      have hb : b ≠ a := fun z => by
        subst z
        obtain ⟨l1, m1⟩ := List.getElem?_eq_some_iff.mp ra
        obtain ⟨l2, m2⟩ := List.getElem?_eq_some_iff.mp p1'
        exact hk ((List.getElem_inj ok.nd).mp (m1.trans m2.symm))
      refine ⟨u, ?_, gr.srep f2, f3⟩
      show upd g.H a (.lst us) b = some u
      rw [upd_ne hb]; exact f1
  · show upd g.H a (.lst us) b = some u
    rw [upd_ne (fun z : b = a => n (z ▸ ha))]; exact q
  · have q' : upd g.H a (.lst us) b = none := q
    by_cases hb : b = a
    · subst hb; rw [upd_same] at q'; cases q'
    · rw [upd_ne hb] at q'; exact q'
/-- the shared list of a value -/
theorem refAt_ok {K : PySem.W.Frag} {g0 g : Gh} {r : Rv} {v : V} {j : Nat} {xs : List D} (ok : Gok K g) (h : RvR K g0 g r v) (e : refAt r g.S = some (j, xs)) :
    ∃ a vs, v = .ref a ∧ g.sa[j]? = some a ∧ g.S[j]? = some (.lst xs) ∧ g.H a = some (.lst vs) ∧ g.R a = none ∧ xs.length ≤ sizeLine ∧ g.Reps K xs vs := by
  unfold refAt at e
  split at e
  · split at e
    · rename_i k ys e1
      cases e
      obtain ⟨a, o, rfl, h1, h2, h3, h4⟩ := sto_get ok (show g.Rep K (.ref _) v from h) e1
      obtain ⟨l, vs, rfl, q⟩ := h3
      exact ⟨a, vs, rfl, h1, e1, h2, h4, l, q⟩
    · cases e
  · cases e
theorem reps_erase {K : PySem.W.Frag} {g : Gh} : ∀ {xs : List D} {vs : List V} (n : Nat), g.Reps K xs vs → g.Reps K (xs.eraseIdx n) (vs.eraseIdx n)
  | [], _, n, h => by cases h; exact .nil
  | d :: ds, _, 0, h => by cases h with | cons r t => exact t
  | d :: ds, _, n + 1, h => by cases h with | cons r t => exact .cons r (reps_erase n t)
theorem reps_dropLast {K : PySem.W.Frag} {g : Gh} {xs : List D} {vs : List V} (h : g.Reps K xs vs) : g.Reps K xs.dropLast vs.dropLast := by
  rw [List.dropLast_eq_take, List.dropLast_eq_take, ← h.length]
  exact h.take _
/-- a shared thing is a list now -/
theorem ref_list {K : PySem.W.Frag} {g0 g : Gh} {r : Rv} {v : V} (ok : Gok K g) (h : RvR K g0 g r v) (e : (refAt r g.S).isSome = true) : ∃ a vs, v = .ref a ∧ g.H a = some (.lst vs) := by
  obtain ⟨⟨j, xs⟩, e⟩ := Option.isSome_iff_exists.mp e
  obtain ⟨a, vs, ev, _, _, h2, _⟩ := refAt_ok ok h e
  exact ⟨a, vs, ev, h2⟩
theorem base_of {o : Expr} {m : Str} {env : Env} {w : Sem Value} (h : notCall o = true) : attributeBase o m env w = w := by
  cases o <;> first | rfl | exact Bool.noConfusion (show false = true from h)
theorem s_pop0 {m : Str} {ap cp : Pos} {x : Ex} (hm : m = sO "pop") (hl : (ap.endLine == cp.line) = true) (hc : notCall a = true) (ha : PE X a (rdE X.K E (evE F x))) : PE X (.Call (.Attribute a m ap) [] [] cp) (rdE X.K E (evE F (.popr x .no))) := by
  subst hm
  refine PE.imp (pe_bm0 PySem.F.plainAttrs_list PySem.F.slot_list_pop PySem.F.type_list_pop mt_pop ha (base_of hc) hl) fun σ H Q ⟨g0, g, sl, e, ok, so, h⟩ => ?_
  subst e
  unfold evE at h
  refine ⟨g0, g, sl, rfl, ok, so, Post.bind h fun g1 r v ok1 st1 r1 h1 => ?_⟩
  split at h1
  case isFalse => exact h1.elim
  rename_i hr
  obtain ⟨a0, vs0, ev, hv⟩ := ref_list ok1 r1 hr
  refine ⟨by rw [ev]; exact .inl ⟨rfl, vs0, SqL.of hv⟩, ?_⟩
  unfold evP at h1
  rw [Res.bind_ok] at h1
  split at h1
  case h_2 => exact h1.elim
  rename_i j xs er
  obtain ⟨a1, vs, e2, q1, q2, q3, q4, q5, q6⟩ := refAt_ok ok1 r1 er
  cases hp : popD xs none with
  | none => rw [hp] at h1; exact h1.elim
  | some p =>
    obtain ⟨d, ys⟩ := p
    rw [hp] at h1
    obtain ⟨d', hd, he⟩ := Option.map_eq_some_iff.mp (show xs.getLast?.map (fun x => (x, xs.dropLast)) = some (d, ys) from hp)
    cases he
    rw [List.getLast?_eq_getElem?] at hd
    obtain ⟨y, hy, ry⟩ := q6.get hd
    rw [q6.length] at hy
    obtain ⟨g2, p1, p2, p3, p4, p5, p6⟩ := sto_set ok1 q1 q2 q3 q4 (reps_dropLast q6) (by rw [List.length_dropLast]; omega)
    refine ⟨a1, vs, y, e2, rfl, q3, hy, ?_⟩
    rw [← p1]
    refine h1 g2 y p2 p3 (st1.trans p4) ?_
    exact p4.gro.rep ry
theorem s_pop1 {m : Str} {ap cp : Pos} {x y : Ex} (hm : m = sO "pop") (hl : (ap.endLine == cp.line) = true) (hc : notCall a = true) (hst : notStar b = true) (ha : PE X a (rdE X.K E (evE F x))) (hb : PE X b (rdE X.K E (evE F y))) :
    PE X (.Call (.Attribute a m ap) [b] [] cp) (rdE X.K E (evE F (.popr x (.yes y)))) := by
  subst hm
  have hs := star_cons (env := X.env) (es := []) hst
  refine PE.imp (pe_bm PySem.F.plainAttrs_list PySem.F.slot_list_pop PySem.F.type_list_pop mt_popAt ha (pa_cons hb pa_nil hs) (base_of hc) (by rw [hs]; rfl) hl hs (by rfl)) fun σ H Q ⟨g0, g, sl, e, ok, so, h⟩ => ?_
  subst e
  unfold evE at h
  refine ⟨g0, g, sl, rfl, ok, so, Post.bind h fun g1 r v ok1 st1 r1 h1 => ?_⟩
  split at h1
  case isFalse => exact h1.elim
  rename_i hr
  obtain ⟨a0, vs0, ev, hv⟩ := ref_list ok1 r1 hr
  refine ⟨by rw [ev]; exact .inl ⟨rfl, vs0, SqL.of hv⟩, g0, g1, sl, rfl, ok1, so.step st1, ?_⟩
  unfold evP at h1
  rw [Res.bind_assoc] at h1
  refine Post.int st1 h1 fun g2 k ok2 st2 h2 => ?_
  rw [Res.bind_ok] at h2
  have r2 := r1.after st2
  split at h2
  case h_2 => exact h2.elim
  rename_i j xs er
  obtain ⟨a1, vs, e2, q1, q2, q3, q4, q5, q6⟩ := refAt_ok ok2 r2 er
  cases hp : popD xs (some k) with
  | none => rw [hp] at h2; exact h2.elim
  | some p =>
    obtain ⟨d, ys⟩ := p
    rw [hp] at h2
    unfold popD at hp
    dsimp only at hp
    split at hp
    case isFalse => cases hp
    rename_i hk
    cases hi : ixN xs.length k with
    | none => rw [hi] at hp; cases hp
    | some i =>
      rw [hi] at hp
      obtain ⟨d', hd, he⟩ := Option.map_eq_some_iff.mp (show xs[i]?.map (fun x => (x, xs.eraseIdx i)) = some (d, ys) from hp)
      cases he
      obtain ⟨z, hz, rz⟩ := q6.get hd
      obtain ⟨g3, p1, p2, p3, p4, p5, p6⟩ := sto_set ok2 q1 q2 q3 q4 (reps_erase i q6) (by have := List.length_eraseIdx_le xs i; omega)
      refine ⟨a1, vs, k, i, z, e2, rfl, q3, hk.1, hk.2, by rw [← q6.length]; exact (ixN_seq hi).1, hz, ?_⟩
      rw [← p1]
      exact h2 g3 z p2 p3 ((st1.trans st2).trans p4) (p4.gro.rep rz)
theorem s_appr {m : Str} {ap cp : Pos} {x y : Ex} (hm : m = sO "append") (hl : (ap.endLine == cp.line) = true) (hc : notCall a = true) (hst : notStar b = true) (ha : PE X a (rdE X.K E (evE F x))) (hb : PE X b (rdE X.K E (evE F y))) :
    PE X (.Call (.Attribute a m ap) [b] [] cp) (rdE X.K E (evE F (.appr x y))) := by
  subst hm
  have hs := star_cons (env := X.env) (es := []) hst
  refine PE.imp (pe_bm PySem.F.plainAttrs_list PySem.F.slot_list_append PySem.F.type_list_append mt_append ha (pa_cons hb pa_nil hs) (base_of hc) (by rw [hs]; rfl) hl hs (by rfl)) fun σ H Q ⟨g0, g, sl, e, ok, so, h⟩ => ?_
  subst e
  unfold evE at h
  refine ⟨g0, g, sl, rfl, ok, so, Post.bind h fun g1 r v ok1 st1 r1 h1 => ?_⟩
  split at h1
  case isFalse => exact h1.elim
  rename_i hr
  obtain ⟨a0, vs0, ev, hv⟩ := ref_list ok1 r1 hr
  refine ⟨by rw [ev]; exact .inl ⟨rfl, vs0, SqL.of hv⟩, g0, g1, sl, rfl, ok1, so.step st1, ?_⟩
  refine Post.dataE st1 (so.step st1) h1 fun g2 d u ed ok2 st2 so2 r2 h2 => ?_
  have r1 := r1.after st2
  split at h2
  case h_2 => exact h2.elim
  rename_i j xs er
  obtain ⟨a1, vs, e2, q1, q2, q3, q4, q5, q6⟩ := refAt_ok ok2 r1 er
  split at h2
  case isFalse => exact h2.elim
  rename_i hz
  obtain ⟨g3, p1, p2, p3, p4, p5, p6⟩ := sto_set ok2 q1 q2 q3 q4 (q6.append (.one r2)) (by rw [List.length_append]; exact hz)
  refine ⟨a1, vs, u, e2, rfl, q3, by rw [← q6.length]; exact hz, ?_⟩
  rw [← p1]
  exact h2 g3 .non p2 p3 ((st1.trans st2).trans p4) .non
end
end Px
set_option Elab.async false
set_option linter.all false
set_option maxRecDepth 100000
set_option maxHeartbeats 1000000
namespace Px
open PySem PySem.Spec PyProof.Rows L2
section
variable {X : Cx} {F : Cf} {fns gls : List String} {n : Nat} {E : L2.St → XK} {a b tg : Expr} {pos : Pos}
theorem s_lenr (c : Ctx X F fns gls n E) {x : Ex} {nm : Str} {p : Pos} (hx : nm = sO "len") (hgl : X.env.scope.names.lookup nm = some .globalImplicit) (hst : notStar a = true) (ha : PE X a (rdE X.K E (evE F x))) :
    PE X (.Call (.Name nm p) [a] [] pos) (rdE X.K E (evE F (.lenr x))) := by
  subst hx
  refine PE.imp (pe_callB call_len_seq hgl (c.bl _ (by decide)) (by decide +kernel) (pa_cons ha pa_nil (star_cons hst)) (by decide +kernel) (by decide +kernel) (star_cons hst) (star_plain fun z hz => by cases hz)) fun σ H Q ⟨g0, g, sl, e, ok, so, h⟩ => ?_
  subst e
  unfold evE at h
  refine ⟨g0, g, sl, rfl, ok, so, Post.bind h fun g1 r v ok1 st1 r1 h1 => ?_⟩
  have l := r1.lookRS ok1
  generalize r.lookS g1.S = d at h1 l
  split at h1
  case h_2 => exact h1.elim
  obtain ⟨p, vs, rfl, h2, z, q⟩ := l.lst
  exact ⟨p, vs, rfl, .inl (SqL.of h2), by rw [← q.length]; exact h1 g1 _ rfl ok1 st1 (.int _)⟩
theorem s_tupr (c : Ctx X F fns gls n E) {x : Ex} {nm : Str} {p : Pos} (hx : nm = sO "tuple") (hgl : X.env.scope.names.lookup nm = some .globalImplicit) (hst : notStar a = true) (ha : PE X a (rdE X.K E (evE F x))) :
    PE X (.Call (.Name nm p) [a] [] pos) (rdE X.K E (evE F (.tupr x))) := by
  subst hx
  refine PE.imp (pe_callTy (T := "tuple") call_tuple_of hgl (c.bl _ (by decide)) (bi_boot .tuple) (pa_cons ha pa_nil (star_cons hst)) (bi_nn .tuple) (bi_nd .tuple) (star_cons hst) (star_plain fun z hz => by cases hz)) fun σ H Q ⟨g0, g, sl, e, ok, so, h⟩ => ?_
  subst e
  unfold evE at h
  refine ⟨g0, g, sl, rfl, ok, so, Post.bind h fun g1 r v ok1 st1 r1 h1 => ?_⟩
  have l := r1.lookRS ok1
  generalize r.lookS g1.S = d at h1 l
  split at h1
  case h_2 => exact h1.elim
  obtain ⟨p, vs, rfl, h2, z, q⟩ := l.lst
  exact ⟨p, vs, rfl, .inl ⟨SqL.of h2, Post.tup (h1.shiftE st1) ok1 rfl q z⟩⟩
theorem dnD_get (hi : Int) (m i : Nat) : (dnD hi m)[i]? = if i < m then some (.int (hi + (i : Int) * -1)) else none := by
  unfold dnD
  rw [List.getElem?_map]
  by_cases h : i < m
  · rw [if_pos h, List.getElem?_range h]; rfl
  · rw [if_neg h, List.getElem?_eq_none (by simpa using h)]; rfl
theorem itr_dn {K : PySem.W.Frag} {g g' : Gh} {hi : Int} {m : Nat} : ItR K g g' (dnD hi m) (Itc hi (-1) m) := fun g1 gr ok i => by
  rw [dnD_get]
  by_cases h : i < m
  · rw [if_pos h]
    refine ⟨fun d hd => ?_, fun q => by cases q⟩
    cases hd
    refine ⟨h, fun x H' y => ?_⟩
    obtain ⟨e1, e2⟩ := y
    subst e1 e2
    exact ⟨g1, rfl, rfl, ok, Stp.refl _, .int _⟩
  · rw [if_neg h]
    refine ⟨fun d q => ?_, fun _ => Nat.le_of_not_lt h⟩
    cases q
theorem i_rngd (c : Ctx X F fns gls n E) {x y : Ex} {nm : Str} {p p1 p2 : Pos} {kc : Nat} (hx : nm = sO "range") (hgl : X.env.scope.names.lookup nm = some .globalImplicit) (hst : notStar a = true) (hst2 : notStar b = true) (ha : PE X a (rdE X.K E (evE F x))) (hb : PE X b (rdE X.K E (evE F y))) :
    PI X tg (.Call (.Name nm p) [a, b, .UnaryOp .USub (.Constant (.int 1) kc p1) p2] [] pos) (rdI X.K E (evI F (.rngd x y))) := by
  subst hx
  have hm : PE X (.UnaryOp .USub (.Constant (.int 1) kc p1) p2) (tUn (rU fun i => .int (-i)) (tC (.int 1))) := pe_un un_neg pe_int
  refine PI.imp (pi_range3 hgl (c.bl _ (by decide)) (pa_cons ha (pa_cons hb (pa_cons hm pa_nil (star_cons rfl)) (star_cons hst2)) (star_cons hst)) (star_cons hst) (star_plain fun z hz => by
    simp only [List.mem_cons, List.not_mem_nil, or_false] at hz
    rcases hz with rfl | rfl
    · exact hst2
    · rfl)) fun σ H R ⟨g0, g, sl, e, ok, so, h⟩ => ?_
  subst e
  unfold evI at h
  refine ⟨g0, g, sl, rfl, ok, so, Post.int (Stp.refl g) h fun g1 i ok1 st1 h1 => ?_⟩
  refine ⟨g0, g1, sl, rfl, ok1, so.step st1, Post.int st1 h1 fun g2 j ok2 st2 h2 => ?_⟩
  split at h2
  case isFalse => exact h2.elim
  rename_i hb
  have hb' : (-(2 ^ 62) ≤ i ∧ i < 2 ^ 62) ∧ -(2 ^ 62) ≤ j ∧ j < 2 ^ 62 := by simpa [small62] using hb
  exact ⟨1, rfl, i, j, -1, (i - j).toNat, rfl, RgC.neg hb'.1.1 hb'.1.2 hb'.2.1 hb'.2.2, h2 g2 _ rfl ok2 (st1.trans st2) itr_dn⟩
end
end Px
set_option Elab.async false
set_option linter.all false
set_option maxRecDepth 100000
set_option maxHeartbeats 1000000
namespace Px
open PySem PySem.Spec PyProof.Rows L2
section
variable {K : PySem.W.Frag} {g g' : Gh}
/-- what a dict at a tells of y -/
def DGt (K : PySem.W.Frag) (w : World) (H : Hp) (a : Addr) (y : V) (r : Option V) : Prop :=
  DGet H a y r ∨ (∃ (kvs : List (Key × Int)) (k : Key), KDic K w a kvs ∧ y = kV k ∧ r = valV (kvs.map fun p => (p.1, V.int p.2)) k) ∨
  ∃ (xs : List (List Int × Addr × Value)) (kvs : List (List Key × V)) (k : List Int) (b : Addr), H a = some (DtI a xs) ∧ (a == sysModules) = false ∧ KTs K H kvs (xs.map upK) ∧ y = .ref b ∧ SqT K H b ((k.map Sum.inl).map kV) ∧ r = valV kvs (k.map Sum.inl)
theorem KvR.val {kvs : List (Key × D)} {vs : List (Key × V)} (r : g.KvR K kvs vs) (k : Key) :
    (valD kvs k = none ∧ valV vs k = none) ∨ ∃ d v, valD kvs k = some d ∧ valV vs k = some v ∧ g.Rep K d v := by
  induction r with
  | nil => exact .inl ⟨rfl, rfl⟩
  | @cons p q l1 l2 h t ih =>
    obtain ⟨h1, h2⟩ := h
    by_cases c : p.1 = k
    · refine .inr ⟨p.2, q.2, ?_, valV_pos (by rw [← h1]; exact c), h2⟩
      unfold valD
      rw [List.find?_cons_of_pos (by simpa using c)]
      rfl
    · have e1 : valD (p :: l1) k = valD l1 k := by
        unfold valD
        rw [List.find?_cons_of_neg (by simpa using c)]
      rw [e1, valV_neg (by rw [← h1]; exact c)]
      exact ih
theorem KvR.any {kvs : List (Key × D)} {vs : List (Key × V)} (r : g.KvR K kvs vs) (k : Key) : (kvs.any fun p => decide (p.1 = k)) = vs.any fun p => decide (p.1 = k) := by
  induction r with
  | nil => rfl
  | cons h t ih => rw [List.any_cons, List.any_cons, ih, h.1]
theorem KvR.mapP (k : Key) {d : D} {v : V} (h : g.Rep K d v) {kvs : List (Key × D)} {vs : List (Key × V)} (r : g.KvR K kvs vs) :
    g.KvR K (kvs.map fun p => if p.1 = k then (p.1, d) else p) (vs.map fun p => if p.1 = k then (p.1, v) else p) := by
  induction r with
  | nil => exact .nil
  | @cons p q l1 l2 h1 t ih =>
    refine .cons ?_ ih
    obtain ⟨h1, h2⟩ := h1
    dsimp only
    by_cases c : p.1 = k
    · rw [if_pos c, if_pos (by rw [← h1]; exact c)]
      exact ⟨h1, h⟩
    · rw [if_neg c, if_neg (by rw [← h1]; exact c)]
      exact ⟨h1, h2⟩
theorem KvR.snoc (k : Key) {d : D} {v : V} (h : g.Rep K d v) {kvs : List (Key × D)} {vs : List (Key × V)} (r : g.KvR K kvs vs) :
    g.KvR K (kvs ++ [(k, d)]) (vs ++ [(k, v)]) := by
  induction r with
  | nil => exact .cons ⟨rfl, h⟩ .nil
  | cons h1 t ih => exact .cons h1 ih
theorem KvR.put {kvs : List (Key × D)} {vs : List (Key × V)} (r : g.KvR K kvs vs) (k : Key) {d : D} {v : V} (h : g.Rep K d v) : g.KvR K (putD kvs k d) (putK vs k v) := by
  unfold putD putK
  rw [KvR.any r k]
  split
  · exact KvR.mapP k h r
  · exact KvR.snoc k h r
theorem kvR_ints : ∀ (kvs : List (Key × Int)), g.KvR K (kvs.map fun p => (p.1, .int p.2)) (kvs.map fun p => (p.1, V.int p.2))
  | [] => .nil
  | p :: r => .cons ⟨rfl, .int _⟩ (kvR_ints r)
theorem kOf_ok {d : D} {x : V} {k : Key} (l : LookR K g d x) (h : kOf d = some k) : x = kV k := by
  cases d with
  | int i => cases l.int; cases h; rfl
  | str i => cases l.str; cases h; rfl
  | _ => cases h
theorem dicOf_ok {w : World} (ok : Gok K g) {d : D} {x : V} {kvs : List (Key × D)} (l : LookR K g d x) (h : dicOfD d g.S = some kvs) :
    ∃ a vs, x = .ref a ∧ g.KvR K kvs vs ∧ ∀ k, DGt K w g.H a (kV k) (valV vs k) := by
  cases d with
  | dic l' =>
    cases h
    have l' : g.Rep K (.dic _) x := l
    cases l' with | dic a =>
    exact ⟨_, _, rfl, kvR_ints _, fun k => .inl (DGet.k (ok.sub _ _ a))⟩
  | ref i =>
    unfold dicOfD at h
    dsimp only at h
    split at h
    · rename_i l' e
      cases h
      obtain ⟨a, o, rfl, h1, h2, h3, h4⟩ := sto_get ok (show g.Rep K (.ref i) x from l) e
      obtain ⟨z, vs, rfl, q⟩ := h3
      exact ⟨a, vs, rfl, q, fun k => .inl (DGet.k h2)⟩
    · cases h
  | _ => cases h
theorem dInts_is : ∀ {xs : List D} {ns : List Int}, dInts xs = some ns → xs = ns.map D.int
  | [], ns, h => by cases h; rfl
  | .int i :: r, ns, h => by
    rw [dInts] at h
    obtain ⟨ms, h1, rfl⟩ := Option.map_eq_some_iff.mp h
    rw [dInts_is h1]; rfl
  | .non :: _, _, h => nomatch h
  | .bl _ :: _, _, h => nomatch h
  | .str _ :: _, _, h => nomatch h
  | .tup _ :: _, _, h => nomatch h
  | .lst _ :: _, _, h => nomatch h
  | .scr _ :: _, _, h => nomatch h
  | .dic _ :: _, _, h => nomatch h
  | .ref _ :: _, _, h => nomatch h
theorem kTo_ok {d : D} {x : V} {k : List Int} (l : LookR K g d x) (h : kTo d = some k) : ∃ b, x = .ref b ∧ SqT K g.R b (k.map V.int) := by
  cases d with
  | tup xs =>
    have h : dInts xs = some k := h
    rw [dInts_is h] at l
    exact rep_key (show g.Rep K (.tup (k.map D.int)) x from l)
  | _ => cases h
theorem tdicOf_dt (ok : Gok K g) {d : D} {x : V} {kvs : List (List Int × D)} (l : LookR K g d x) (h : tdicOf d g.S = some kvs) :
    ∃ (a : Addr) (xs : List (List Int × Addr × Value)) (kv : List (List Key × V)), x = .ref a ∧ g.H a = some (DtI a xs) ∧ KTs K g.H kv (xs.map upK) := by
  cases d with
  | ref i =>
    unfold tdicOf at h
    dsimp only at h
    split at h
    · rename_i l' e
      cases h
      obtain ⟨a, o, rfl, h1, h2, h3, h4⟩ := sto_get ok (show g.Rep K (.ref i) x from l) e
      obtain ⟨z, hd, xs, rfl, pr⟩ := h3
      obtain ⟨ws, hl, kt, hr⟩ := kti_kts ok.sub pr
      exact ⟨a, xs, _, rfl, h2, kt⟩
    · cases h
  | _ => cases h
theorem tdicOf_ok {w : World} (ok : Gok K g) {d : D} {x : V} {kvs : List (List Int × D)} (l : LookR K g d x) (h : tdicOf d g.S = some kvs) :
    ∃ a, x = .ref a ∧ ∀ (k : List Int) (b : Addr), SqT K g.R b (k.map V.int) → (valT kvs k = none ∧ DGt K w g.H a (.ref b) none) ∨ ∃ dd v, valT kvs k = some dd ∧ DGt K w g.H a (.ref b) (some v) ∧ g.Rep K dd v := by
  cases d with
  | ref i =>
    unfold tdicOf at h
    dsimp only at h
    split at h
    · rename_i l' e
      cases h
      obtain ⟨a, o, rfl, h1, h2, h3, h4⟩ := sto_get ok (show g.Rep K (.ref i) x from l) e
      obtain ⟨z, hd, xs, rfl, pr⟩ := h3
      obtain ⟨ws, hl, kt, hr⟩ := kti_kts ok.sub pr
      refine ⟨a, rfl, fun k b eb => ?_⟩
      have ek : SqT K g.H b ((k.map Sum.inl).map kV) := by
        rw [List.map_map]
        exact Px.SqT.mono eb ok.sub
      rcases ti_val k hl hr with ⟨q1, q2⟩ | ⟨dd, v, q1, q2, q3⟩
      · exact .inl ⟨q1, .inr (.inr ⟨xs, _, k, b, h2, hd, kt, rfl, ek, q2.symm⟩)⟩
      · exact .inr ⟨dd, v, q1, .inr (.inr ⟨xs, _, k, b, h2, hd, kt, rfl, ek, q2.symm⟩), q3⟩
    · cases h
  | _ => cases h
end
section
variable {X : Cx} {pins : List (Addr × Obj)} {σ : L2.St} {H : Hp} {s : Shared} {a : Addr} {y v : V} {u r : Value} {o : Option V} {A : Around} {E : Value → Shared → Prop}
theorem dg_typeIs (I : Inv X pins σ H s) (g : DGt X.K X.w H a y o) : s.TypeIs (.ref a) "dict" := by
  rcases g with g | ⟨kvs, k, kd, ey, l⟩ | ⟨xs, kvs, k, b, e, hd, kt, ey, eb, l⟩
  · exact dict_typeIs I g
  · obtain ⟨hd, vs, rel, dd⟩ := kd
    exact (dd X.prog s.heap I.kIn).typeIs
  · exact (dts_heap I (by rw [e, dtI_eq X.prog X.w]) kt).typeIs
theorem dg_getItem {Q : Value → Shared → Prop} (hu : A.units + 1 < cLine) (I : Inv X pins σ H s) (g : DGt X.K X.w H a y (some v)) (ry : RelV y u) (h : ∀ w' s', Inv X pins σ H s' → RelV v w' → Q w' s') :
    wpAny (model X.prog X.w) A (getItem (.ref a) u) Q E s := by
  rcases g with g | ⟨kvs, k, kd, ey, l⟩ | ⟨xs, kvs, k, b, e, hd, kt, ey, eb, l⟩
  · exact d_getItem hu I g ry h
  rotate_left
  · subst ey
    obtain rfl : u = Value.ref b := ry
    exact dts_getItem hu I (by rw [e, dtI_eq X.prog X.w]) kt eb l.symm h
  · subst ey
    obtain ⟨hd, vs, rel, dd⟩ := kd
    obtain ⟨w', hw, rw'⟩ := RelO.some_of (v := v) (o := valueAt vs k) (by rw [l]; exact rel.val k)
    exact wpAny_getItem_of (kV_is ry) (dd X.prog s.heap I.kIn).mapOf hw (h w' _ (I.tok _) rw')
theorem dg_in {Q : Value → Shared → Prop} (hu : A.units + 1 < cLine) (I : Inv X pins σ H s) (g : DGt X.K X.w H a y o) (ry : RelV y u) (h : ∀ s', Inv X pins σ H s' → Q (.bool o.isSome) s') :
    wpAny (model X.prog X.w) A (compareOp .In u (.ref a)) Q E s := by
  rcases g with g | ⟨kvs, k, kd, ey, l⟩ | ⟨xs, kvs, k, b, e, hd, kt, ey, eb, l⟩
  · exact d_in hu I g ry h
  rotate_left
  · subst ey
    obtain rfl : u = Value.ref b := ry
    exact dts_in hu I hd (by rw [e, dtI_eq X.prog X.w]) kt eb fun s' I' => by rw [← l]; exact h s' I'
  · subst ey
    obtain ⟨hd, vs, rel, dd⟩ := kd
    refine wpAny_in_of (kV_is ry) hd (dd X.prog s.heap I.kIn).mapOf ?_
    rw [← (rel.val k).isSome_eq, ← l]
    exact h _ (I.tok _)
theorem dg_notIn {Q : Value → Shared → Prop} (hu : A.units + 1 < cLine) (I : Inv X pins σ H s) (g : DGt X.K X.w H a y o) (ry : RelV y u) (h : ∀ s', Inv X pins σ H s' → Q (.bool (!o.isSome)) s') :
    wpAny (model X.prog X.w) A (compareOp .NotIn u (.ref a)) Q E s := by
  rcases g with g | ⟨kvs, k, kd, ey, l⟩ | ⟨xs, kvs, k, b, e, hd, kt, ey, eb, l⟩
  · exact d_notIn hu I g ry h
  rotate_left
  · subst ey
    obtain rfl : u = Value.ref b := ry
    exact dts_notIn hu I hd (by rw [e, dtI_eq X.prog X.w]) kt eb fun s' I' => by rw [← l]; exact h s' I'
  · subst ey
    obtain ⟨hd, vs, rel, dd⟩ := kd
    refine wpAny_notIn_of (kV_is ry) hd (dd X.prog s.heap I.kIn).mapOf ?_
    rw [← (rel.val k).isSome_eq, ← l]
    exact h _ (I.tok _)
theorem dg_get2 {d : V} {Q : Value → Shared → Prop} (hu : A.units + 1 < cLine) (I : Inv X pins σ H s) (g : DGt X.K X.w H a y o) (ry : RelV y u) (rd : RelV d r) (h : ∀ w' s', Inv X pins σ H s' → RelV (o.getD d) w' → Q w' s') :
    wpAny (model X.prog X.w) A (call (.builtin "dict.get") [.ref a, u, r]) Q E s := by
  rcases g with g | ⟨kvs, k, kd, ey, l⟩ | ⟨xs, kvs, k, b, e, hd, kt, ey, eb, l⟩
  · exact d_get2 hu I g ry rd h
  rotate_left
  · subst ey
    obtain rfl : u = Value.ref b := ry
    have dd := dts_heap I (by rw [e, dtI_eq X.prog X.w]) kt
    refine call_meetsIn PySem.F.slot_dict_get dd.typeIs PySem.F.entry_dict_get (PySem.F.args_dict_get_3 _ _ _) (meetsH_dict_get_default (tupleKind (mixKind X.prog X.w)) a b hd r) ⟨tupleKind_room_in1 hu, k.map Sum.inl, xs.map upK, keyS_of I eb, dd, h _ _ (I.tok _) ?_⟩
    rw [l]
    exact (kt.val (k.map Sum.inl)).getD rd
  · subst ey
    obtain ⟨hd, vs, rel, dd⟩ := kd
    have dd := dd X.prog s.heap I.kIn
    refine call_meetsIn PySem.F.slot_dict_get dd.typeIs PySem.F.entry_dict_get (PySem.F.args_dict_get_3 _ _ _) (meets_dict_get_default (mixKind X.prog X.w) a (kV_is ry) hd r) ⟨_, dd.mapOf, h _ _ (I.tok _) ?_⟩
    rw [l]
    exact (rel.val k).getD rd
/-- a is a dict -/
theorem dg_isD (I : Inv X pins σ H s) (d : DGt X.K X.w H a y o) : s.TypeIs (.ref a) "dict" ∧ ∀ b, Value.ref a = .ref b → ∃ ob, s.heap.get? b = some ob ∧ ob.dict = none := by
  refine ⟨dg_typeIs I d, fun b q => ?_⟩
  rcases d with d | ⟨kvs, k, kd, ey, l⟩ | ⟨xs, kvs, k, b', e, hd, kt, ey, eb, l⟩
  · exact dict_noDict I d b q
  rotate_left
  · cases q
    obtain ⟨ob, _, _, h1, h2, _⟩ := dts_heap I (by rw [e, dtI_eq X.prog X.w]) kt
    exact ⟨ob, h1, h2.2.1⟩
  · cases q
    obtain ⟨hd, vs, rel, dd⟩ := kd
    obtain ⟨ob, _, _, h1, h2, _⟩ := dd X.prog s.heap I.kIn
    exact ⟨ob, h1, h2.2.1⟩
end
section
variable {X : Cx} {F : Cf} {fns gls : List String} {n : Nat} {E : L2.St → XK} {a b c e : Expr} {fa fb fc : Slots → Sto → Res Rv} {pos : Pos}
/-- k in d, k not in d -/
def rHas (K : PySem.W.Frag) (E : L2.St → XK) (neg : Bool) : R2 := fun x y H Q => ∃ g d1 d2, g.H = H ∧ Gok K g ∧ LookR K g d1 x ∧ LookR K g d2 y ∧ Post K noE (RvR K) g (Res.opt ((hasX neg d1 d2 g.S).map fun b => .val (.bl b)) g.S) Q
def inOp (neg : Bool) : CmpOp := if neg then .NotIn else .In
theorem op_has (hu65 : X.A.units + 65 < cLine) (neg : Bool) : OpR X (compareOp (inOp neg)) (rHas X.K E neg) := by
  intro pins s σ H x y v u Q I rx ry h
  obtain ⟨g, d1, d2, e, ok, l1, l2, h⟩ := h
  subst e
  have hu : X.A.units + 1 < cLine := by omega
  unfold hasX at h
  cases et : tdicOf d2 g.S with
  | some kvs =>
    rw [et] at h
    cases ek : kTo d1 with
    | none => rw [ek] at h; exact h.elim
    | some k =>
      rw [ek] at h
      obtain ⟨b, rfl, eb⟩ := kTo_ok l1 ek
      obtain ⟨a, ey, hg⟩ := tdicOf_ok (w := X.w) ok l2 et
      subst ey
      obtain rfl : u = Value.ref a := ry
      obtain ⟨o, go, eo⟩ : ∃ o, DGt X.K X.w g.H a (.ref b) o ∧ o.isSome = (valT kvs k).isSome := by
        rcases hg k b eb with ⟨q1, q2⟩ | ⟨dd, v', q1, q2, _⟩
        · exact ⟨none, q2, by rw [q1]; rfl⟩
        · exact ⟨some v', q2, by rw [q1]; rfl⟩
      cases neg with
      | false =>
        refine dg_in hu I go rx fun s3 I3 => ⟨.bl o.isSome, g.H, I3, rfl, ?_⟩
        have h' : Post X.K noE (RvR X.K) g (.ok (.val (.bl (xor false (valT kvs k).isSome))) g.S) Q := h
        rw [Bool.false_xor, ← eo] at h'
        exact Post.val h' ok rfl (.bl _)
      | true =>
        refine dg_notIn hu I go rx fun s3 I3 => ⟨.bl (!o.isSome), g.H, I3, rfl, ?_⟩
        have h' : Post X.K noE (RvR X.K) g (.ok (.val (.bl (xor true (valT kvs k).isSome))) g.S) Q := h
        rw [Bool.true_xor, ← eo] at h'
        exact Post.val h' ok rfl (.bl _)
  | none =>
  rw [et] at h
  unfold hasD at h
  cases e1 : kOf d1 with
  | none => rw [e1] at h; exact h.elim
  | some k =>
    rw [e1] at h
    cases e2 : dicOfD d2 g.S with
    | none => rw [e2] at h; exact h.elim
    | some kvs =>
      rw [e2] at h
      have ex := kOf_ok l1 e1
      subst ex
      obtain ⟨a, vs, ey, kr, hg⟩ := dicOf_ok (w := X.w) ok l2 e2
      subst ey
      obtain rfl : u = Value.ref a := ry
      have eq : (valD kvs k).isSome = (valV vs k).isSome := by
        rcases KvR.val kr k with ⟨q1, q2⟩ | ⟨d, w, q1, q2, _⟩
        · rw [q1, q2]; rfl
        · rw [q1, q2]; rfl
      cases neg with
      | false =>
        refine dg_in hu I (hg k) rx fun s3 I3 => ⟨.bl (valV vs k).isSome, g.H, I3, rfl, ?_⟩
        have h' : Post X.K noE (RvR X.K) g (.ok (.val (.bl (xor false (valD kvs k).isSome))) g.S) Q := h
        rw [Bool.false_xor, eq] at h'
        exact Post.val h' ok rfl (.bl _)
      | true =>
        refine dg_notIn hu I (hg k) rx fun s3 I3 => ⟨.bl (!(valV vs k).isSome), g.H, I3, rfl, ?_⟩
        have h' : Post X.K noE (RvR X.K) g (.ok (.val (.bl (xor true (valD kvs k).isSome))) g.S) Q := h
        rw [Bool.true_xor, eq] at h'
        exact Post.val h' ok rfl (.bl _)
theorem s_has (hu : X.A.units + 65 < cLine) {neg : Bool} (hm : behindInMarks (inOp neg) b = false) (ha : PE X a (rdE X.K E fa)) (hb : PE X b (rdE X.K E fb)) :
    PE X (.Compare a [inOp neg] [b] pos) (rdE X.K E fun sl S => (fa sl S).bind fun x S1 => (fb sl S1).bind fun y S2 => Res.opt ((hasX neg x.look y.look S2).map fun b => .val (.bl b)) S2) :=
  PE.imp (pe_cmpR (op_has (E := E) hu neg) ha hb hm) fun σ H Q ⟨g0, g, sl, e, ok, so, h⟩ => by
    subst e
    refine ⟨g0, g, sl, rfl, ok, so, Post.bind h fun g1 x v ok1 st1 r1 h1 => ?_⟩
    refine ⟨g0, g1, sl, rfl, ok1, so.step st1, Post.bind (h1.shiftE st1) fun g2 y u ok2 st2 r2 h2 => ?_⟩
    exact ⟨g2, _, _, rfl, ok2, (r1.after st2).lookR ok2, r2.lookR ok2, (h2.shiftE st2).optE⟩
theorem s_hasT (hu : X.A.units + 65 < cLine) {neg : Bool} (hm : behindInMarks (inOp neg) b = false) (ha : PE X a (rdE X.K E fa)) (hb : PE X b (rdE X.K E fb)) :
    PT X (.Compare a [inOp neg] [b] pos) (rdT X.K E fun sl S => Res.truth ((fa sl S).bind fun x S1 => (fb sl S1).bind fun y S2 => Res.opt ((hasX neg x.look y.look S2).map fun b => .val (.bl b)) S2)) := by
  refine PT.imp (pt_cmpR (op_has (E := E) hu neg) ha hb hm) fun σ H Q ⟨g0, g, sl, e, ok, so, h⟩ => ?_
  subst e
  dsimp only at h
  refine ⟨g0, g, sl, rfl, ok, so, Post.bind (RS := fun _ _ a (b : Bool) => b = a) (γ := Bool) (k := fun x S1 => Res.truth ((fb sl S1).bind fun y S2 => Res.opt ((hasX neg x.look y.look S2).map fun b => .val (.bl b)) S2)) (by
    cases e1 : fa sl g.S <;> rw [e1] at h <;> exact h) fun g1 x v ok1 st1 r1 h1 => ?_⟩
  refine ⟨g0, g1, sl, rfl, ok1, so.step st1, Post.bind (RS := fun _ _ a (b : Bool) => b = a) (γ := Bool) (k := fun y S2 => Res.truth (Res.opt ((hasX neg x.look y.look S2).map fun b => .val (.bl b)) S2)) (by
    have h1 := Post.shiftT h1 st1
    cases e1 : fb sl g1.S <;> rw [e1] at h1 <;> exact h1) fun g2 y u ok2 st2 r2 h2 => ?_⟩
  refine ⟨g2, _, _, rfl, ok2, (r1.after st2).lookR ok2, r2.lookR ok2, ?_⟩
  cases e1 : hasX neg x.look y.look g2.S with
  | none => rw [e1] at h2; exact h2.elim
  | some k =>
    rw [e1] at h2
    intro g3 v3 hS ok3 st3 r3
    have r3' : g3.Rep X.K (.bl k) v3 := r3
    cases r3'
    exact ⟨k, rfl, (Post.shiftT h2 st2) g3 k hS ok3 st3 rfl⟩
/-- d[k] -/
def tDGt (K : PySem.W.Frag) (w : World) (td ty : TE) : TE := fun σ H Q => td σ H fun x H1 => ty σ H1 fun y H2 => ∃ a v, x = .ref a ∧ DGt K w H2 a y (some v) ∧ Q v H2
theorem pe_dgt {td ty : TE} (hu : X.A.units + 1 < cLine) (ho : PE X a td) (hi : PE X b ty) (hs : NoSl b) : PE X (.Subscript a b pos) (tDGt X.K X.w td ty) := by
  refine ⟨fun pins s σ H Q I h => ?_⟩
  refine subD_of PySem.F.slot_dict_getitem.lookup hs (thn (ho.run pins s σ H _ I h) fun u s1 ⟨x, H1, I1, rx, q1⟩ => thn (hi.run pins s1 σ H1 _ I1 q1) fun iv s2 ⟨y, H2, I2, ry, a, v, ex, g, q2⟩ => ?_)
  subst ex
  obtain rfl : u = Value.ref a := rx
  exact ⟨dg_typeIs I2 g, dg_getItem hu I2 g ry fun w' s3 I3 rw' => ⟨v, H2, I3, rw', q2⟩⟩
theorem noSl_of (h : ∀ l u s p, b ≠ .Slice l u s p) : NoSl b := by
  intro ov iv
  cases b <;> first | rfl | exact absurd rfl (h _ _ _ _)
theorem s_dat {x y : Ex} (hu : X.A.units + 1 < cLine) (hb : ∀ l u s p, b ≠ .Slice l u s p) (ha : PE X a (rdE X.K E (evE F x))) (hi : PE X b (rdE X.K E (evE F y))) : PE X (.Subscript a b pos) (rdE X.K E (evE F (.dat x y))) :=
  PE.imp (pe_dgt hu ha hi (noSl_of hb)) fun σ H Q ⟨g0, g, sl, e, ok, so, h⟩ => by
    subst e
    unfold evE at h
    refine ⟨g0, g, sl, rfl, ok, so, Post.bind h fun g1 x v ok1 st1 r1 h1 => ?_⟩
    refine ⟨g0, g1, sl, rfl, ok1, so.step st1, Post.bind (h1.shiftE st1) fun g2 y u ok2 st2 r2 h2 => ?_⟩
    unfold atX at h2
    cases et : tdicOf x.look g2.S with
    | some kvs =>
      rw [et] at h2
      cases ek : kTo y.look with
      | none => rw [ek] at h2; exact h2.elim
      | some k =>
        rw [ek] at h2
        obtain ⟨b', eb1, eb⟩ := kTo_ok (r2.lookR ok2) ek
        obtain ⟨a, ey, hg⟩ := tdicOf_ok (w := X.w) ok2 ((r1.after st2).lookR ok2) et
        have h2 : Post X.K (E σ) (RvR X.K) _ (Res.opt ((valT kvs k).map .val) _) Q := h2
        rcases hg k b' eb with ⟨q1, q2⟩ | ⟨dd, v', q1, q2, q3⟩
        · rw [q1] at h2; exact h2.elim
        · rw [q1] at h2
          exact ⟨a, v', ey, by rw [eb1]; exact q2, Post.val (h2.shiftE st2) ok2 rfl q3⟩
    | none =>
    rw [et] at h2
    unfold atD at h2
    cases e1 : kOf y.look with
    | none => rw [e1] at h2; exact h2.elim
    | some k =>
      rw [e1] at h2
      cases e2 : dicOfD x.look g2.S with
      | none => rw [e2] at h2; exact h2.elim
      | some kvs =>
        rw [e2] at h2
        have eu := kOf_ok (r2.lookR ok2) e1
        obtain ⟨a, vs, ev, kr, hg⟩ := dicOf_ok (w := X.w) ok2 ((r1.after st2).lookR ok2) e2
        dsimp only at h2
        rcases KvR.val kr k with ⟨q1, q2⟩ | ⟨d, w, q1, q2, q3⟩
        · rw [q1] at h2; exact h2.elim
        · rw [q1] at h2
          refine ⟨a, w, ev, by rw [eu, ← q2]; exact hg k, ?_⟩
          exact Post.val (h2.shiftE st2) ok2 rfl q3
/-- d.get(k, z) -/
def IsDc (K : PySem.W.Frag) (w : World) (H : Hp) (a : Addr) : Prop := (∃ y0 o0, DGt K w H a y0 o0) ∨ ∃ (xs : List (List Int × Addr × Value)) (kvs : List (List Key × V)), H a = some (DtI a xs) ∧ KTs K H kvs (xs.map upK)
theorem dc_isD {pins : List (Addr × Obj)} {σ : L2.St} {H : Hp} {s : Shared} {a : Addr} (I : Inv X pins σ H s) (d : IsDc X.K X.w H a) : s.TypeIs (.ref a) "dict" ∧ ∀ b, Value.ref a = .ref b → ∃ ob, s.heap.get? b = some ob ∧ ob.dict = none := by
  rcases d with ⟨y0, o0, d⟩ | ⟨xs, kvs, e, kt⟩
  · exact dg_isD I d
  · have dd := dts_heap I (by rw [e, dtI_eq X.prog X.w]) kt
    refine ⟨dd.typeIs, fun b q => ?_⟩
    cases q
    obtain ⟨ob, _, _, h1, h2, _⟩ := dd
    exact ⟨ob, h1, h2.2.1⟩
def tDGt2 (K : PySem.W.Frag) (w : World) (td ty tx : TE) : TE := fun σ H Q => td σ H fun x H1 => ∃ a, x = .ref a ∧ IsDc K w H1 a ∧ ty σ H1 fun y H2 => tx σ H2 fun z H3 => ∃ o, DGt K w H3 a y o ∧ Q (o.getD z) H3
theorem pe_dgt2 {td ty tx : TE} {apos cpos : Pos} (hu : X.A.units + 1 < cLine) (ho : PE X a td) (he : PE X b ty) (hf : PE X c tx) (m : M2 X a "get" apos b c cpos) : PE X (.Call (.Attribute a "get" apos) [b, c] [] cpos) (tDGt2 X.K X.w td ty tx) := by
  refine ⟨fun pins s σ H Q I h => ?_⟩
  refine wpAny_Call_method m.base m.few m.line PySem.F.plainAttrs_dict PySem.F.slot_dict_get PySem.F.type_dict_get (thn (ho.run pins s σ H _ I h) fun u s1 ⟨x, H1, I1, rx, a, ex, d, q1⟩ => ?_)
  subst ex
  obtain rfl : u = Value.ref a := rx
  obtain ⟨t1, t2⟩ := dc_isD I1 d
  refine ⟨t1, t2, ?_⟩
  rw [m.trees]
  refine Calls.callWith_builtin rfl (Calls.evalArgs_plain (Calls.spliced_cons (thn (he.run pins s1 σ H1 _ I1 q1) fun iv s2 ⟨y, H2, I2, ry, q2⟩ =>
    Calls.spliced_cons (thn (hf.run pins s2 σ H2 _ I2 q2) fun fv s3 ⟨z, H3, I3, rz, ov, g, q3⟩ => Calls.spliced_nil ?_))))
  exact dg_get2 hu I3 g ry rz fun w' s4 I4 rw' => ⟨_, H3, I4, rw', q3⟩
theorem s_dget {x y z : Ex} {m : Str} {ap cp : Pos} (hu : X.A.units + 1 < cLine) (hm : m = sO "get") (hl : (ap.endLine == cp.line) = true) (hc : notCall a = true) (hst : notStar b = true) (hst2 : notStar c = true)
    (ha : PE X a (rdE X.K E (evE F x))) (hb : PE X b (rdE X.K E (evE F y))) (hz : PE X c (rdE X.K E (evE F z))) : PE X (.Call (.Attribute a m ap) [b, c] [] cp) (rdE X.K E (evE F (.dget x y z))) := by
  subst hm
  have hs2 := star_cons (env := X.env) (es := []) hst2
  have hs1 := star_cons (env := X.env) (es := [c]) hst
  have tr : backTo cp (starEach [b, c] X.env) = [(false, eval b X.env), (false, eval c X.env)] := by
    rw [hs1, hs2]
    rfl
  refine PE.imp (pe_dgt2 hu ha hb hz ⟨base_of hc, by rw [tr]; rfl, hl, tr⟩) fun σ H Q ⟨g0, g, sl, e, ok, so, h⟩ => ?_
  subst e
  unfold evE at h
  refine ⟨g0, g, sl, rfl, ok, so, Post.bind h fun g1 x v ok1 st1 r1 h1 => ?_⟩
  split at h1
  case isFalse => exact h1.elim
  rename_i hd
  obtain ⟨a, ev, hdc⟩ : ∃ a, v = .ref a ∧ IsDc X.K X.w g1.H a := by
    unfold isDicX at hd
    cases et : tdicOf x.look g1.S with
    | some kvs =>
      obtain ⟨a, xs, kv, ea, e1, e2⟩ := tdicOf_dt ok1 (r1.lookR ok1) et
      exact ⟨a, ea, .inr ⟨xs, kv, e1, e2⟩⟩
    | none =>
      rw [et] at hd
      obtain ⟨kvs0, e0⟩ := Option.isSome_iff_exists.mp (show (dicOfD x.look g1.S).isSome = true from hd)
      obtain ⟨a, vs0, ev, kr0, hg0⟩ := dicOf_ok (w := X.w) ok1 (r1.lookR ok1) e0
      exact ⟨a, ev, .inl ⟨_, _, hg0 (.inl 0)⟩⟩
  refine ⟨a, ev, hdc, g0, g1, sl, rfl, ok1, so.step st1, Post.bind (h1.shiftE st1) fun g2 y u ok2 st2 r2 h2 => ?_⟩
  refine ⟨g0, g2, sl, rfl, ok2, (so.step st1).step st2, Post.data ((so.step st1).step st2) (h2.shiftE st2) fun g3 w w' ok3 st3 so3 rw' h3 => ?_⟩
  unfold getX at h3
  cases et : tdicOf x.look g3.S with
  | some kvs =>
    rw [et] at h3
    cases ek : kTo y.look with
    | none => rw [ek] at h3; exact h3.elim
    | some k =>
      rw [ek] at h3
      obtain ⟨b', eb1, eb⟩ := kTo_ok ((r2.after st3).lookR ok3) ek
      obtain ⟨a', ey, hg⟩ := tdicOf_ok (w := X.w) ok3 (((r1.after st2).after st3).lookR ok3) et
      rw [ev] at ey
      cases ey
      have h3' : Post X.K (E σ) (RvR X.K) g3 (.ok (.val ((valT kvs k).getD w)) g3.S) Q := Post.shiftE h3 st3
      rcases hg k b' eb with ⟨q1, q2⟩ | ⟨dd, v', q1, q2, q3⟩
      · refine ⟨none, by rw [eb1]; exact q2, ?_⟩
        rw [q1] at h3'
        exact Post.val h3' ok3 rfl rw'
      · refine ⟨some v', by rw [eb1]; exact q2, ?_⟩
        rw [q1] at h3'
        exact Post.val h3' ok3 rfl q3
  | none =>
  rw [et] at h3
  unfold getD2 at h3
  cases e1 : kOf y.look with
  | none => rw [e1] at h3; exact h3.elim
  | some k =>
    rw [e1] at h3
    cases e2 : dicOfD x.look g3.S with
    | none => rw [e2] at h3; exact h3.elim
    | some kvs =>
      rw [e2] at h3
      have eu := kOf_ok ((r2.after st3).lookR ok3) e1
      obtain ⟨a', vs, ev', kr, hg⟩ := dicOf_ok (w := X.w) ok3 (((r1.after st2).after st3).lookR ok3) e2
      rw [ev] at ev'
      cases ev'
      refine ⟨valV vs k, by rw [eu]; exact hg k, ?_⟩
      have h3' : Post X.K (E σ) (RvR X.K) g3 (.ok (.val ((valD kvs k).getD w)) g3.S) Q := Post.shiftE h3 st3
      rcases KvR.val kr k with ⟨q1, q2⟩ | ⟨d, w2, q1, q2, q3⟩
      · rw [q1] at h3'
        rw [q2]
        exact Post.val h3' ok3 rfl rw'
      · rw [q1] at h3'
        rw [q2]
        exact Post.val h3' ok3 rfl q3
/-- constant dicts -/
theorem op_hasK (hu65 : X.A.units + 65 < cLine) (neg : Bool) {kvs : List (Key × Int)} {a : Addr} (kd : KDic X.K X.w a kvs) :
    OpR X (compareOp (inOp neg)) (fun x y H Q => y = .ref a ∧ ∃ g d1, g.H = H ∧ Gok X.K g ∧ LookR X.K g d1 x ∧ Post X.K noE (RvR X.K) g (Res.opt ((hasD neg d1 (some (kvs.map fun p => (p.1, .int p.2)))).map fun b => .val (.bl b)) g.S) Q) := by
  intro pins s σ H x y v u Q I rx ry h
  obtain ⟨ey, g, d1, e, ok, l1, h⟩ := h
  subst e ey
  unfold hasD at h
  have hu : X.A.units + 1 < cLine := by omega
  cases e1 : kOf d1 with
  | none => rw [e1] at h; exact h.elim
  | some k =>
    rw [e1] at h
    have ex := kOf_ok l1 e1
    subst ex
    obtain rfl : u = Value.ref a := ry
    have kr := kvR_ints (K := X.K) (g := g) kvs
    have hg : DGt X.K X.w g.H a (kV k) (valV (kvs.map fun p => (p.1, V.int p.2)) k) := .inr (.inl ⟨kvs, k, kd, rfl, rfl⟩)
    generalize (kvs.map fun p => (p.1, V.int p.2)) = vs at kr hg
    generalize (kvs.map fun p => (p.1, D.int p.2)) = ks at kr h
    have eq : (valD ks k).isSome = (valV vs k).isSome := by
      rcases KvR.val kr k with ⟨q1, q2⟩ | ⟨d, w, q1, q2, _⟩
      · rw [q1, q2]; rfl
      · rw [q1, q2]; rfl
    cases neg with
    | false =>
      refine dg_in hu I hg rx fun s3 I3 => ⟨.bl (valV vs k).isSome, g.H, I3, rfl, ?_⟩
      have h' : Post X.K noE (RvR X.K) g (.ok (.val (.bl (xor false (valD ks k).isSome))) g.S) Q := h
      rw [Bool.false_xor, eq] at h'
      exact Post.val h' ok rfl (.bl _)
    | true =>
      refine dg_notIn hu I hg rx fun s3 I3 => ⟨.bl (!(valV vs k).isSome), g.H, I3, rfl, ?_⟩
      have h' : Post X.K noE (RvR X.K) g (.ok (.val (.bl (xor true (valD ks k).isSome))) g.S) Q := h
      rw [Bool.true_xor, eq] at h'
      exact Post.val h' ok rfl (.bl _)
theorem s_ghas (hu : X.A.units + 65 < cLine) {neg : Bool} {x : Str} {p : Pos} {v : V} {kvs : List (Key × Int)} {ad : Addr} (hm : behindInMarks (inOp neg) (.Name x p) = false) (ha : PE X a (rdE X.K E fa)) (hb : PE X (.Name x p) (tC v)) (ev : v = .ref ad) (kd : KDic X.K X.w ad kvs) :
    PE X (.Compare a [inOp neg] [.Name x p] pos) (rdE X.K E fun sl S => (fa sl S).bind fun x S1 => Res.opt ((hasD neg x.look (some (kvs.map fun p => (p.1, .int p.2)))).map fun b => .val (.bl b)) S1) :=
  PE.imp (pe_cmpR (op_hasK hu neg kd) ha hb hm) fun σ H Q ⟨g0, g, sl, e, ok, so, h⟩ => by
    subst e
    refine ⟨g0, g, sl, rfl, ok, so, Post.bind h fun g1 x v ok1 st1 r1 h1 => ?_⟩
    exact ⟨ev, g1, _, rfl, ok1, r1.lookR ok1, (h1.shiftE st1).optE⟩
theorem s_ghasT (hu : X.A.units + 65 < cLine) {neg : Bool} {x : Str} {p : Pos} {v : V} {kvs : List (Key × Int)} {ad : Addr} (hm : behindInMarks (inOp neg) (.Name x p) = false) (ha : PE X a (rdE X.K E fa)) (hb : PE X (.Name x p) (tC v)) (ev : v = .ref ad) (kd : KDic X.K X.w ad kvs) :
    PT X (.Compare a [inOp neg] [.Name x p] pos) (rdT X.K E fun sl S => Res.truth ((fa sl S).bind fun x S1 => Res.opt ((hasD neg x.look (some (kvs.map fun p => (p.1, .int p.2)))).map fun b => .val (.bl b)) S1)) := by
  refine PT.imp (pt_cmpR (op_hasK hu neg kd) ha hb hm) fun σ H Q ⟨g0, g, sl, e, ok, so, h⟩ => ?_
  subst e
  dsimp only at h
  refine ⟨g0, g, sl, rfl, ok, so, Post.bind (RS := fun _ _ a (b : Bool) => b = a) (γ := Bool) (k := fun x S1 => Res.truth (Res.opt ((hasD neg x.look (some (kvs.map fun p => (p.1, .int p.2)))).map fun b => .val (.bl b)) S1)) (by
    cases e1 : fa sl g.S <;> rw [e1] at h <;> exact h) fun g1 x v ok1 st1 r1 h1 => ?_⟩
  refine ⟨ev, g1, _, rfl, ok1, r1.lookR ok1, ?_⟩
  cases e1 : hasD neg x.look (some (kvs.map fun p => (p.1, .int p.2))) with
  | none => rw [e1] at h1; exact h1.elim
  | some k =>
    rw [e1] at h1
    intro g3 v3 hS ok3 st3 r3
    have r3' : g3.Rep X.K (.bl k) v3 := r3
    cases r3'
    exact ⟨k, rfl, (Post.shiftT h1 st1) g3 k hS ok3 st3 rfl⟩
theorem s_gat {x : Str} {p : Pos} {v : V} {kvs : List (Key × Int)} {ad : Addr} (hu : X.A.units + 1 < cLine) (hb : ∀ l u s p, b ≠ .Slice l u s p) (ho : PE X (.Name x p) (tC v)) (ev : v = .ref ad) (kd : KDic X.K X.w ad kvs) (hi : PE X b (rdE X.K E fb)) :
    PE X (.Subscript (.Name x p) b pos) (rdE X.K E fun sl S => (fb sl S).bind fun x S1 => Res.opt ((atD x.look (some (kvs.map fun p => (p.1, .int p.2)))).map .val) S1) :=
  PE.imp (pe_dgt hu ho hi (noSl_of hb)) fun σ H Q ⟨g0, g, sl, e, ok, so, h⟩ => by
    subst e
    refine ⟨g0, g, sl, rfl, ok, so, Post.bind h fun g1 y u ok1 st1 r1 h1 => ?_⟩
    unfold atD at h1
    cases e1 : kOf y.look with
    | none => rw [e1] at h1; exact h1.elim
    | some k =>
      rw [e1] at h1
      have eu := kOf_ok (r1.lookR ok1) e1
      have kr := kvR_ints (K := X.K) (g := g1) kvs
      have hg : DGt X.K X.w g1.H ad (kV k) (valV (kvs.map fun p => (p.1, V.int p.2)) k) := .inr (.inl ⟨kvs, k, kd, rfl, rfl⟩)
      dsimp only at h1
      rcases KvR.val kr k with ⟨q1, q2⟩ | ⟨d, w, q1, q2, q3⟩
      · rw [q1] at h1; exact h1.elim
      · rw [q1] at h1
        refine ⟨ad, w, ev, by rw [eu, ← q2]; exact hg, ?_⟩
        exact Post.val (h1.shiftE st1) ok1 rfl q3
/-- a new thing that is shared from its beginning -/
theorem Gok.newS {K : PySem.W.Frag} {g : Gh} (ok : Gok K g) {p : Addr} (hp : g.H p = none) {o : HO} {c : Cn} (hs : ∀ g' : Gh, Gro g g' → g'.SRep K p c o) :
    ∃ g1 : Gh, g1.H = upd g.H p o ∧ g1.S = g.S ++ [c] ∧ Gok K g1 ∧ Stp g g1 ∧ g1.Rep K (.ref g.S.length) (.ref p) := by
  obtain ⟨ok', st⟩ := ok.new hp o
  have h4 : p ∉ g.sa := ok.saTr hp
  have h3 : g.R p = none := ok.Rnone hp
  have gr : Gro g ⟨upd g.H p o, g.R, g.sa ++ [p], g.S ++ [c]⟩ := ⟨fun _ _ q => q, ⟨[p], rfl⟩⟩
  refine ⟨⟨upd g.H p o, g.R, g.sa ++ [p], g.S ++ [c]⟩, rfl, rfl, ⟨ok'.sub, ?_, ?_, fun j b c' q1 q2 => ?_⟩, ⟨st.hp, st.dom, st.rr, st.rn, ⟨[p], rfl⟩, fun b m n => ?_⟩, .ref ?_⟩
  · show (g.sa ++ [p]).length = (g.S ++ [c]).length
    rw [List.length_append, List.length_append, ok.len]; rfl
  · show (g.sa ++ [p]).Nodup
    rw [List.nodup_append]
    exact ⟨ok.nd, by simp, fun b hb d hd => by simp at hd; subst hd; exact fun z => h4 (z ▸ hb)⟩
  · have q1' : (g.sa ++ [p])[j]? = some b := q1
    have q2' : (g.S ++ [c])[j]? = some c' := q2
    by_cases hj : j < g.sa.length
    · rw [List.getElem?_append_left hj] at q1'
      rw [List.getElem?_append_left (by rw [← ok.len]; exact hj)] at q2'
      obtain ⟨u, f1, f2, f3⟩ := ok'.sto j b c' q1' q2'
      exact ⟨u, f1, Gro.srep (g := g.new p o) (g' := ⟨upd g.H p o, g.R, g.sa ++ [p], g.S ++ [c]⟩) ⟨fun _ _ q => q, ⟨[p], rfl⟩⟩ f2, f3⟩
    · have hjl : j < (g.sa ++ [p]).length := (List.getElem?_eq_some_iff.mp q1').1
      have ej : j = g.sa.length := by rw [List.length_append] at hjl; simp at hjl; omega
      subst ej
      rw [List.getElem?_append_right (Nat.le_refl _)] at q1'
      rw [List.getElem?_append_right (by rw [ok.len]; exact Nat.le_refl _)] at q2'
      rw [ok.len] at q2'
      simp at q1' q2'
      subst q1' q2'
      exact ⟨o, upd_same, hs _ gr, h3⟩
  · have m' : b ∈ g.sa ++ [p] := m
    rcases List.mem_append.mp m' with m' | m'
    · exact absurd m' n
    · have : b = p := by simpa using m'
      rw [this]; exact hp
  · show (g.sa ++ [p])[g.S.length]? = some p
    rw [← ok.len, List.getElem?_append_right (Nat.le_refl _)]
    simp
theorem s_dnew : PE X (.Dict [] [] pos) (rdE X.K E (evE F .dnew)) :=
  PE.imp pe_dnewK fun σ H Q ⟨g0, g, sl, e, ok, so, h⟩ => by
    subst e
    unfold evE at h
    intro p hp
    obtain ⟨g1, e1, e2, ok1, st1, r1⟩ := ok.newS hp (o := .dK []) (c := .dic []) fun g' _ => ⟨Nat.zero_le _, [], rfl, .nil⟩
    rw [← e1]
    exact h g1 _ e2 ok1 st1 r1
/-- a shared thing gets another content -/
theorem sto_setS {K : PySem.W.Frag} {g : Gh} {j : Nat} {a : Addr} {c : Cn} {o : HO} (ok : Gok K g) (ra : g.sa[j]? = some a) (h3 : g.R a = none) (hs : ∀ g' : Gh, Gro g g' → g'.SRep K a c o) :
    ∃ g1 : Gh, g1.H = upd g.H a o ∧ g1.S = g.S.set j c ∧ Gok K g1 ∧ Stp g g1 ∧ g1.R = g.R ∧ g1.sa = g.sa := by
  have gr : Gro g ⟨upd g.H a o, g.R, g.sa, g.S.set j c⟩ := ⟨fun _ _ q => q, ⟨[], by simp⟩⟩
  have ha : a ∈ g.sa := List.mem_of_getElem? ra
  have hjS : j < g.S.length := by rw [← ok.len]; exact (List.getElem?_eq_some_iff.mp ra).1
  refine ⟨⟨upd g.H a o, g.R, g.sa, g.S.set j c⟩, rfl, rfl, ⟨fun b u q => ?_, ?_, ok.nd, fun k b c' p1 p2 => ?_⟩, ⟨fun b u q n => ?_, fun b q => ?_, fun _ _ q => q, fun _ q _ => q, ⟨[], by simp⟩, fun b m n => absurd m n⟩, rfl, rfl⟩
  · show upd g.H a o b = some u
    rw [upd_ne (fun z : b = a => by rw [z] at q; exact absurd (h3.symm.trans q) (by simp))]
    exact ok.sub b u q
  · show g.sa.length = (g.S.set j c).length
    rw [List.length_set]; exact ok.len
  · have p2' : (g.S.set j c)[k]? = some c' := p2
    have p1' : g.sa[k]? = some b := p1
    by_cases hk : j = k
    · subst hk
      rw [ra] at p1'
      cases p1'
      rw [List.getElem?_set_self hjS] at p2'
      cases p2'
      exact ⟨o, upd_same, hs _ gr, h3⟩
    · rw [List.getElem?_set_ne hk] at p2'
      obtain ⟨u, f1, f2, f3⟩ := ok.sto k b c' p1' p2'
      have hb : b ≠ a := fun z => by
        subst z
        obtain ⟨l1, m1⟩ := List.getElem?_eq_some_iff.mp ra
        obtain ⟨l2, m2⟩ := List.getElem?_eq_some_iff.mp p1'
        exact hk ((List.getElem_inj ok.nd).mp (m1.trans m2.symm))
      refine ⟨u, ?_, gr.srep f2, f3⟩
      show upd g.H a o b = some u
      rw [upd_ne hb]; exact f1
  · show upd g.H a o b = some u
    rw [upd_ne (fun z : b = a => n (z ▸ ha))]; exact q
  · have q' : upd g.H a o b = none := q
    by_cases hb : b = a
    · subst hb; rw [upd_same] at q'; cases q'
    · rw [upd_ne hb] at q'; exact q'
/-- the shared dict of a value -/
theorem dicAt_ok {K : PySem.W.Frag} {g0 g : Gh} {r : Rv} {v : V} {j : Nat} {kvs : List (Key × D)} (ok : Gok K g) (h : RvR K g0 g r v) (e : dicAt r g.S = some (j, kvs)) :
    ∃ a vs, v = .ref a ∧ g.sa[j]? = some a ∧ g.H a = some (.dK vs) ∧ g.R a = none ∧ kvs.length ≤ sizeLine ∧ g.KvR K kvs vs := by
  unfold dicAt at e
  split at e
  · split at e
    · rename_i k ys e1
      cases e
      obtain ⟨a, o, rfl, h1, h2, h3, h4⟩ := sto_get ok (show g.Rep K (.ref _) v from h) e1
      obtain ⟨l, vs, rfl, q⟩ := h3
      exact ⟨a, vs, rfl, h1, h2, h4, l, q⟩
    · cases e
  · cases e
end
end Px
set_option Elab.async false
set_option linter.all false
set_option maxRecDepth 100000
set_option maxHeartbeats 1000000
namespace Px
open PySem PySem.Spec PyProof.Rows L2
section
variable {prog : Program} {w : World} {A : Around} {E : Value → Shared → Prop} {s : Shared}
/-- the next number and item, the tuple given out first still being held -/
theorem nextT_held {e it l T : Addr} {i : Nat} {its : Array Value} {x old : Value} {f : Bool} {oT : Obj} {Q : Option Value → Shared → Prop}
    (he : IsEnumHeld s.heap e it i old T f) (hT : s.heap.get? T = some oT) (hTe : T ≠ e) (hTi : T ≠ it) (hit : s.heap.IsTupleIter it l i) (hl : s.heap.IsTuple l its) (hx : its[i]? = some x) (hne : e ≠ it)
    (hQ : ∀ k, IsEnumHeld k e it ((i : Int) + 1) old T true → k.IsTupleIter it l (i + 1) → k.get? s.heap.objs.size = some { cls := .type "tuple", data := .seq #[.int i s.toks, x] } →
      (∀ b o, b ≠ e → b ≠ it → s.heap.get? b = some o → k.get? b = some o) → Q (some (.ref s.heap.objs.size)) { s with heap := k, toks := s.toks + 1 }) :
    wpAny (model prog w) A (pyNext (.ref e)) Q E s := by
  have ty : s.TypeIs (.ref e) "enumerate" := ⟨_, he, rfl⟩
  unfold pyNext
  refine wpAny_bind (wpAny_attempt (wpAny_callSpecial?_slot (name := Str.ofString "__next__") ty F.slot_enumerate_next (wpAny_call_entry F.slot_enumerate_next ty F.entry_enumerate_next (Q := fun v z => wpAny (model prog w) A (pure (some v)) Q E z) ?_ (F.args_enumerate_next_1 _))))
  obtain ⟨hp, g, d, tk, os⟩ := s
  show wpAny _ _ (field (.ref e) 2 >>= _) _ _ _
  refine wpAny_bind (wpAny_field he rfl (x := .ref it) rfl (wpAny_bind (wpAny_nextOf_tuple_item hit hl hx fun k1 q1 b1 => ?_)))
  replace b1 : Heap.SameBut it hp k1 := b1
  have e1 : IsEnumHeld k1 e it i old T f := (b1.2 e hne).trans he
  show wpAny _ _ (field (.ref e) 3 >>= _) _ _ ⟨k1, g, d, tk, os⟩
  refine wpAny_bind (wpAny_field e1 rfl (x := rawInt i) rfl ?_)
  show wpAny _ _ (field (.ref e) 4 >>= _) _ _ ⟨k1, g, d, tk, os⟩
  refine wpAny_bind (wpAny_field e1 rfl (x := .none) rfl ?_)
  show wpAny _ _ (mkInt i >>= _) _ _ ⟨k1, g, d, tk, os⟩
  refine wpAny_bind (wpAny_mkInt ?_)
  show wpAny _ _ (setField (.ref e) 3 (rawInt ((i : Int) + 1)) >>= _) _ _ ⟨k1, g, d, tk + 1, os⟩
  refine wpAny_bind (wpAny_setField_rec e1 (by simp) fun k2 e2 b2 => ?_)
  replace b2 : Heap.SameBut e k1 k2 := b2
  replace e2 : IsEnumHeld k2 e it ((i : Int) + 1) old T f := e2
  show wpAny _ _ (setField (.ref e) 4 .none >>= _) _ _ ⟨k2, g, d, tk + 1, os⟩
  refine wpAny_bind (wpAny_setField_rec e2 (by simp) fun k3 e3 b3 => ?_)
  replace b3 : Heap.SameBut e k2 k3 := b3
  replace e3 : IsEnumHeld k3 e it ((i : Int) + 1) old T f := e3
  show wpAny _ _ (newTuple [.int i tk, x] >>= _) _ _ ⟨k3, g, d, tk + 1, os⟩
  refine wpAny_bind (wpAny_newTuple ?_)
  have e4 : IsEnumHeld (k3.push { cls := .type "tuple", data := .seq #[.int i tk, x] }) e it ((i : Int) + 1) old T f := Heap.get?_push_of_some _ e3
  have sz : k3.objs.size = hp.objs.size := by rw [b3.1, b2.1, b1.1]
  have le : e < hp.objs.size := Heap.lt_size he
  have kp : ∀ b o, b ≠ e → b ≠ it → hp.get? b = some o → (k3.push { cls := .type "tuple", data := .seq #[.int i tk, x] }).get? b = some o := fun b o n1 n2 q =>
    Heap.get?_push_of_some _ ((b3.2 b n1).trans ((b2.2 b n1).trans ((b1.2 b n2).trans q)))
  have t4 : (k3.push { cls := .type "tuple", data := .seq #[.int i tk, x] }).get? hp.objs.size = some { cls := .type "tuple", data := .seq #[.int i tk, x] } := by rw [← sz]; exact Heap.get?_push_size _ rfl
  have q4 : (k3.push { cls := .type "tuple", data := .seq #[.int i tk, x] }).IsTupleIter it l (i + 1) := q1.at fun o q => Heap.get?_push_of_some _ ((b3.2 it hne.symm).trans ((b2.2 it hne.symm).trans q))
  generalize k3.push { cls := .type "tuple", data := .seq #[.int i tk, x] } = k4 at *
  show wpAny _ _ (Builtin.SmallTypes.ownedTupleIsFree (.ref e) >>= _) _ _ ⟨k4, g, d, tk + 1, os⟩
  rw [sz]
  refine wpAny_bind (wpAny_tupleHeld_enum (s := ⟨k4, g, d, tk + 1, os⟩) e4 (kp T oT hTe hTi hT) fun k5 e5 b5 => ?_)
  replace b5 : Heap.SameBut e k4 k5 := b5
  simp only [Bool.false_eq_true, if_false]
  refine wpAny_pure ⟨_, rfl, wpAny_pure ?_⟩
  exact hQ k5 e5 (q4.at fun o q => (b5.2 it hne.symm).trans q) ((b5.2 _ (Nat.ne_of_gt le)).trans t4) fun b o n1 n2 q => (b5.2 b n1).trans (kp b o n1 n2 q)
theorem nextT_held_end {e it l T : Addr} {i : Nat} {its : Array Value} {old : Value} {f : Bool} {Q : Option Value → Shared → Prop} (hh : A.handled = none)
    (he : IsEnumHeld s.heap e it i old T f) (hit : s.heap.IsTupleIter it l i) (hl : s.heap.IsTuple l its) (hx : its[i]? = none)
    (hQ : ∀ k, Heap.ExtBut it s.heap k → Q none { s with heap := k }) : wpAny (model prog w) A (pyNext (.ref e)) Q E s := by
  unfold pyNext
  have hT : s.TypeIs (.ref e) "enumerate" := ⟨_, he, rfl⟩
  refine wpAny_bind (wpAny_attempt (wpAny_callSpecial?_slot (name := Str.ofString "__next__") hT F.slot_enumerate_next (wpAny_call_entry F.slot_enumerate_next hT F.entry_enumerate_next ?_ (F.args_enumerate_next_1 _))))
  show wpAny _ _ (field (.ref e) 2 >>= _) _ _ _
  refine wpAny_bind (wpAny_field he rfl (x := .ref it) rfl (wpAny_bind (wpAny_nextOf_tuple_end hh hit hl hx fun h' x he' hx' => ?_)))
  obtain ⟨o, ho, hcl⟩ := hx'
  exact wpAny_bind (wpAny_isInstance (T := "StopIteration") (b := true) ⟨o, ho, hcl⟩ isSubtype_stop (wpAny_pure (hQ h' he')))
theorem nextT_end {e it l : Addr} {i : Nat} {its : Array Value} {old : Value} {Q : Option Value → Shared → Prop} (hh : A.handled = none)
    (he : IsEnum s.heap e it i old) (hit : s.heap.IsTupleIter it l i) (hl : s.heap.IsTuple l its) (hx : its[i]? = none)
    (hQ : ∀ k, Heap.ExtBut it s.heap k → Q none { s with heap := k }) : wpAny (model prog w) A (pyNext (.ref e)) Q E s := by
  unfold pyNext
  have hT : s.TypeIs (.ref e) "enumerate" := ⟨_, he, rfl⟩
  refine wpAny_bind (wpAny_attempt (wpAny_callSpecial?_slot (name := Str.ofString "__next__") hT F.slot_enumerate_next (wpAny_call_entry F.slot_enumerate_next hT F.entry_enumerate_next ?_ (F.args_enumerate_next_1 _))))
  show wpAny _ _ (field (.ref e) 2 >>= _) _ _ _
  refine wpAny_bind (wpAny_field he rfl (x := .ref it) rfl (wpAny_bind (wpAny_nextOf_tuple_end hh hit hl hx fun h' x he' hx' => ?_)))
  obtain ⟨o, ho, hcl⟩ := hx'
  exact wpAny_bind (wpAny_isInstance (T := "StopIteration") (b := true) ⟨o, ho, hcl⟩ isSubtype_stop (wpAny_pure (hQ h' he')))
/-- how an enumerate stands behind i items, none of which is gone -/
def EnS (e it : Addr) (i : Nat) (k : Heap) : Prop := (∃ old, IsEnum k e it ((i : Nat) : Int) old) ∨ ∃ old T f oT, IsEnumHeld k e it ((i : Nat) : Int) old T f ∧ k.get? T = some oT ∧ T ≠ e ∧ T ≠ it
theorem nextT_item {e it l : Addr} {i : Nat} {its : Array Value} {x : Value} {Q : Option Value → Shared → Prop} (hh : A.handled = none)
    (he : EnS e it i s.heap) (hit : s.heap.IsTupleIter it l i) (hl : s.heap.IsTuple l its) (hx : its[i]? = some x) (hne : e ≠ it) (hle : e ≠ l) (hli : l ≠ it)
    (hQ : ∀ k t tk, EnS e it (i + 1) k → k.IsTupleIter it l (i + 1) → k.get? s.heap.objs.size = some { cls := .type "tuple", data := .seq #[.int i t, x] } →
      (∀ b o, b ≠ e → b ≠ it → s.heap.get? b = some o → k.get? b = some o) → Q (some (.ref s.heap.objs.size)) { s with heap := k, toks := tk }) :
    wpAny (model prog w) A (pyNext (.ref e)) Q E s := by
  have ci : ((i : Int) + 1) = ((i + 1 : Nat) : Int) := by omega
  have li : it < s.heap.objs.size := by obtain ⟨_, q, _⟩ := hit; exact Heap.lt_size q
  rcases he with ⟨old, he⟩ | ⟨old, T, f, oT, he, hT, n1, n2⟩
  · have le : e < s.heap.objs.size := Heap.lt_size he
    have hin : A.in1.handled = none := hh
    have lt : i < its.size := (Array.getElem?_eq_some_iff.mp hx).1
    refine wpAny_pyNext_enum_itemD (Draws.tuple (prog := prog) (w := w) hin it l hli its) he ⟨hit, hl⟩ lt hne (by simp [hne, hle]) fun y k tk hy ho hit' hT hsz hk => ?_
    obtain rfl : y = x := by
      have q : its[i]? = some y := hy
      rw [hx] at q
      exact (Option.some.inj q).symm
    rw [ci] at ho
    exact hQ k tk (tk + 1) (.inr ⟨_, _, _, _, ho, hT, Nat.ne_of_gt le, Nat.ne_of_gt li⟩) hit'.1 hT hk
  · refine nextT_held he hT n1 n2 hit hl hx hne fun k e' hit' hN hk => ?_
    rw [ci] at e'
    exact hQ k s.toks (s.toks + 1) (.inr ⟨_, _, _, _, e', hk _ _ n1 n2 hT, n1, n2⟩) hit' hN hk
theorem nextT_stop {e it l : Addr} {i : Nat} {its : Array Value} {Q : Option Value → Shared → Prop} (hh : A.handled = none)
    (he : EnS e it i s.heap) (hit : s.heap.IsTupleIter it l i) (hl : s.heap.IsTuple l its) (hx : its[i]? = none)
    (hQ : ∀ k, Heap.ExtBut it s.heap k → Q none { s with heap := k }) : wpAny (model prog w) A (pyNext (.ref e)) Q E s := by
  rcases he with ⟨old, he⟩ | ⟨old, T, f, oT, he, _⟩
  · exact nextT_end hh he hit hl hx hQ
  · exact nextT_held_end hh he hit hl hx hQ
end
theorem EnS.keep {e it S : Addr} {i : Nat} {k k' : Heap} (h : EnS e it i k) (hk : ∀ b o, b ≠ S → k.get? b = some o → k'.get? b = some o) (hS : ∃ o, k'.get? S = some o) (hne : e ≠ S) : EnS e it i k' := by
  rcases h with ⟨old, he⟩ | ⟨old, T, f, oT, he, hT, n1, n2⟩
  · exact .inl ⟨old, hk _ _ hne he⟩
  · by_cases c : T = S
    · obtain ⟨o, ho⟩ := hS
      exact .inr ⟨old, T, f, o, hk _ _ hne he, by rw [c]; exact ho, n1, n2⟩
    · exact .inr ⟨old, T, f, oT, hk _ _ hne he, hk _ _ c hT, n1, n2⟩
theorem take_snoc {xs : List D} {i : Nat} {d : D} (h : xs[i]? = some d) : (enumD xs).take (i + 1) = (enumD xs).take i ++ [.tup [.int (i : Int), d]] := by
  have : (enumD xs)[i]? = some (.tup [.int (i : Int), d]) := by rw [enumD_get, h]; rfl
  rw [List.take_succ, this]
  rfl
theorem enumD_len (xs : List D) : (enumD xs).length = xs.length := by unfold enumD; rw [List.length_map, List.length_zipIdx]
section
variable {X : Cx} {pins : List (Addr × Obj)} {σ : L2.St} {A : Around} {R : Result → Shared → Prop}
theorem extend_loop (hh : A.handled = none) {a e it S : Addr} {ds : List D} {xs : List V} {gb : Gh} {S0 : Sto} (hS0 : gb.H S = none) (nei : e ≠ it) (nea : e ≠ a) (nai : a ≠ it) (nse : S ≠ e) (nsi : S ≠ it) (hn : xs.length ≤ sizeLine)
    (hR : ∀ s' g' vs', Inv X pins σ g'.H s' → Gok X.K g' → Stp gb g' → g'.S = S0 → g'.H S = some (.lst vs') → g'.R S = none → S ∉ g'.sa → g'.Reps X.K (enumD ds) vs' → R (.ok (.ret .none)) s') :
    ∀ (k i : Nat) (s : Shared) (g : Gh) (vs : List V), xs.length - i = k → i ≤ xs.length → Inv X pins σ g.H s → Gok X.K g → Stp gb g → g.S = S0 → g.H S = some (.lst vs) → g.R S = none → S ∉ g.sa → SqT X.K g.R a xs → g.Reps X.K ds xs → g.Reps X.K ((enumD ds).take i) vs →
    EnS e it i s.heap → s.heap.IsTupleIter it a i → FpOk X pins g.H e → FpOk X pins g.H it →
    codeAny (model X.prog X.w) A (.builtin "list.extend.loop" ⟨[.ref S, .ref e, .none], []⟩) R s := by
  have hh1 : A.in1.handled = none := hh
  intro k
  induction k with
  | zero =>
    intro i s g vs hk hi I ok st eS hS hRS hsa hq rq ra en hit fe fi
    have hin : i = xs.length := by omega
    obtain ⟨its, rv, p, hz⟩ := I.tuple (SqT.mono hq ok.sub)
    have hl := rv.length
    refine codeAny_builtin F.entry_extend_loop ?_
    rw [Around.under_plainId F.plain_extend_loop _]
    show wpAny _ A.in1 (pyNext (.ref e) >>= _) _ _ s
    refine wpAny_bind (nextT_stop hh1 en hit p (by simp; omega) fun k' hk' => ?_)
    obtain ⟨f0, f1, f2, f3, f4, f5⟩ := fi
    have I2 : Inv X pins σ g.H { s with heap := k' } := I.turned (t' := s.toks) (fun b o hb q => hk' b o hb q) f0 f1 f3 f4 f5
    have ra' : g.Reps X.K (enumD ds) vs := by
      have e1 : (enumD ds).take i = enumD ds := List.take_of_length_le (by rw [enumD_len, rq.length]; omega)
      rw [e1] at ra
      exact ra
    exact wpAny_pure (hR _ g vs I2 ok st eS hS hRS hsa ra')
  | succ k ih =>
    intro i s g vs hk hi I ok st eS hS hRS hsa hq rq ra en hit fe fi
    have hlt : i < xs.length := by omega
    obtain ⟨its, rv, p, hz⟩ := I.tuple (SqT.mono hq ok.sub)
    have hx : xs[i]? = some xs[i] := List.getElem?_eq_getElem hlt
    obtain ⟨u, hu, ru⟩ := rv.get hx
    have ldx : ds.length = xs.length := rq.length
    have hd : ds[i]? = some ds[i] := List.getElem?_eq_getElem (by omega)
    obtain ⟨x', hx', rd⟩ := rq.get hd
    rw [hx] at hx'
    obtain rfl : xs[i] = x' := Option.some.inj hx'
    refine codeAny_builtin F.entry_extend_loop ?_
    rw [Around.under_plainId F.plain_extend_loop _]
    show wpAny _ A.in1 (pyNext (.ref e) >>= _) _ _ s
    refine wpAny_bind (nextT_item hh1 en hit p (x := u) (by simpa using hu) nei nea nai fun k' t tk en' hit' hN hk' => ?_)
    have hN0 : g.H s.heap.objs.size = none := I.hok.fresh (Nat.le_refl _)
    obtain ⟨g2, eH, eS2, ok2, st2, rN⟩ := new_pair ok hN0 (.int (i : Int)) rd
    have new : ObjOk X.prog X.w (upd g.H s.heap.objs.size (.tup [.int (i : Int), xs[i]])) k' s.heap.objs.size (.tup [.int (i : Int), xs[i]]) :=
      ⟨by show 2 ≤ sizeLine; rw [sizeLine_eq]; decide, [.int i t, u], .cons ⟨_, rfl⟩ (.cons ru .nil), ⟨_, hN, rfl, _, rfl⟩⟩
    have I1 : Inv X pins σ g2.H { s with heap := k', toks := tk } := by
      rw [eH]
      refine I.turnedNew (t' := tk) (ch := [e, it]) (fun b ob hb q => hk' b ob (fun z => hb (by simp [z])) (fun z => hb (by simp [z])) q) (fun b hb => ?_) (Nat.le_refl _) new
      rcases (show b = e ∨ b = it by simpa using hb) with z | z
      · rw [z]; exact fe
      · rw [z]; exact fi
    obtain ⟨hS2, hR2, hs2⟩ := st2.own hS hRS hsa
    obtain ⟨hz2, its2, c, rvs, hobj⟩ : ObjOk X.prog X.w g2.H k' S (.lst vs) := I1.hok S (.lst vs) hS2
    have lv : vs.length = i := by
      have := ra.length
      rw [List.length_take, enumD_len] at this
      omega
    have li := rvs.length
    have self := Heap.get?_update_self (Obj.mapSeq (·.push (Value.ref s.heap.objs.size))) hobj rfl
    have oth : ∀ b o, b ≠ S → k'.get? b = some o → (k'.update S (Obj.mapSeq (·.push (Value.ref s.heap.objs.size)))).get? b = some o := fun b o hb q => (Heap.get?_update_other _ _ (Ne.symm hb)).trans q
    have le1 : e < s.heap.objs.size := by
      rcases en with ⟨old, he⟩ | ⟨old, T, f, oT, he, _⟩ <;> exact Heap.lt_size he
    have le2 : it < s.heap.objs.size := by obtain ⟨_, q, _⟩ := hit; exact Heap.lt_size q
    have I2 : Inv X pins σ (g2.setH S (.lst (vs ++ [V.ref s.heap.objs.size]))).H { s with heap := k'.update S (Obj.mapSeq (·.push (Value.ref s.heap.objs.size))), toks := tk } := by
      refine I1.write (x := S) (e := S) (t' := tk) (by rw [hS2]; trivial) (.inl rfl) (fun b o hb q => oth b o hb q) ⟨_, self⟩ ?_
      refine ⟨by rw [List.length_append]; show vs.length + 1 ≤ _; omega, its2 ++ [.ref s.heap.objs.size], (if (its2.toArray.push (Value.ref s.heap.objs.size)).size == its2.toArray.size then c else c + 1), rvs.append (.cons (show RelV (V.ref s.heap.objs.size) (Value.ref s.heap.objs.size) from rfl) .nil), ?_⟩
      rw [← List.push_toArray]
      exact self
    show wpAny _ A.in1 (updateSeq S (·.push (Value.ref s.heap.objs.size)) >>= _) _ _ _
    refine wpAny_bind ?_
    refine wpAny_updateSeq hobj rfl (wpAny_pure ⟨plainId_quiet F.plain_extend_loop _, ih (i + 1) _ (g2.setH S (.lst (vs ++ [V.ref s.heap.objs.size]))) (vs ++ [V.ref s.heap.objs.size]) (by omega) hlt I2 (ok2.setH hR2 hs2) ((st.trans st2).setH hS0 hS2) (eS2.trans eS) upd_same hR2 hs2 ?_ ?_ ?_ ?_ ?_ ?_ ?_⟩) ?_ ?_
    · exact SqT.mono hq st2.gro.rr
    · exact (Gro.setH (Gro.refl g2)).reps (st2.gro.reps rq)
    · rw [take_snoc hd]
      exact (Gro.setH (Gro.refl g2)).reps ((st2.gro.reps ra).append (.one rN))
    · exact en'.keep oth ⟨_, self⟩ nse.symm
    · exact hit'.at fun o q => oth it o nsi.symm q
    · refine ⟨?_, fe.2⟩
      show upd g2.H S _ e = none
      rw [upd_ne nse.symm, eH, upd_ne (Nat.ne_of_lt le1)]
      exact fe.1
    · refine ⟨?_, fi.2⟩
      show upd g2.H S _ it = none
      rw [upd_ne nsi.symm, eH, upd_ne (Nat.ne_of_lt le2)]
      exact fi.1
    · simp; omega
    · show (its2.toArray.push _).size ≤ _
      rw [Array.size_push]
      simp
      omega
end
theorem enum_no_len : typeLookup (.type "enumerate") "__len__" = pure none := by rw [typeLookup_type, builtinLookup_eq_fast]; kernel_rfl
theorem enum_no_hint : typeLookup (.type "enumerate") "__length_hint__" = pure none := by rw [typeLookup_type, builtinLookup_eq_fast]; kernel_rfl
section
variable {prog : Program} {w : World} {A : Around} {E : Value → Shared → Prop} {s : Shared}
theorem call_list_enum {e it : Addr} {Q : Value → Shared → Prop} (he : IsEnum s.heap e it 0 .none)
    (hloop : ∀ k c, (∀ b o, s.heap.get? b = some o → k.get? b = some o) → k.get? s.heap.objs.size = some { cls := .type "list", dict := none, data := .seq #[] c, slots := #[] } →
      codeAny (model prog w) A.in1 (.builtin "list.extend.loop" ⟨[.ref s.heap.objs.size, .ref e, .none], []⟩) (wants (fun r s₂ => r = .none ∧ Q (.ref s.heap.objs.size) s₂) E) { s with heap := k }) :
    wpAny (model prog w) A (call (.type "list") [.ref e]) Q E s := by
  have le : e < s.heap.objs.size := Heap.lt_size he
  have nes : s.heap.objs.size ≠ e := Nat.ne_of_gt le
  refine callType_codes (Q₁ := fun ob z => ob = .ref s.heap.objs.size ∧ z = { s with heap := s.heap.push { cls := .type "list", data := .seq #[] } }) F.called_list (F.typeCall_list_1 _) F.entry_list_init
    (code_list_new _ ⟨rfl, rfl⟩) fun ob z hz => ?_
  obtain ⟨rfl, rfl⟩ := hz
  have o1 : (s.heap.push { cls := .type "list", data := .seq #[] }).get? s.heap.objs.size = some { cls := .type "list", data := .seq #[] } := Heap.get?_push_size _ rfl
  have k1 : ∀ b o, s.heap.get? b = some o → (s.heap.push { cls := .type "list", data := .seq #[] }).get? b = some o := fun b o q => Heap.get?_push_of_some _ q
  refine ⟨⟨_, o1, rfl⟩, F.args_list_init_2 _ _, ?_⟩
  generalize s.heap.push { cls := .type "list", data := .seq #[] } = h1 at *
  have other : ∀ (h : Heap) (f : Array Value → Array Value) b o, b ≠ s.heap.objs.size → h.get? b = some o → (h.update s.heap.objs.size (Obj.mapSeq f)).get? b = some o := fun h f b o hb q => (Heap.get?_update_other _ _ (Ne.symm hb)).trans q
  have old_ne : ∀ b o, s.heap.get? b = some o → b ≠ s.heap.objs.size := fun b o q => Nat.ne_of_lt (Heap.lt_size q)
  show wpAny _ A.in1.in1 (do let old ← Builtin.List.listItems (.ref s.heap.objs.size); Builtin.List.listUpdate (.ref s.heap.objs.size) (fun _ => #[]); letGo old.toList.reverse; Builtin.List.listExtendWith (.ref s.heap.objs.size) (.ref e) .none) _ _ _
  refine wpAny_bind ?_
  unfold Builtin.List.listItems
  refine wpAny_bind (wpAny_seqItems o1 rfl (wpAny_pure ?_))
  show wpAny _ A.in1.in1 (updateSeq s.heap.objs.size (fun _ => #[]) >>= fun _ => letGo (#[] : Array Value).toList.reverse >>= fun _ => Builtin.List.listExtendWith (.ref s.heap.objs.size) (.ref e) .none) _ _ _
  refine wpAny_bind (wpAny_updateSeq o1 rfl ?_)
  have o2 := Heap.get?_update_self (Obj.mapSeq (fun _ => (#[] : Array Value))) o1 rfl
  have k2 : ∀ b o, s.heap.get? b = some o → (h1.update s.heap.objs.size (Obj.mapSeq (fun _ => (#[] : Array Value)))).get? b = some o := fun b o q => other _ _ b o (old_ne b o q) (k1 b o q)
  generalize h1.update s.heap.objs.size (Obj.mapSeq (fun _ => (#[] : Array Value))) = h2 at *
  refine wpAny_bind (wpAny_letGo ?_)
  have ty : Shared.TypeIs { s with heap := h2 } (.ref e) "enumerate" := ⟨_, k2 _ _ he, rfl⟩
  unfold Builtin.List.listExtendWith
  refine wpAny_bind (wpAny_typeOf ty ?_)
  have x1 : Builtin.List.listSameRef (.ref s.heap.objs.size) (.ref e) = false := by simp [Builtin.List.listSameRef, nes]
  have x2 : (Value.type "enumerate" == Value.type "list") = false := by decide
  have x3 : (Value.type "enumerate" == Value.type "tuple") = false := by decide
  simp only [x1, x2, x3, Bool.or_false, Bool.false_eq_true, if_false]
  refine wpAny_bind (wpAny_pyIter_enum (k2 _ _ he) ?_)
  refine wpAny_bind (wpAny_holding ?_)
  unfold Builtin.List.listLengthHint
  refine wpAny_bind (wpAny_specialOf ty enum_no_len ?_)
  show wpAny _ A.in1.in1 (specialOf (Value.ref e) (Str.ofString "__length_hint__") >>= _) _ _ _
  refine wpAny_bind (wpAny_specialOf ty enum_no_hint ?_)
  refine wpAny_pure ?_
  show wpAny _ A.in1.in1 (rule "list.extend.makes-room" >>= fun _ => Builtin.List.listTouch (.ref s.heap.objs.size) >>= fun _ =>
    again (.builtin "list.extend.loop" ⟨[.ref s.heap.objs.size, .ref e, .none], []⟩)) _ _ _
  refine wpAny_bind (wpAny_rule (wpAny_bind ?_))
  show wpAny _ A.in1.in1 (updateSeq s.heap.objs.size (·.push .none) >>= fun _ => updateSeq s.heap.objs.size (·.pop)) _ _ _
  refine wpAny_bind (wpAny_updateSeq o2 rfl ?_)
  have o3 := Heap.get?_update_self (Obj.mapSeq (·.push Value.none)) o2 rfl
  refine wpAny_updateSeq (hz := by seq_fits) o3 rfl ?_
  have o4 := Heap.get?_update_self (Obj.mapSeq (·.pop)) o3 rfl
  refine wpAny_pure ⟨plainId_quiet F.plain_extend_loop _, hloop _ _ (fun b o q => other _ _ b o (old_ne b o q) (other _ _ b o (old_ne b o q) (k2 b o q))) o4⟩
end
section
variable {X : Cx} {F : Cf} {fns gls : List String} {n : Nat} {E : L2.St → XK} {a : Expr} {f : Slots → Sto → Res Rv} {pos : Pos}
theorem s_lenum (cx : Ctx X F fns gls n E) {nm nm2 : Str} {p p2 q : Pos} (hx : nm = sO "list") (hy : nm2 = sO "enumerate") (hgl : X.env.scope.names.lookup nm = some .globalImplicit) (hgl2 : X.env.scope.names.lookup nm2 = some .globalImplicit)
    (hst : notStar a = true) (ha : PE X a (rdE X.K E f)) : PE X (.Call (.Name nm p) [.Call (.Name nm2 p2) [a] [] q] [] pos) (rdE X.K E fun sl S => lenumR (f sl S)) := by
  subst hx hy
  refine ⟨fun pins s σ H Q I ⟨g0, g, sl, eg, ok, so, h⟩ => ?_⟩
  subst eg
  refine Call_ (ld_blt I hgl (cx.bl _ (by decide)) boot_list (PyProof.Rows.callWith_type1 (args_cons ?_ (star_cons rfl)) (star_cons rfl)))
  refine Call_ (ld_blt I hgl2 (cx.bl _ (by decide)) boot_enumerate (PyProof.Rows.callWith_type1 (thn ((pa_cons ha pa_nil (star_cons hst)).run q pins s σ g.H (fun vs H1 => ∃ g1 xs v, vs = [v] ∧ g1.H = H1 ∧ Gok X.K g1 ∧ Stp g g1 ∧ g1.Rep X.K (.tup xs) v ∧ Post X.K (E σ) (RvR X.K) g (.ok (.fresh (.lst (enumD xs))) g1.S) Q) I
    ⟨g0, g, sl, rfl, ok, so, Post.dataE (Stp.refl g) so h fun g1 d v ed ok1 st1 so1 r1 h1 => ?_⟩) fun us s1 ⟨vs, H1, I1, rl, g1, ds, v, ex, eH, ok1, st1, r, hP⟩ => ?_) (star_cons hst) rfl))
  · cases d with
    | tup xs => exact ⟨g1, xs, v, rfl, rfl, ok1, st1, r1, h1⟩
    | _ => exact h1.elim
  subst ex eH
  cases rl with
  | cons rr rl =>
  cases rl
  cases r with | tup q1 q2 q3 =>
  rename_i ad xs
  cases rr
  obtain ⟨its, rv, p', hz⟩ := I1.tuple (SqT.mono q1 ok1.sub)
  have la : ad < s1.heap.objs.size := by obtain ⟨_, q, _⟩ := id p'; exact Heap.lt_size q
  refine enT_call p' fun k1 he hit hsz hk => args_nil (call_list_enum he fun k2 c hk2 hS => ?_)
  have I2 : Inv X pins σ g1.H { s1 with heap := k1 } := I1.kept (t' := s1.toks) hk
  have hD : g1.H k1.objs.size = none := I2.hok.fresh (Nat.le_refl _)
  have I3 : Inv X pins σ (upd g1.H k1.objs.size (.lst [])) { s1 with heap := k2 } := I2.laid (t' := s1.toks) hk2 (Nat.le_refl _) ⟨Nat.zero_le _, [], c, .nil, hS⟩
  obtain ⟨ok2, st2⟩ := ok1.new hD (.lst [])
  have fp : ∀ b, s1.heap.objs.size ≤ b → b < k1.objs.size → FpOk X pins (g1.new k1.objs.size (.lst [])).H b := fun b h1 h2 => I1.fpOk h1 (by
    show upd g1.H k1.objs.size _ b = none
    rw [upd_ne (Nat.ne_of_lt h2)]
    exact I1.hok.fresh h1)
  refine extend_loop (X := X) (pins := pins) (σ := σ) (A := X.A.in1) (gb := g1) (S0 := g1.S) (ds := ds) (xs := xs) (a := ad) (e := s1.heap.objs.size + 1) (it := s1.heap.objs.size) (S := k1.objs.size) (I.ok.hd cx.calm) hD (Nat.succ_ne_self _) (Nat.ne_of_gt (Nat.lt_succ_of_lt la)) (Nat.ne_of_lt la) (by rw [hsz]; exact Nat.succ_ne_self _) (by rw [hsz]; exact Nat.ne_of_gt (Nat.lt_succ_of_lt (Nat.lt_succ_self _))) (by have := q3.length; omega) ?_
    (xs.length - 0) 0 _ (g1.new k1.objs.size (.lst [])) [] rfl (Nat.zero_le _) I3 ok2 st2 rfl upd_same (ok1.Rnone hD) (ok1.saTr hD) (SqT.mono q1 st2.gro.rr) (st2.gro.reps q3) .nil (.inl ⟨.none, hk2 _ _ he⟩) (hit.at fun o q => hk2 _ o q) (fp _ (by omega) (by omega)) (fp _ (by omega) (by omega))
  intro s' g' vs' I' ok' st' eS hS' hRS hsa ra
  exact ⟨rfl, .ref k1.objs.size, g'.H, I', rfl, hP g' (.ref k1.objs.size) eS ok' (st1.trans st') ⟨k1.objs.size, _, rfl, hS', ⟨by rw [enumD_len]; exact q2, vs', rfl, ra⟩, hRS, hsa, st1.dom _ hD⟩⟩
end
theorem KvR.keysR {K : PySem.W.Frag} {g : Gh} {kvs : List (Key × D)} {vs : List (Key × V)} (r : g.KvR K kvs vs) : g.Reps K (kvs.map fun p => kD p.1) (vs.map fun p => kV p.1) := by
  induction r with
  | nil => exact .nil
  | @cons p q l1 l2 h t ih =>
    refine .cons ?_ ih
    show g.Rep K (kD p.1) (kV q.1)
    rw [h.1]
    obtain ⟨k, v⟩ := q
    cases k with
    | inl i => exact .int i
    | inr x => exact .str x
section
variable {X : Cx} {F : Cf} {fns gls : List String} {n : Nat} {E : L2.St → XK} {a : Expr} {f : Slots → Sto → Res Rv} {pos : Pos}
theorem s_dnew1 {z : Int} {b : Bool} {j1 j2 : Nat} {p1 p2 : Pos} : PE X (.Dict [some (.Constant (.int z) j1 p1)] [.Constant (.bool b) j2 p2] pos) (rdE X.K E fun _ S => .ok (.val (.ref S.length)) (S ++ [.dic [(.inl z, .bl b)]])) :=
  PE.imp (pe_disp (pps_cons pe_int pe_bl pps_nil) rfl rfl (by simp) (by simp)) fun σ H Q ⟨g0, g, sl, e, ok, so, h⟩ => by
    subst e
    intro p hp
    refine ⟨upd_same, [(.inl z, V.bl b)], rfl, by simp, ?_⟩
    rw [upd_upd]
    obtain ⟨g1, e1, e2, ok1, st1, r1⟩ := ok.newS hp (o := .dK [(.inl z, V.bl b)]) (c := .dic [(.inl z, .bl b)]) fun g' _ => ⟨by show 1 ≤ sizeLine; rw [sizeLine_eq]; decide, [(.inl z, V.bl b)], rfl, .cons ⟨rfl, .bl b⟩ .nil⟩
    have := h g1 _ e2 ok1 st1 r1
    rw [e1] at this
    exact this
theorem s_dkeys (cx : Ctx X F fns gls n E) {nm : Str} {p : Pos} (hx : nm = sO "list") (hgl : X.env.scope.names.lookup nm = some .globalImplicit) (hst : notStar a = true) (ha : PE X a (rdE X.K E f)) :
    PE X (.Call (.Name nm p) [a] [] pos) (rdE X.K E fun sl S => (f sl S).bind fun r S1 => Res.opt ((keysD r.look S1).map fun l => .fresh (.lst l)) S1) := by
  subst hx
  refine PE.imp (pe_callTy (T := "list") (call_list_dK cx.calm) hgl (cx.bl _ (by decide)) (bi_boot .list) (pa_cons ha pa_nil (star_cons hst)) (bi_nn .list) (bi_nd .list) (star_cons hst) (star_plain fun z hz => by cases hz)) fun σ H Q ⟨g0, g, sl, e, ok, so, h⟩ => ?_
  subst e
  refine ⟨g0, g, sl, rfl, ok, so, Post.bind h fun g1 r v ok1 st1 r1 h1 => ?_⟩
  have l1 := r1.lookR ok1
  have h2 := h1.shiftE st1
  generalize r.look = d at h2 l1
  unfold keysD at h2
  split at h2
  · rename_i i
    split at h2
    · rename_i l e
      obtain ⟨ad, o, rfl, q1, q2, q3, q4⟩ := sto_get ok1 (show g1.Rep X.K (.ref i) v from l1) e
      obtain ⟨z, vs, rfl, q⟩ := q3
      refine ⟨ad, vs, rfl, q2, ?_⟩
      exact Post.fresh h2 ok1 rfl (KvR.keysR q) (by rw [List.length_map]; exact z)
    · exact h2.elim
  · exact h2.elim
end
/-- where a pair lies, where its key lies, the key, the thing -/
abbrev DpE := Addr × Addr × List Int × V
structure DpOk (K : PySem.W.Frag) (H : Hp) (t : DpE) : Prop where
  pr : SqT K H t.1 [.ref t.2.1, t.2.2.2]
  ky : SqT K H t.2.1 (t.2.2.1.map V.int)
structure DpV (t : DpE) (x : List Int × Addr × Value) : Prop where
  key : x.1 = t.2.2.1
  at_ : x.2.1 = t.2.1
  val : RelV t.2.2.2 x.2.2
def stAl (acc xs : List (List Int × Addr × Value)) : List (List Int × Addr × Value) := xs.foldl (fun acc x => stI acc x.1 x.2.1 x.2.2) acc
theorem stAl_up : ∀ (xs acc : List (List Int × Addr × Value)), (stAl acc xs).map upK = storedAllH (acc.map upK) (xs.map upK)
  | [], _ => rfl
  | x :: xs, acc => by
    have ih := stAl_up xs (stI acc x.1 x.2.1 x.2.2)
    rw [stI_up] at ih
    exact ih
theorem dp_len {ts : List DpE} {xs : List (List Int × Addr × Value)} (h : Paired DpV ts xs) : ts.length = xs.length := by
  induction h with
  | nil => rfl
  | cons _ _ ih => rw [List.length_cons, List.length_cons, ih]
theorem dp_mem {K : PySem.W.Frag} {H : Hp} {ts : List DpE} {xs : List (List Int × Addr × Value)} (h : Paired DpV ts xs) (ho : ∀ t ∈ ts, DpOk K H t) : ∀ x ∈ xs, SqT K H x.2.1 (x.1.map V.int) := by
  induction h with
  | nil => intro x hx; exact nomatch hx
  | cons h _ ih =>
    intro x hx
    rcases List.mem_cons.mp hx with rfl | hx
    · rw [h.key, h.at_]; exact (ho _ List.mem_cons_self).ky
    · exact ih (fun t ht => ho t (List.mem_cons_of_mem _ ht)) x hx
section
variable {X : Cx} {pins : List (Addr × Obj)} {σ : L2.St} {H : Hp} {s : Shared}
theorem dp_of (I : Inv X pins σ H s) : ∀ {ts : List DpE}, (∀ t ∈ ts, DpOk X.K H t) → ∃ xs : List (List Int × Addr × Value), Paired DpV ts xs ∧ ∀ (j : Nat) (x : List Int × Addr × Value), xs[j]? = some x → ∃ t, ts[j]? = some t ∧ IsTup s.heap t.1 #[.ref x.2.1, x.2.2]
  | [], _ => ⟨[], .nil, fun j x e => by simp at e⟩
  | t :: ts, h => by
    obtain ⟨xs, pr, hp⟩ := dp_of I fun t ht => h t (List.mem_cons_of_mem _ ht)
    obtain ⟨its, rv, ht, _⟩ := I.tuple (h t List.mem_cons_self).pr
    obtain ⟨u, y, ei, ru, ry⟩ := vals2 rv
    subst ei
    cases ru
    refine ⟨(t.2.2.1, t.2.1, y) :: xs, .cons ⟨rfl, rfl, ry⟩ pr, fun j x e => ?_⟩
    cases j with
    | zero =>
      have e : (t.2.2.1, t.2.1, y) = x := Option.some.inj e
      subst e
      exact ⟨t, rfl, ht⟩
    | succ j =>
      obtain ⟨t', e1, e2⟩ := hp j x (by simpa using e)
      exact ⟨t', by simpa using e1, e2⟩
end
theorem call_dictT {X : Cx} (hcalm : X.calm = true) (hu : X.A.units + 100 < cLine) : CallR X (.type "dict") (fun vs H Q => ∃ (a : Addr) (ts : List DpE), vs = [.ref a] ∧ SqL X.K H a (ts.map fun t => .ref t.1) ∧ (∀ t ∈ ts, DpOk X.K H t) ∧
    ∀ p xs, H p = none → (p == sysModules) = false → Paired DpV ts xs → Q (.ref p) (upd H p (DtI p (stAl [] xs)))) := by
  intro pins s σ H vs us Q I r q
  obtain ⟨a, ts, ex, hq, hd, q⟩ := q
  subst ex
  obtain ⟨u, eu, rx⟩ := vals1 r
  subst eu
  cases rx
  obtain ⟨its, rv, pl, hz⟩ := I.list hq
  have ei : its = (ts.map (·.1)).map Value.ref := refs_at (by rw [List.map_map]; exact rv)
  subst ei
  obtain ⟨xs, pr, hp⟩ := dp_of I hd
  obtain ⟨o, n, ho, hc, hdn, hdat⟩ := pl
  have hl := dp_len pr
  have hm : (s.heap.objs.size == sysModules) = false := beq_eq_false_iff_ne.mpr (Nat.ne_of_gt I.big)
  have hk := dp_mem pr hd
  rw [List.length_map] at hz
  refine PySem.call_dict_pairsH (knd := tupleKind (mixKind X.prog X.w)) (ps := xs.map upK) (PairArg.list a _ (fun j => (ts.map (·.1)).getD j 0) (xs.map fun x => (Value.ref x.2.1, x.2.2))) (I.ok.hd hcalm) (show X.A.units + 1 + 1 < cLine by omega) ⟨⟨o, n, ho, hc, hdn, hdat⟩, ?_, fun j k v e => ?_⟩ ⟨?_, fun i k v e => ?_⟩ (fun h' hk' x hx => ?_) ?_ fun h' tk hd' hk' => ?_
  · simp [hl]
  · rw [List.getElem?_map] at e
    obtain ⟨x, ex, e2⟩ := Option.map_eq_some_iff.mp e
    cases e2
    obtain ⟨t, e3, e4⟩ := hp j x ex
    have e5 : (ts.map (·.1))[j]? = some t.1 := by rw [List.getElem?_map, e3]; rfl
    have e6 : (ts.map (·.1)).getD j 0 = t.1 := by rw [List.getD_eq_getElem?_getD, e5]; rfl
    refine ⟨?_, .inl ?_⟩
    · show _ = some (Value.ref ((ts.map (·.1)).getD j 0))
      rw [e6]
      simp [e3]
    · show PySem.Heap.IsTuple s.heap ((ts.map (·.1)).getD j 0) _
      rw [e6]; exact e4
  · rw [List.length_map, List.length_map]
  · have e : (xs.map fun x => (Value.ref x.2.1, x.2.2))[i]? = some (k, v) := e
    rw [List.getElem?_map] at e
    obtain ⟨x, ex, e2⟩ := Option.map_eq_some_iff.mp e
    cases e2
    refine ⟨x.1.map Sum.inl, x.2.1, ?_, rfl⟩
    rw [List.getElem?_map, ex]
    rfl
  · obtain ⟨y, hy, rfl⟩ := List.mem_map.mp hx
    obtain ⟨o', its', n', h1, h2, h3, h4⟩ := keyS_of I (b := y.2.1) (k := y.1.map Sum.inl) (by have := hk y hy; rw [List.map_map]; exact this)
    exact ⟨o', its', n', hk' _ _ (Nat.ne_of_lt (Heap.lt_size h1)) (fun h => nomatch h) h1, h2, h3, h4⟩
  · rw [List.length_map]; omega
  · have e0 := stAl_up xs []
    have d2 : h'.DictOfH (tupleKind (mixKind X.prog X.w)) s.heap.objs.size ((stAl [] xs).map upK) := by rw [e0]; exact hd'
    refine ⟨.ref s.heap.objs.size, upd H s.heap.objs.size (DtI s.heap.objs.size (stAl [] xs)), I.laid (t' := tk) (fun b o e => hk' b o (fun h => nomatch h) e) (Nat.le_refl _) ?_, rfl, q _ xs (I.hok.fresh (Nat.le_refl _)) hm pr⟩
    rw [dtI_eq X.prog X.w]
    exact dto_ok d2
theorem putT_len (kvs : List (List Int × D)) (k : List Int) (d : D) : (putT kvs k d).length ≤ kvs.length + 1 := by
  unfold putT
  split
  · rw [List.length_map]; omega
  · rw [List.length_append]; exact Nat.le_refl _
theorem mrgT_len : ∀ (ps acc : List (List Int × D)), (ps.foldl (fun acc p => putT acc p.1 p.2) acc).length ≤ acc.length + ps.length
  | [], acc => Nat.le_refl _
  | p :: ps, acc => by
    have := mrgT_len ps (putT acc p.1 p.2)
    have := putT_len acc p.1 p.2
    rw [List.foldl_cons, List.length_cons]
    omega
theorem prsT_len : ∀ {ds : List D} {ps : List (List Int × D)}, prsT ds = some ps → ps.length = ds.length
  | [], _, h => by cases h; rfl
  | d :: ds, ps, h => by
    unfold prsT at h
    split at h
    · rename_i e; exact nomatch e
    · rename_i k v r e
      cases e
      split at h
      · obtain ⟨q, hq, rfl⟩ := Option.map_eq_some_iff.mp h
        rw [List.length_cons, List.length_cons, prsT_len hq]
      · cases h
    · cases h
section
variable {K : PySem.W.Frag} {g : Gh}
theorem kti_mrg : ∀ {ps : List (List Int × D)} {xs : List (List Int × Addr × Value)}, Paired (KTi K g) ps xs → ∀ {acc : List (List Int × D)} {ys : List (List Int × Addr × Value)}, Paired (KTi K g) acc ys → Paired (KTi K g) (ps.foldl (fun acc p => putT acc p.1 p.2) acc) (stAl ys xs)
  | _, _, .nil, _, _, h => h
  | _, _, .cons (a := p) (b := x) h t, acc, ys, ha => by
    have e : p.1 = x.1 := h.key
    have := kti_mrg t (kti_put (k := p.1) h.val h.sq ha)
    rw [e] at this
    show Paired (KTi K g) (List.foldl _ (putT acc p.1 p.2) _) (stAl (stI ys x.1 x.2.1 x.2.2) _)
    rw [e]
    exact this
theorem prs_ok : ∀ {ds : List D} {vs : List V} {ps : List (List Int × D)}, g.Reps K ds vs → prsT ds = some ps →
    ∃ ts : List DpE, vs = ts.map (fun t => V.ref t.1) ∧ (∀ t ∈ ts, DpOk K g.R t) ∧ Paired (fun p t => p.1 = t.2.2.1 ∧ g.Rep K p.2 t.2.2.2) ps ts
  | [], _, _, r, h => by
    cases h
    cases r
    exact ⟨[], rfl, (fun _ h => nomatch h), .nil⟩
  | d :: ds, vs, ps, r, h => by
    unfold prsT at h
    split at h
    · rename_i e; exact nomatch e
    · rename_i k v r' e
      cases e
      split at h
      · rename_i ks ek
        obtain ⟨q, hq, rfl⟩ := Option.map_eq_some_iff.mp h
        cases r with
        | @cons _ w _ ws r0 rs =>
          obtain ⟨ts, rfl, h2, h3⟩ := prs_ok rs hq
          have r0 : Px.Rep K g.sa g.R (.tup [k, v]) w := r0
          cases r0 with
          | @tup a _ us sq _ ru =>
            cases ru with
            | @cons _ wk _ us rk ru =>
              cases ru with
              | @cons _ wv _ us rv ru =>
                cases ru
                have lk : LookR K g k wk := by
                  cases k with
                  | tup xs => exact rk
                  | _ => cases ek
                obtain ⟨b, rfl, hb⟩ := kTo_ok lk ek
                refine ⟨(a, b, ks, wv) :: ts, rfl, fun t ht => ?_, .cons ⟨rfl, rv⟩ h3⟩
                rcases List.mem_cons.mp ht with rfl | ht
                · exact ⟨sq, hb⟩
                · exact h2 t ht
      · cases h
    · cases h
theorem kti_of {g g' : Gh} (gr : Gro g g') {ps : List (List Int × D)} {ts : List DpE} (h : Paired (fun (p : List Int × D) (t : DpE) => p.1 = t.2.2.1 ∧ g.Rep K p.2 t.2.2.2) ps ts) : ∀ {xs : List (List Int × Addr × Value)}, (∀ t ∈ ts, DpOk K g.R t) → Paired DpV ts xs → Paired (KTi K g') ps xs := by
  induction h with
  | nil => intro xs _ h; cases h; exact .nil
  | @cons p t _ _ h1 t1 ih =>
    intro xs ho h
    cases h with
    | cons h2 t2 =>
      have ok := ho _ List.mem_cons_self
      refine .cons ⟨h1.1.trans h2.key.symm, ⟨t.2.2.2, h2.val, gr.rep h1.2⟩, ?_⟩ (ih (fun t ht => ho t (List.mem_cons_of_mem _ ht)) t2)
      rw [h2.at_, h1.1]
      exact Px.SqT.mono ok.ky gr.rr
end
section
variable {X : Cx} {F : Cf} {fns gls : List String} {n : Nat} {E : L2.St → XK} {a : Expr} {f : Slots → Sto → Res Rv} {pos : Pos}
theorem s_dfrom (cx : Ctx X F fns gls n E) {nm : Str} {p : Pos} (hx : nm = sO "dict") (hgl : X.env.scope.names.lookup nm = some .globalImplicit) (hst : notStar a = true) (ha : PE X a (rdE X.K E f)) :
    PE X (.Call (.Name nm p) [a] [] pos) (rdE X.K E fun sl S => (f sl S).data.bind fun d S1 => dfromR d S1) := by
  subst hx
  refine PE.imp (pe_callTy (T := "dict") (call_dictT cx.calm (by have := cx.un; omega)) hgl (cx.bl _ (by decide)) (by decide +kernel) (pa_cons ha pa_nil (star_cons hst)) (by decide +kernel) (by decide +kernel) (star_cons hst) (star_plain fun z hz => by cases hz)) fun σ H Q ⟨g0, g, sl, e, ok, so, h⟩ => ?_
  subst e
  refine ⟨g0, g, sl, rfl, ok, so, Post.data so h fun g1 d v ok1 st1 so1 r1 h1 => ?_⟩
  unfold dfromR at h1
  split at h1
  case h_2 => exact h1.elim
  rename_i ds
  split at h1
  case h_2 => exact h1.elim
  rename_i ps ep
  have r1 : Px.Rep X.K g1.sa g1.R (.lst ds) v := r1
  cases r1 with
  | @lst ad _ vs hR hz rs =>
    obtain ⟨ts, rfl, ht, pr⟩ := prs_ok rs ep
    refine ⟨ad, ts, rfl, SqL.of (ok1.sub _ _ hR), fun t h => ⟨Px.SqT.mono (ht t h).pr ok1.sub, Px.SqT.mono (ht t h).ky ok1.sub⟩, fun q xs hq hs hx => ?_⟩
    have hl := mrgT_len ps []
    rw [prsT_len ep] at hl
    obtain ⟨g2, e1, e2, ok2, st2, r2⟩ := ok1.newS hq (o := DtI q (stAl [] xs)) (c := .dit (mrgT ps)) fun g' gr => ⟨Nat.le_trans hl (by rw [List.length_nil, Nat.zero_add]; exact hz), hs, _, rfl, kti_mrg (kti_of gr pr ht hx) .nil⟩
    rw [← e1]
    exact h1 g2 _ e2 ok2 (st1.trans st2) r2
end
end Px
set_option Elab.async false
set_option linter.all false
set_option maxRecDepth 100000
set_option maxHeartbeats 4000000
namespace Px
open PySem PySem.Spec PyProof.Rows L2
theorem zip_map {fs : List String} {ds : List D} (h : ds.length = fs.length) : (fs.zip ds).map (·.1) = fs := by
  rw [List.map_fst_zip (by omega)]
theorem look_rev {K : PySem.W.Frag} {g : Gh} : ∀ {fs : List String} {ds : List D} {vs : List V}, fs.length ≤ 2 → (fs.map sO).Nodup → g.Reps K ds vs → ∀ f y, (fs.zip ds).lookup f = some y → ∃ v, (((fs.map sO).zip vs).reverse).lookup (sO f) = some v ∧ g.Rep K y v
  | [], _, _, _, _, _, f, y, h => by cases h
  | [f1], ds, vs, _, _, r, f, y, h => by
    cases r with
    | nil => cases h
    | cons r1 t =>
      rename_i d v ds vs
      have h' : [(f1, d)].lookup f = some y := by simpa using h
      rw [List.lookup_cons] at h'
      split at h'
      · rename_i e
        have := beq_iff_eq.mp e
        subst this
        cases h'
        exact ⟨v, by simp [List.lookup], r1⟩
      · cases h'
  | [f1, f2], ds, vs, _, nd, r, f, y, h => by
    cases r with
    | nil => cases h
    | cons r1 t =>
      rename_i d v ds vs
      have ne : sO f1 ≠ sO f2 := by simpa using nd
      cases t with
      | nil =>
        have h' : [(f1, d)].lookup f = some y := by simpa using h
        rw [List.lookup_cons] at h'
        split at h'
        · rename_i e
          have := beq_iff_eq.mp e
          subst this
          cases h'
          exact ⟨v, by simp [List.lookup], r1⟩
        · cases h'
      | cons r2 t =>
        rename_i d2 v2 ds vs
        have h' : [(f1, d), (f2, d2)].lookup f = some y := by simpa using h
        rw [List.lookup_cons] at h'
        split at h'
        · rename_i e
          have := beq_iff_eq.mp e
          subst this
          cases h'
          refine ⟨v, ?_, r1⟩
          have q : (sO f == sO f2) = false := by simpa using ne
          simp [List.lookup, q]
        · rw [List.lookup_cons] at h'
          split at h'
          · rename_i e
            have := beq_iff_eq.mp e
            subst this
            cases h'
            exact ⟨v2, by simp [List.lookup], r2⟩
          · cases h'
  | _ :: _ :: _ :: _, _, _, h, _, _, _, _, _ => by simp at h
theorem fields_nd {c : String} (h : clsN c = true) : ((fieldsOf c).map sO).Nodup := by
  have key : (xtab.all fun p => decide (((fieldsOf p.1).map sO).Nodup)) = true := by decide +kernel
  unfold clsN at h
  obtain ⟨p, hp, e⟩ := List.any_eq_true.mp h
  have e := beq_iff_eq.mp e
  subst e
  exact of_decide_eq_true (List.all_eq_true.mp key p hp)
section
variable {X : Cx} {F : Cf} {fns gls : List String} {n : Nat} {E : L2.St → XK} {a : Expr} {f : Slots → Sto → Res Rv} {pos : Pos}
theorem s_mke (c : Ctx X F fns gls n E) {cl : String} {fs : List String} {es : Exs} {x : Str} {p : Pos} {xs : List Expr} (h1 : x = sO cl) (hgl : X.env.scope.names.lookup x = some .globalImplicit) (hdb : (x == ("__debug__" : Str)) = false) (hin : cl ∈ fns) (hcl : clsN cl = true) (hse : cl ≠ "StintError") (hfs : fs = fieldsOf cl)
    (hst : ∀ y ∈ xs, notStar y = true) (hz : xs = [] → es = .nil) (ha : PA X xs (rdA X.K E (evA F es))) (hlen : xs.length = fs.length) : PE X (.Call (.Name x p) xs [] pos) (rdE X.K E (evE F (.mke cl fs es))) := by
  subst h1 hfs
  obtain ⟨C, k, hm, hbare, hinit⟩ := c.xc cl hin hcl
  have ef : evE F (.mke cl (fieldsOf cl) es) = fun sl S => (evA F es sl S).bind fun ds S1 => mkeR cl (fieldsOf cl) ds S1 := by funext sl S; rw [evE]
  rw [ef]
  cases xs with
  | nil =>
    have hf : fieldsOf cl = [] := List.eq_nil_of_length_eq_zero hlen.symm
    have hes := hz rfl
    subst hes
    refine PE.imp (pe_mkv0 PySem.F.excBase_ValueError (hbare hf hse) hm k.kC hgl hdb) fun σ H Q ⟨g0, g, sl, e, ok, so, h⟩ => ?_
    subst e
    intro a ha1
    have h : Post X.K (E σ) (RvR X.K) g (mkeR cl (fieldsOf cl) [] g.S) Q := by
      have := h
      unfold evA at this
      exact this
    unfold mkeR at h
    rw [hf, if_pos (show ([] : List D).length = ([] : List String).length from rfl)] at h
    obtain ⟨g1, e1, e2, ok1, st1, r1⟩ := ok.newS ha1 (o := exo a C none) (c := .err ⟨cl, []⟩) fun g' gr => ⟨C, k, by rw [hf]; rfl, .inl ⟨rfl, rfl⟩⟩
    rw [← e1]
    exact h g1 _ e2 ok1 st1 r1
  | cons e0 es0 =>
    have hf : fieldsOf cl ≠ [] := fun z => by rw [z] at hlen; cases hlen
    obtain ⟨⟨B, fI, fd, st0, eB, i1, i2, F0, b0, sc, hg0, hc0⟩, B', eB', hmB⟩ := hinit hf
    have hBB : B = B' := by
      have := eB.ns.symm.trans eB'.ns
      cases this; rfl
    subst hBB
    have F1 : FnOk X.prog X.w X.K X.mg X.base CX0 1 fI fd (("self" :: fieldsOf cl).map sO) (spO C (fieldsOf cl)) := fn_init k eB hmB F0 sc hg0 hc0 hf
    refine PE.imp (pe_mkv (CX := CX0) k.oex i1 i2 F1 (c.room.mono (by omega)) b0 pass0 hgl hm ha hdb (star_cons (hst _ List.mem_cons_self)) (star_plain fun z hz => hst z (List.mem_cons_of_mem _ hz))) fun σ H Q ⟨g0, g, sl, eH, ok, so, h⟩ => ?_
    subst eH
    refine ⟨g0, g, sl, rfl, ok, so, Post.bind h fun g1 ds vs ok1 st1 r1 h1 => ?_⟩
    unfold mkeR at h1
    split at h1
    case isFalse => exact h1.elim
    rename_i hl
    have hv : vs.length = (fieldsOf cl).length := by rw [← r1.length]; exact hl
    refine ⟨by have := fields_le cl; omega, fun a ha1 => ⟨a, vs, rfl, hv, upd_same, fun H2 d hd hda e1 e2 e3 => ⟨rfl, ?_⟩⟩⟩
    have hd1 : g1.H d = none := by rw [upd_ne hda] at hd; exact hd
    obtain ⟨k2, st2⟩ := ok1.newR hd1 (exd d (((fieldsOf cl).map sO).zip vs).reverse)
    have han : (g1.newR d (exd d (((fieldsOf cl).map sO).zip vs).reverse)).H a = none := by
      show upd g1.H d _ a = none
      rw [upd_ne (Ne.symm hda)]; exact ha1
    obtain ⟨g3, q1, q2, ok3, st3, r3⟩ := k2.newS han (o := exo a C (some d)) (c := .err ⟨cl, (fieldsOf cl).zip ds⟩) fun g' gr => ⟨C, k, zip_map hl, .inr ⟨d, _, rfl, gr.rr _ _ upd_same, fun f y e => by
      obtain ⟨v, w1, w2⟩ := look_rev (fields_le cl) (fields_nd hcl) r1 f y e
      exact ⟨v, w1, gr.rep (st2.gro.rep w2)⟩⟩⟩
    have eH : H2 = upd (upd g1.H d (exd d (((fieldsOf cl).map sO).zip vs).reverse)) a (exo a C (some d)) := by
      funext b
      by_cases hba : b = a
      · rw [hba, upd_same, e1]
      · rw [upd_ne hba]
        by_cases hb : b = d
        · rw [hb, upd_same, e2]
        · rw [upd_ne hb, e3 b hba hb, upd_ne hba]
    rw [eH]
    have : g3.H = upd (upd g1.H d (exd d (((fieldsOf cl).map sO).zip vs).reverse)) a (exo a C (some d)) := q1
    rw [← this]
    exact h1 g3 _ q2 ok3 (st1.trans (st2.trans st3)) r3
theorem err_ok {K : PySem.W.Frag} {g : Gh} (ok : Gok K g) {d : D} {v : V} {x : Xn} (l : LookR K g d v) (h : errAt d g.S = some x) : ∃ a o, v = .ref a ∧ g.H a = some o ∧ g.ErrR K a x o := by
  cases d with
  | ref i =>
    unfold errAt at h
    dsimp only at h
    cases e : g.S[i]? with
    | none => rw [e] at h; cases h
    | some c =>
      rw [e] at h
      cases c with
      | err y =>
        cases h
        obtain ⟨a, o, rfl, h1, h2, h3, h4⟩ := sto_get ok (show g.Rep K (.ref i) v from l) e
        exact ⟨a, o, rfl, h2, h3⟩
      | lst _ => cases h
      | dic _ => cases h
      | dit _ => cases h
  | _ => cases h
theorem fld_mem {f : String} {y : D} : ∀ {fs : List (String × D)}, fs.lookup f = some y → f ∈ fs.map (·.1)
  | [], h => by cases h
  | (g, z) :: fs, h => by
    rw [List.lookup_cons] at h
    split at h
    · rename_i e
      rw [beq_iff_eq.mp e]
      exact List.mem_cons_self
    · exact List.mem_cons_of_mem _ (fld_mem h)
theorem s_fldr {m : Str} {fl : String} (hm : m = sO fl) (hc : notCall a = true) (ha : PE X a (rdE X.K E f)) : PE X (.Attribute a m pos) (rdE X.K E fun sl S => (f sl S).bind fun r S1 => Res.opt (((errAt r.look S1).bind fun x => x.fs.lookup fl).map .val) S1) := by
  subst hm
  refine PE.imp (pe_fld ha (base_of hc)) fun σ H Q ⟨g0, g, sl, e, ok, so, h⟩ => ?_
  subst e
  refine ⟨g0, g, sl, rfl, ok, so, Post.bind h fun g1 r v ok1 st1 r1 h1 => ?_⟩
  cases e : errAt r.look g1.S with
  | none => rw [e] at h1; exact h1.elim
  | some x =>
    rw [e] at h1
    cases e2 : x.fs.lookup fl with
    | none =>
      have h1 : Post X.K (E σ) (RvR X.K) g (Res.opt ((x.fs.lookup fl).map Rv.val) g1.S) Q := h1
      rw [e2] at h1; exact h1.elim
    | some y =>
      have h1 : Post X.K (E σ) (RvR X.K) g (Res.opt ((x.fs.lookup fl).map Rv.val) g1.S) Q := h1
      rw [e2] at h1
      obtain ⟨a', o, rfl, q1, Ca, k, nf, q2⟩ := err_ok ok1 (r1.lookR ok1) e
      rcases q2 with ⟨_, q2⟩ | ⟨d, fvs, rfl, q3, q4⟩
      · rw [q2] at e2; cases e2
      · obtain ⟨v, w1, w2⟩ := q4 fl y e2
        refine ⟨a', Ca, d, fvs, v, rfl, k.xf, k.fs fl (by rw [← nf]; exact fld_mem e2), q1, ok1.sub _ _ q3, w1, ?_⟩
        exact Post.val (h1.shiftE st1) ok1 rfl w2
theorem s_isxr (c : Ctx X F fns gls n E) {d : String} {x : Str} {p : Pos} {t : Expr} (hx : x = sO "isinstance") (hgl : X.env.scope.names.lookup x = some .globalImplicit) (hst : notStar a = true) (ha : PE X a (rdE X.K E f)) (ht : chkCx (tx X fns gls) d t = true) :
    PE X (.Call (.Name x p) [a, t] [] pos) (rdE X.K E fun sl S => (f sl S).bind fun r S1 => Res.opt ((errAt r.look S1).map fun x => .val (.bl (xIs x.cls d))) S1) := by
  subst hx
  cases t <;> first | (cases ht; done) | skip
  rename_i y q
  have h' : ((gBlt (tx X fns gls) y d && !dbgB y) && (d == "ValueError" || (fns.contains d && clsN d))) = true := ht
  rw [Bool.and_eq_true, Bool.and_eq_true, Bool.or_eq_true, Bool.and_eq_true] at h'
  obtain ⟨⟨h1, h2⟩, h3⟩ := h'
  obtain ⟨rfl, hgl2⟩ := gBlt_of h1
  obtain ⟨d1, _, _⟩ := dbg_of h2
  have key : ∃ v u, PE X (.Name (sO d) q) (tC v) ∧ (∀ z, RelV v z → z = u) ∧ ∀ cl Ca, ClsK X.K cl Ca → PySem.W.kitOne X.K (.ref Ca) u = some (xIs cl d) := by
    by_cases hv : d = "ValueError"
    · subst hv
      exact ⟨.ty "ValueError", .type "ValueError", pe_bltn hgl2 (c.bl "ValueError" (by decide)) (PyProof.Rows.Boot.«ValueError») rfl (by decide +kernel) d1, fun z r => by cases r; rfl, fun cl Ca k => k.kitVE⟩
    · rcases h3 with h3 | h3
      · exact absurd (beq_iff_eq.mp h3) hv
      · obtain ⟨D, kd, hm, _⟩ := c.xc d (by simpa using h3.1) h3.2
        exact ⟨.ref D, .ref D, pe_glob (v := .ref D) hgl2 hm rfl d1, fun z r => by cases r; rfl, fun cl Ca k => k.kitOne kd⟩
  obtain ⟨v, u, pe, hu, hk⟩ := key
  have hs2 : notStar (.Name (sO d) q) = true := rfl
  refine PE.imp (pe_callB (call_isV (X := X)) hgl (c.bl _ (by decide)) (by decide +kernel) (pa_cons ha (pa_cons pe pa_nil (star_cons hs2)) (star_cons hst)) (by decide +kernel) (by decide +kernel) (star_cons hst) (star_plain fun z hz => by
    have : z = .Name (sO d) q := by simpa using hz
    rw [this]; exact hs2)) fun σ H Q ⟨g0, g, sl, e, ok, so, h⟩ => ?_
  subst e
  refine ⟨g0, g, sl, rfl, ok, so, Post.bind h fun g1 r w ok1 st1 r1 h1 => ?_⟩
  cases e : errAt r.look g1.S with
  | none => rw [e] at h1; exact h1.elim
  | some x =>
    rw [e] at h1
    obtain ⟨a', o, rfl, q1, Ca, k, nf, q2⟩ := err_ok ok1 (r1.lookR ok1) e
    rcases q2 with ⟨rfl, _⟩ | ⟨dd, fvs, rfl, q3, _⟩
    · exact ⟨a', Ca, none, v, u, _, rfl, q1, (fun _ h => nomatch h), ⟨_, k⟩, hu, hk _ _ k, Post.val (h1.shiftE st1) ok1 rfl (.bl _)⟩
    · exact ⟨a', Ca, some dd, v, u, _, rfl, q1, fun d' h => by cases h; exact ⟨fvs, ok1.sub _ _ q3⟩, ⟨_, k⟩, hu, hk _ _ k, Post.val (h1.shiftE st1) ok1 rfl (.bl _)⟩
end
end Px
set_option Elab.async false
set_option linter.all false
set_option maxRecDepth 100000
set_option maxHeartbeats 1000000
namespace Px
open PySem PySem.Spec PyProof.Rows L2
theorem nc {P : Prop} (h : false = true) : P := Bool.noConfusion h
def isBoolE : Expr → Bool
  | .BoolOp _ _ _ => true
  | _ => false
structure SE (X : Cx) (F : Cf) (E : L2.St → XK) (e : Ex) (x : Expr) : Prop where
  pe : PE X x (rdE X.K E (evE F e))
  pt : PT X x (rdT X.K E fun sl S => (evE F e sl S).truth)
  pw : isBoolE x = true → PW X x (rdT X.K E fun sl S => (evE F e sl S).truth)
theorem SE.plain {X : Cx} {F : Cf} {E : L2.St → XK} {e : Ex} {x : Expr} (h : PE X x (rdE X.K E (evE F e))) (ht : ∀ whole, isTrue x X.env whole = (do let v ← whole; standAt x.pos; holding [v] (truthy v))) (hb : isBoolE x = false) : SE X F E e x :=
  ⟨h, s_truth h ht, fun q => by rw [hb] at q; cases q⟩
section
variable {F : Cf} {fns gls : List String} {n : Nat}
theorem ifs_of {E : L2.St → XK} {X : Cx} {T : Tx} {cx : Ex} {ifs : List Expr} (h : chkIf (chkE T cx) (chkN cx) ifs = true) (hx : ∀ x, chkE T cx x = true → PT X x (rdT X.K E fun sl S => (evE F cx sl S).truth)) : PTs X ifs (rdT X.K E fun sl S => (evE F cx sl S).truth) := by
  cases ifs with
  | nil =>
    cases cx <;> first | exact nc h | skip
    exact s_notest
  | cons x r =>
    cases r with
    | nil => exact pts_one (hx x h)
    | cons _ _ => exact nc h
mutual
theorem sE : ∀ (e : Ex) {X : Cx} {E : L2.St → XK} (c : Ctx X F fns gls n E) (x : Expr), chkE (tx X fns gls) e x = true → SE X F E e x
  | .var i, X, E, c, x, h => by
    cases x <;> first | exact nc h | skip
    rename_i x p
    have h' : ((atB X.N i x && visB X.env.scope x) && !dbgB x) = true := h
    rw [Bool.and_eq_true, Bool.and_eq_true] at h'
    obtain ⟨d1, d2, d3⟩ := dbg_of h'.2
    exact .plain (s_var (at_of h'.1.1) (vis_of h'.1.2) d1 d2) (fun _ => rfl) rfl
  | .int z, X, E, c, x, h => by
    cases x <;> first | exact nc h | skip
    rename_i k m p
    cases k <;> first | exact nc h | skip
    have h' : z = _ := of_decide_eq_true h
    subst h'
    exact .plain (s_const pe_int (fun _ _ => .int _) fun _ _ => by simp [evE]) (fun _ => rfl) rfl
  | .bl z, X, E, c, x, h => by
    cases x <;> first | exact nc h | skip
    rename_i k m p
    cases k <;> first | exact nc h | skip
    rename_i b
    have h' : (z == b) = true := h
    obtain rfl : z = b := by simpa using h'
    exact .plain (s_const pe_bl (fun _ _ => .bl _) fun _ _ => by simp [evE]) (fun _ => rfl) rfl
  | .non, X, E, c, x, h => by
    cases x <;> first | exact nc h | skip
    rename_i k m p
    cases k <;> first | exact nc h | skip
    exact .plain (s_const pe_non (fun _ _ => .non) fun _ _ => by simp [evE]) (fun _ => rfl) rfl
  | .str z, X, E, c, x, h => by
    cases x <;> first | exact nc h | skip
    rename_i k m p
    cases k <;> first | exact nc h | skip
    rename_i b
    have h' : b = sO z := of_decide_eq_true h
    subst h'
    exact .plain (s_const pe_str (fun _ _ => .str _) fun _ _ => by simp [evE]) (fun _ => rfl) rfl
  | .glob g, X, E, c, x, h => by
    cases x <;> first | exact nc h | skip
    rename_i x p
    have h' : ((gBlt (tx X fns gls) x g && gls.contains g) && !dbgB x) = true := h
    rw [Bool.and_eq_true, Bool.and_eq_true] at h'
    obtain ⟨d1, d2, d3⟩ := dbg_of h'.2
    obtain ⟨e1, e2⟩ := gBlt_of h'.1.1
    subst e1
    obtain ⟨u, v, hm, rv, hr⟩ := c.gl g (by simpa using h'.1.2)
    refine .plain (PE.imp (pe_glob (v := v) e2 hm rv d1) fun σ H Q ⟨g0, g1, sl, e, ok, so, hq⟩ => ?_) (fun _ => rfl) rfl
    subst e
    unfold evE at hq
    cases eg : globD (F.glob g) with
    | none => rw [eg] at hq; exact hq.elim
    | some d => rw [eg] at hq; exact hq g1 v rfl ok (Stp.refl g1) (GRep.rep hr eg _ _)
  | .nop, X, E, c, x, h => by cases x <;> exact nc h
  | .bin o a b, X, E, c, x, h => by
    cases x <;> first | exact nc h | skip
    rename_i l op r p
    have h' : ((decide (o.op = op) && chkE (tx X fns gls) a l) && chkE (tx X fns gls) b r) = true := h
    rw [Bool.and_eq_true, Bool.and_eq_true] at h'
    have e1 := of_decide_eq_true h'.1.1
    subst e1
    refine .plain (PE.imp (s_op2 (sem := opBin o) (fun h1 h2 => pe_op (op_binS o) h1 h2) (sE a c l h'.1.2).pe (sE b c r h'.2).pe) fun σ H Q q => ?_) (fun _ => rfl) rfl
    obtain ⟨g0, g1, sl, e, ok, so, hq⟩ := q
    unfold evE at hq
    exact ⟨g0, g1, sl, e, ok, so, hq⟩
  | .cmp o a b, X, E, c, x, h => by
    cases x <;> first | exact nc h | skip
    rename_i l ops cs p
    cases ops with
    | nil => exact nc h
    | cons op ops =>
      cases ops with
      | cons _ _ => exact nc h
      | nil =>
        cases cs with
        | nil => exact nc h
        | cons r cs =>
          cases cs with
          | cons _ _ => exact nc h
          | nil =>
            have h' : ((decide (o.op = op) && chkE (tx X fns gls) a l) && chkE (tx X fns gls) b r) = true := h
            rw [Bool.and_eq_true, Bool.and_eq_true] at h'
            have e1 := of_decide_eq_true h'.1.1
            have hu : X.A.units + 65 < cLine := by have := c.un; omega
            have ef : evE F (.cmp o a b) = fun sl S => (evE F a sl S).bind fun x S1 => (evE F b sl S1).bind fun y S2 => Res.opt (semC o x y) S2 := by funext sl S; rw [evE]; rfl
            refine ⟨by rw [ef]; exact s_cmp hu (chkE_marks h'.2) e1 (sE a c l h'.1.2).pe (sE b c r h'.2).pe, ?_, fun q => by cases q⟩
            have := s_cmpT (pos := p) hu (chkE_marks h'.2) e1 (sE a c l h'.1.2).pe (sE b c r h'.2).pe (E := E)
            rw [ef]
            exact this
  | .cmp2 o o' a b d, X, E, c, x, h => by
    cases x <;> first | exact nc h | skip
    rename_i l ops cs p
    cases ops with
    | nil => exact nc h
    | cons op ops =>
      cases ops with
      | nil => exact nc h
      | cons op' ops =>
        cases ops with
        | cons _ _ => exact nc h
        | nil =>
          cases cs with
          | nil => exact nc h
          | cons m cs =>
            cases cs with
            | nil => exact nc h
            | cons r cs =>
              cases cs with
              | cons _ _ => exact nc h
              | nil =>
                have h' : ((((decide (o.op = op) && decide (o'.op = op')) && chkE (tx X fns gls) a l) && chkE (tx X fns gls) b m) && chkE (tx X fns gls) d r) = true := h
                rw [Bool.and_eq_true, Bool.and_eq_true, Bool.and_eq_true, Bool.and_eq_true] at h'
                have e1 := of_decide_eq_true h'.1.1.1.1
                have e2 := of_decide_eq_true h'.1.1.1.2
                have hu : X.A.units + 65 < cLine := by have := c.un; omega
                have ef : evE F (.cmp2 o o' a b d) = fun sl S => (evE F a sl S).bind fun x S1 => (evE F b sl S1).bind fun y S2 => (Res.opt (opCmp o x y) S2).bind fun k S3 => if k then (evE F d sl S3).bind fun z S4 => Res.opt (semC o' y z) S4 else .ok (.val (.bl false)) S3 := by funext sl S; rw [evE]; rfl
                have := s_cmp2 (pos := p) hu (chkE_marks h'.2) e1 e2 (sE a c l h'.1.1.2).pe (sE b c m h'.1.2).pe (sE d c r h'.2).pe (E := E)
                exact ⟨by rw [ef]; exact this.1, by rw [ef]; exact this.2, fun q => by cases q⟩
  | .and a b, X, E, c, x, h => by
    cases x <;> first | exact nc h | skip
    rename_i op vs p
    cases op <;> first | exact nc h | skip
    have ef : evE F (.and a b) = fun sl S => (evE F a sl S).bind fun x S1 => (Res.opt x.look.truth S1).bind fun k S2 => if k then evE F b sl S2 else .ok x S2 := by funext sl S; rw [evE]
    cases vs with
    | nil => exact nc h
    | cons v vs =>
      cases vs with
      | nil => exact nc h
      | cons w vs =>
        have key : chkE (tx X fns gls) a v = true ∧ PE X (.BoolOp .And (w :: vs) p) (rdE X.K E (evE F b)) ∧ PW X (.BoolOp .And (w :: vs) p) (rdT X.K E fun sl S => (evE F b sl S).truth) := by
          cases vs with
          | nil =>
            have h' : (chkE (tx X fns gls) a v && chkE (tx X fns gls) b w) = true := h
            rw [Bool.and_eq_true] at h'
            have s := sE b c w h'.2
            exact ⟨h'.1, pe_one s.pe, pw_and1 s.pt⟩
          | cons u r =>
            have h' : (chkE (tx X fns gls) a v && chkE (tx X fns gls) b (.BoolOp .And (w :: u :: r) p)) = true := h
            rw [Bool.and_eq_true] at h'
            have s := sE b c _ h'.2
            exact ⟨h'.1, s.pe, s.pw rfl⟩
        have sa := sE a c v key.1
        have w1 : PW X (.BoolOp .And (v :: w :: vs) p) (rdT X.K E fun sl S => (evE F (.and a b) sl S).truth) := by rw [ef]; exact s_andT (pos := p) sa.pt key.2.2
        exact ⟨by rw [ef]; exact s_and sa.pe key.2.1, w1.pt, fun _ => w1⟩
  | .or a b, X, E, c, x, h => by
    cases x <;> first | exact nc h | skip
    rename_i op vs p
    cases op <;> first | exact nc h | skip
    have ef : evE F (.or a b) = fun sl S => (evE F a sl S).bind fun x S1 => (Res.opt x.look.truth S1).bind fun k S2 => if k then .ok x S2 else evE F b sl S2 := by funext sl S; rw [evE]
    cases vs with
    | nil => exact nc h
    | cons v vs =>
      cases vs with
      | nil => exact nc h
      | cons w vs =>
        have key : chkE (tx X fns gls) a v = true ∧ PE X (.BoolOp .Or (w :: vs) p) (rdE X.K E (evE F b)) ∧ PW X (.BoolOp .Or (w :: vs) p) (rdT X.K E fun sl S => (evE F b sl S).truth) := by
          cases vs with
          | nil =>
            have h' : (chkE (tx X fns gls) a v && chkE (tx X fns gls) b w) = true := h
            rw [Bool.and_eq_true] at h'
            have s := sE b c w h'.2
            exact ⟨h'.1, pe_one s.pe, pw_or1 s.pt⟩
          | cons u r =>
            have h' : (chkE (tx X fns gls) a v && chkE (tx X fns gls) b (.BoolOp .Or (w :: u :: r) p)) = true := h
            rw [Bool.and_eq_true] at h'
            have s := sE b c _ h'.2
            exact ⟨h'.1, s.pe, s.pw rfl⟩
        have sa := sE a c v key.1
        have w1 : PW X (.BoolOp .Or (v :: w :: vs) p) (rdT X.K E fun sl S => (evE F (.or a b) sl S).truth) := by rw [ef]; exact s_orT (pos := p) sa.pt key.2.2
        exact ⟨by rw [ef]; exact s_or sa.pe key.2.1, w1.pt, fun _ => w1⟩
  | .not a, X, E, c, x, h => by
    cases x <;> first | exact nc h | skip
    rename_i op y p
    cases op <;> first | exact nc h | skip
    have s := sE a c y h
    have ef : evE F (.not a) = fun sl S => (evE F a sl S).bind fun x S1 => (Res.opt x.look.truth S1).bind fun k S2 => .ok (.val (.bl (!k))) S2 := by funext sl S; rw [evE]
    have w1 : PT X (.UnaryOp .Not y p) (rdT X.K E fun sl S => (evE F (.not a) sl S).truth) := by rw [ef]; exact s_notT (pos := p) s.pt
    exact ⟨by rw [ef]; exact s_not s.pe, w1, fun q => by cases q⟩
  | .neg a, X, E, c, x, h => by
    cases x <;> first | exact nc h | skip
    rename_i op y p
    cases op <;> first | exact nc h | skip
    have s := sE a c y h
    have ef : evE F (.neg a) = fun sl S => (evE F a sl S).bind fun x S1 => Res.opt (semNeg x) S1 := by
      funext sl S
      rw [evE]
      congr 1
      funext x S1
      unfold semNeg
      cases x.look <;> rfl
    exact .plain (by rw [ef]; exact s_un (fun h1 => pe_un un_negS h1) s.pe) (fun _ => rfl) rfl
  | .ife d a b, X, E, c, x, h => by
    cases x <;> first | exact nc h | skip
    rename_i t y z p
    have h' : ((chkE (tx X fns gls) d t && chkE (tx X fns gls) a y) && chkE (tx X fns gls) b z) = true := h
    rw [Bool.and_eq_true, Bool.and_eq_true] at h'
    have s1 := sE d c t h'.1.1
    have s2 := sE a c y h'.1.2
    have s3 := sE b c z h'.2
    have ef : evE F (.ife d a b) = fun sl S => (evE F d sl S).truth.bind fun k S1 => if k then evE F a sl S1 else evE F b sl S1 := by funext sl S; rw [evE]
    have w1 : PT X (.IfExp t y z p) (rdT X.K E fun sl S => (evE F (.ife d a b) sl S).truth) := by rw [ef]; exact s_ifeT (pos := p) s1.pt s2.pt s3.pt
    exact ⟨by rw [ef]; exact s_ife s1.pt s2.pe s3.pe, w1, fun q => by cases q⟩
  | .tup es, X, E, c, x, h => by
    cases x <;> first | exact nc h | skip
    rename_i xs k p
    exact .plain (s_tup (sA es c xs h).1) (fun _ => rfl) rfl
  | .list es, X, E, c, x, h => by
    cases x <;> first | exact nc h | skip
    rename_i xs p
    exact .plain (s_list (sA es c xs h).1) (fun _ => rfl) rfl
  | .call f es, X, E, c, x, h => by
    cases x <;> first | exact nc h | skip
    rename_i fx xs ks p
    cases fx <;> first | exact nc h | skip
    rename_i m q
    cases ks <;> first | exact nc h | skip
    have h' : ((((gBlt (tx X fns gls) m f && fns.contains f) && !clsN f) && !dbgB m) && chkA (tx X fns gls) es xs) = true := h
    rw [Bool.and_eq_true, Bool.and_eq_true, Bool.and_eq_true, Bool.and_eq_true] at h'
    obtain ⟨e1, e2⟩ := gBlt_of h'.1.1.1.1
    refine .plain (s_call c e1 e2 (by simpa using h'.1.1.1.2) (by simpa using h'.1.1.2) (dbg_of h'.1.2).1 (chkA_star h'.2) (fun z => ?_) (sA es c xs h'.2).1) (fun _ => rfl) rfl
    subst z
    cases es with
    | nil => rfl
    | cons _ _ => exact nc h'.2
  | .bi bb es, X, E, c, x, h => by
    cases x <;> first | exact nc h | skip
    rename_i fx xs ks p
    cases fx <;> first | exact nc h | skip
    rename_i m q
    cases xs with
    | nil => exact nc h
    | cons y xs =>
    cases ks <;> first | exact nc h | skip
    have h' : (gBlt (tx X fns gls) m bb.nm && chkA (tx X fns gls) es (y :: xs)) = true := h
    rw [Bool.and_eq_true] at h'
    obtain ⟨e1, e2⟩ := gBlt_of h'.1
    exact .plain (s_bi c e1 e2 (chkA_star h'.2) (sA es c _ h'.2).2) (fun _ => rfl) rfl
  | .isin a one ts, X, E, c, x, h => by
    cases x <;> first | exact nc h | skip
    rename_i fx xs ks p
    cases fx <;> first | exact nc h | skip
    rename_i m q
    cases xs with
    | nil => exact nc h
    | cons y xs =>
    cases xs with
    | nil => exact nc h
    | cons t xs =>
    cases xs with
    | cons _ _ => exact nc h
    | nil =>
    cases ks <;> first | exact nc h | skip
    have ef : evE F (.isin a one ts) = fun sl S => (evE F a sl S).bind fun x S1 => if isDic x.look S1 then .stuck else .ok (.val (.bl (isIn x.look ts))) S1 := by funext sl S; rw [evE]
    cases one with
    | true =>
      cases ts with
      | nil =>
        have h' : ((gBlt (tx X fns gls) m "isinstance" && chkE (tx X fns gls) a y) && false) = true := h
        simp at h'
      | cons u us =>
        cases us with
        | cons _ _ =>
          have h' : ((gBlt (tx X fns gls) m "isinstance" && chkE (tx X fns gls) a y) && false) = true := h
          simp at h'
        | nil =>
          have h' : ((gBlt (tx X fns gls) m "isinstance" && chkE (tx X fns gls) a y) && chkTy (tx X fns gls) u t) = true := h
          rw [Bool.and_eq_true, Bool.and_eq_true] at h'
          obtain ⟨e1, e2⟩ := gBlt_of h'.1.1
          exact .plain (by rw [ef]; exact s_isin1 c e1 e2 (chkE_star h'.1.2) (sE a c y h'.1.2).pe h'.2) (fun _ => rfl) rfl
    | false =>
      have h0 : ((gBlt (tx X fns gls) m "isinstance" && chkE (tx X fns gls) a y) && (match t with | .Tuple us _ _ => chkTys (tx X fns gls) ts us && decide (ts.length < 20) | _ => false)) = true := by
        cases t <;> exact h
      rw [Bool.and_eq_true, Bool.and_eq_true] at h0
      obtain ⟨e1, e2⟩ := gBlt_of h0.1.1
      have h2 := h0.2
      cases t <;> first | exact nc h2 | skip
      rw [Bool.and_eq_true] at h2
      exact .plain (by rw [ef]; exact s_isinT c e1 e2 (chkE_star h0.1.2) (sE a c y h0.1.2).pe h2.1 (of_decide_eq_true h2.2)) (fun _ => rfl) rfl
  | .dic d, X, E, c, x, h => by
    cases x <;> first | exact nc h | skip
    have h' : (chkD d _ _ && decide (d.length ≤ 15) && decide ((d.map fun p => sO p.1).Nodup)) = true := h
    rw [Bool.and_eq_true, Bool.and_eq_true] at h'
    exact .plain (s_dic h'.1.1 (of_decide_eq_true h'.1.2) (of_decide_eq_true h'.2)) (fun _ => rfl) rfl
  | .lenr a, X, E, c, x, h => by
    cases x <;> first | exact nc h | skip
    rename_i f ys ks p
    cases f <;> first | exact nc h | skip
    rename_i m q
    cases ys with
    | nil => exact nc h
    | cons y ys =>
    cases ys with
    | cons _ _ => exact nc h
    | nil =>
    cases ks <;> first | exact nc h | skip
    have h' : (gBlt (tx X fns gls) m "len" && chkE (tx X fns gls) a y) = true := h
    rw [Bool.and_eq_true] at h'
    obtain ⟨e1, e2⟩ := gBlt_of h'.1
    exact .plain (s_lenr c e1 e2 (chkE_star h'.2) (sE a c y h'.2).pe) (fun _ => rfl) rfl
  | .tupr a, X, E, c, x, h => by
    cases x <;> first | exact nc h | skip
    rename_i f ys ks p
    cases f <;> first | exact nc h | skip
    rename_i m q
    cases ys with
    | nil => exact nc h
    | cons y ys =>
    cases ys with
    | cons _ _ => exact nc h
    | nil =>
    cases ks <;> first | exact nc h | skip
    have h' : (gBlt (tx X fns gls) m "tuple" && chkE (tx X fns gls) a y) = true := h
    rw [Bool.and_eq_true] at h'
    obtain ⟨e1, e2⟩ := gBlt_of h'.1
    exact .plain (s_tupr c e1 e2 (chkE_star h'.2) (sE a c y h'.2).pe) (fun _ => rfl) rfl
  | .sset a, X, E, c, x, h => by
    cases x <;> first | exact nc h | skip
    rename_i f ys ks p
    cases f <;> first | exact nc h | skip
    rename_i m q
    cases ys with
    | nil => exact nc h
    | cons y ys =>
    cases y <;> first | exact nc h | (cases ys <;> exact nc h) | skip
    rename_i f2 ys2 ks2 p2
    cases f2 <;> first | exact nc h | (cases ys <;> exact nc h) | skip
    rename_i m2 q2
    cases ys2 with
    | nil => first | exact nc h | (cases ys <;> exact nc h)
    | cons z zs =>
    cases zs with
    | cons _ _ => first | exact nc h | (cases ys <;> exact nc h)
    | nil =>
    cases ks2 with
    | cons _ _ => first | exact nc h | (cases ys <;> exact nc h)
    | nil =>
    cases ys with
    | cons _ _ => exact nc h
    | nil =>
    cases ks with
    | cons _ _ => exact nc h
    | nil =>
    have h' : ((gBlt (tx X fns gls) m "sorted" && gBlt (tx X fns gls) m2 "set") && chkE (tx X fns gls) a z) = true := h
    rw [Bool.and_eq_true, Bool.and_eq_true] at h'
    obtain ⟨e1, e2⟩ := gBlt_of h'.1.1
    obtain ⟨e3, e4⟩ := gBlt_of h'.1.2
    exact .plain (s_sset c e1 e3 e2 e4 (chkE_star h'.2) (sE a c z h'.2).pe) (fun _ => rfl) rfl
  | .lrng a, X, E, c, x, h => by
    cases x <;> first | exact nc h | skip
    rename_i f ys ks p
    cases f <;> first | exact nc h | skip
    rename_i m q
    cases ys with
    | nil => exact nc h
    | cons y ys =>
    cases y <;> first | exact nc h | (cases ys <;> exact nc h) | skip
    rename_i f2 ys2 ks2 p2
    cases f2 <;> first | exact nc h | (cases ys <;> exact nc h) | skip
    rename_i m2 q2
    cases ys2 with
    | nil => first | exact nc h | (cases ys <;> exact nc h)
    | cons z zs =>
    cases zs with
    | cons _ _ => first | exact nc h | (cases ys <;> exact nc h)
    | nil =>
    cases ks2 with
    | cons _ _ => first | exact nc h | (cases ys <;> exact nc h)
    | nil =>
    cases ys with
    | cons _ _ => exact nc h
    | nil =>
    cases ks with
    | cons _ _ => exact nc h
    | nil =>
    have h' : ((gBlt (tx X fns gls) m "list" && gBlt (tx X fns gls) m2 "range") && chkE (tx X fns gls) a z) = true := h
    rw [Bool.and_eq_true, Bool.and_eq_true] at h'
    obtain ⟨e1, e2⟩ := gBlt_of h'.1.1
    obtain ⟨e3, e4⟩ := gBlt_of h'.1.2
    exact .plain (s_lrng c e1 e3 e2 e4 (chkE_star h'.2) (sE a c z h'.2).pe) (fun _ => rfl) rfl
  | .lenum a, X, E, c, x, h => by
    cases x <;> first | exact nc h | skip
    rename_i f ys ks p
    cases f <;> first | exact nc h | skip
    rename_i m q
    cases ys with
    | nil => exact nc h
    | cons y ys =>
    cases y <;> first | exact nc h | (cases ys <;> exact nc h) | skip
    rename_i f2 ys2 ks2 p2
    cases f2 <;> first | exact nc h | (cases ys <;> exact nc h) | skip
    rename_i m2 q2
    cases ys2 with
    | nil => first | exact nc h | (cases ys <;> exact nc h)
    | cons z zs =>
    cases zs with
    | cons _ _ => first | exact nc h | (cases ys <;> exact nc h)
    | nil =>
    cases ks2 with
    | cons _ _ => first | exact nc h | (cases ys <;> exact nc h)
    | nil =>
    cases ys with
    | cons _ _ => exact nc h
    | nil =>
    cases ks with
    | cons _ _ => exact nc h
    | nil =>
    have h' : ((gBlt (tx X fns gls) m "list" && gBlt (tx X fns gls) m2 "enumerate") && chkE (tx X fns gls) a z) = true := h
    rw [Bool.and_eq_true, Bool.and_eq_true] at h'
    obtain ⟨e1, e2⟩ := gBlt_of h'.1.1
    obtain ⟨e3, e4⟩ := gBlt_of h'.1.2
    exact .plain (s_lenum c e1 e3 e2 e4 (chkE_star h'.2) (sE a c z h'.2).pe) (fun _ => rfl) rfl
  | .dkeys a, X, E, c, x, h => by
    cases x <;> first | exact nc h | skip
    rename_i fx xs ks p
    cases fx <;> first | exact nc h | skip
    rename_i m q
    cases xs with
    | nil => exact nc h
    | cons y xs =>
    cases xs with
    | cons _ _ => exact nc h
    | nil =>
    cases ks <;> first | exact nc h | skip
    have h' : (gBlt (tx X fns gls) m "list" && chkE (tx X fns gls) a y) = true := h
    rw [Bool.and_eq_true] at h'
    obtain ⟨e1, e2⟩ := gBlt_of h'.1
    exact .plain (s_dkeys c e1 e2 (chkE_star h'.2) (sE a c y h'.2).pe) (fun _ => rfl) rfl
  | .dfrom a, X, E, c, x, h => by
    cases x <;> first | exact nc h | skip
    rename_i fx xs ks p
    cases fx <;> first | exact nc h | skip
    rename_i m q
    cases xs with
    | nil => exact nc h
    | cons y xs =>
    cases xs with
    | cons _ _ => exact nc h
    | nil =>
    cases ks <;> first | exact nc h | skip
    have h' : (gBlt (tx X fns gls) m "dict" && chkE (tx X fns gls) a y) = true := h
    rw [Bool.and_eq_true] at h'
    obtain ⟨e1, e2⟩ := gBlt_of h'.1
    exact .plain (s_dfrom c e1 e2 (chkE_star h'.2) (sE a c y h'.2).pe) (fun _ => rfl) rfl
  | .mke cl fs es, X, E, c, x, h => by
    cases x <;> first | exact nc h | skip
    rename_i fx xs ks p
    cases fx <;> first | exact nc h | skip
    rename_i m q
    cases ks <;> first | exact nc h | skip
    have h' : ((((((gBlt (tx X fns gls) m cl && !dbgB m) && fns.contains cl) && (clsN cl && decide (cl ≠ "StintError"))) && decide (fs = fieldsOf cl)) && chkA (tx X fns gls) es xs) && decide (xs.length = fs.length)) = true := h
    simp only [Bool.and_eq_true, decide_eq_true_eq] at h'
    obtain ⟨⟨⟨⟨⟨⟨h1, h2⟩, h3⟩, h4, h5⟩, h6⟩, h7⟩, h8⟩ := h'
    obtain ⟨e1, e2⟩ := gBlt_of h1
    refine .plain (s_mke c e1 e2 (dbg_of h2).1 (by simpa using h3) h4 h5 h6 (chkA_star h7) (fun z => ?_) (sA es c xs h7).1 h8) (fun _ => rfl) rfl
    subst z
    cases es with
    | nil => rfl
    | cons _ _ => exact nc h7
  | .fldr a f, X, E, c, x, h => by
    cases x <;> first | exact nc h | skip
    rename_i z m p
    have h' : ((decide (m = sO f) && notCall z) && chkE (tx X fns gls) a z) = true := h
    simp only [Bool.and_eq_true, decide_eq_true_eq] at h'
    have ef : evE F (.fldr a f) = fun sl S => (evE F a sl S).bind fun r S1 => Res.opt (((errAt r.look S1).bind fun x => x.fs.lookup f).map .val) S1 := by funext sl S; rw [evE]
    exact .plain (by rw [ef]; exact s_fldr h'.1.1 h'.1.2 (sE a c z h'.2).pe) (fun _ => rfl) rfl
  | .isxr a d, X, E, c, x, h => by
    cases x <;> first | exact nc h | skip
    rename_i fx xs ks p
    cases fx <;> first | exact nc h | skip
    rename_i m q
    cases xs with
    | nil => exact nc h
    | cons y xs =>
    cases xs with
    | nil => exact nc h
    | cons t xs =>
    cases xs with
    | cons _ _ => exact nc h
    | nil =>
    cases ks <;> first | exact nc h | skip
    have h' : ((gBlt (tx X fns gls) m "isinstance" && chkE (tx X fns gls) a y) && chkCx (tx X fns gls) d t) = true := h
    rw [Bool.and_eq_true, Bool.and_eq_true] at h'
    obtain ⟨e1, e2⟩ := gBlt_of h'.1.1
    have ef : evE F (.isxr a d) = fun sl S => (evE F a sl S).bind fun r S1 => Res.opt ((errAt r.look S1).map fun x => .val (.bl (xIs x.cls d))) S1 := by funext sl S; rw [evE]
    exact .plain (by rw [ef]; exact s_isxr c e1 e2 (chkE_star h'.1.2) (sE a c y h'.1.2).pe h'.2) (fun _ => rfl) rfl
  | .dnew1 z b, X, E, c, x, h => by
    cases x <;> first | exact nc h | skip
    rename_i ks vs p
    cases ks with
    | nil => first | exact nc h | (cases vs <;> exact nc h)
    | cons k ks =>
    cases k with
    | none => first | exact nc h | (cases vs <;> exact nc h) | (cases ks <;> cases vs <;> exact nc h)
    | some k =>
    cases k <;> first | exact nc h | (cases vs <;> exact nc h) | (cases ks <;> cases vs <;> exact nc h) | skip
    rename_i cst ck cp
    cases cst <;> first | exact nc h | (cases vs <;> exact nc h) | (cases ks <;> cases vs <;> exact nc h) | skip
    rename_i z'
    cases ks with
    | cons _ _ => first | exact nc h | (cases vs <;> exact nc h)
    | nil =>
    cases vs with
    | nil => exact nc h
    | cons v vs =>
    cases v <;> first | exact nc h | (cases vs <;> exact nc h) | skip
    rename_i cst2 ck2 cp2
    cases cst2 <;> first | exact nc h | (cases vs <;> exact nc h) | skip
    rename_i b'
    cases vs with
    | cons _ _ => exact nc h
    | nil =>
    have h' : (decide (z = z') && b == b') = true := h
    rw [Bool.and_eq_true] at h'
    obtain rfl := of_decide_eq_true h'.1
    obtain rfl := eq_of_beq h'.2
    exact .plain s_dnew1 (fun _ => rfl) rfl
  | .ix a i, X, E, c, x, h => by
    cases x <;> first | exact nc h | skip
    rename_i y z p
    have h' : (chkE (tx X fns gls) a y && chkE (tx X fns gls) i z) = true := h
    rw [Bool.and_eq_true] at h'
    exact .plain (s_ix (fun l u q e => by subst e; exact (chkE_slice h'.2).elim) (sE a c y h'.1).pe (sE i c z h'.2).pe) (fun _ => rfl) rfl
  | .dnew, X, E, c, x, h => by
    cases x <;> first | exact nc h | skip
    rename_i ks vs p
    cases ks <;> first | exact nc h | skip
    cases vs <;> first | exact nc h | skip
    exact .plain s_dnew (fun _ => rfl) rfl
  | .dhas neg k d, X, E, c, x, h => by
    cases x <;> first | exact nc h | skip
    rename_i l ops cs p
    cases ops with
    | nil => exact nc h
    | cons op ops =>
      cases ops with
      | cons _ _ => exact nc h
      | nil =>
        cases cs with
        | nil => exact nc h
        | cons r cs =>
          cases cs with
          | cons _ _ => exact nc h
          | nil =>
            have h' : (((if neg then op == CmpOp.NotIn else op == CmpOp.In) && chkE (tx X fns gls) k l) && chkE (tx X fns gls) d r) = true := h
            rw [Bool.and_eq_true, Bool.and_eq_true] at h'
            have e1 : op = inOp neg := by
              have q := h'.1.1
              cases neg <;> cases op <;> first | rfl | exact absurd q (by decide)
            subst e1
            have hu : X.A.units + 65 < cLine := by have := c.un; omega
            have ef : evE F (.dhas neg k d) = fun sl S => (evE F k sl S).bind fun x S1 => (evE F d sl S1).bind fun y S2 => Res.opt ((hasX neg x.look y.look S2).map fun b => .val (.bl b)) S2 := by funext sl S; rw [evE]
            refine ⟨by rw [ef]; exact s_has hu (chkE_marks h'.2) (sE k c l h'.1.2).pe (sE d c r h'.2).pe, ?_, fun q => by cases q⟩
            rw [ef]
            exact s_hasT hu (chkE_marks h'.2) (sE k c l h'.1.2).pe (sE d c r h'.2).pe
  | .dat d k, X, E, c, x, h => by
    cases x <;> first | exact nc h | skip
    rename_i y z p
    have h' : (chkE (tx X fns gls) d y && chkE (tx X fns gls) k z) = true := h
    rw [Bool.and_eq_true] at h'
    have hu : X.A.units + 1 < cLine := by have := c.un; omega
    exact .plain (s_dat hu (fun l u s q e => by subst e; exact (chkE_slice h'.2).elim) (sE d c y h'.1).pe (sE k c z h'.2).pe) (fun _ => rfl) rfl
  | .ghas neg k g, X, E, c, x, h => by
    cases x <;> first | exact nc h | skip
    rename_i l ops cs p
    cases ops with
    | nil => exact nc h
    | cons op ops =>
      cases ops with
      | cons _ _ => exact nc h
      | nil =>
        cases cs with
        | nil => exact nc h
        | cons r cs =>
          cases cs with
          | cons _ _ => (cases r <;> exact nc h)
          | nil =>
            cases r <;> first | exact nc h | skip
            rename_i y py
            have h' : (((if neg then op == CmpOp.NotIn else op == CmpOp.In) && chkE (tx X fns gls) k l) && ((gBlt (tx X fns gls) y g && gls.contains g) && !dbgB y)) = true := h
            rw [Bool.and_eq_true, Bool.and_eq_true, Bool.and_eq_true, Bool.and_eq_true] at h'
            have e1 : op = inOp neg := by
              have q := h'.1.1
              cases neg <;> cases op <;> first | rfl | exact absurd q (by decide)
            subst e1
            obtain ⟨d1, d2, d3⟩ := dbg_of h'.2.2
            obtain ⟨e1, e2⟩ := gBlt_of h'.2.1.1
            subst e1
            obtain ⟨u, v, hm, rv, hr⟩ := c.gl g (by simpa using h'.2.1.2)
            have hu : X.A.units + 65 < cLine := by have := c.un; omega
            have hmk : behindInMarks (inOp neg) (.Name (sO g) py) = false := by cases neg <;> rfl
            have hb : PE X (.Name (sO g) py) (tC v) := pe_glob (v := v) e2 hm rv d1
            have ef : evE F (.ghas neg k g) = fun sl S => (evE F k sl S).bind fun x S1 => Res.opt ((hasD neg x.look (dicG (F.glob g))).map fun b => .val (.bl b)) S1 := by funext sl S; rw [evE]
            by_cases eg : ∃ kvs, F.glob g = some (.dic kvs)
            · obtain ⟨kvs, eg⟩ := eg
              obtain ⟨ad, ev, kd⟩ := hr _ eg
              have ed : dicG (F.glob g) = some (kvs.map fun p => (p.1, .int p.2)) := by rw [eg]; rfl
              rw [ed] at ef
              refine ⟨by rw [ef]; exact s_ghas hu hmk (sE k c l h'.1.2).pe hb ev kd, ?_, fun q => by cases q⟩
              rw [ef]
              exact s_ghasT hu hmk (sE k c l h'.1.2).pe hb ev kd
            · have ed : dicG (F.glob g) = none := by
                unfold dicG
                split
                · rename_i kvs e; exact absurd ⟨kvs, e⟩ eg
                · rfl
              rw [ed] at ef
              have st : ∀ sl S, evE F (.ghas neg k g) sl S = (evE F k sl S).bind fun _ _ => .stuck := fun sl S => by
                rw [ef]
                dsimp only
                congr 1
                funext x S1
                unfold hasD
                cases kOf x.look <;> rfl
              have es : evE F (.ghas neg k g) = fun sl S => (evE F k sl S).bind fun _ _ => .stuck := by funext sl S; exact st sl S
              refine ⟨PE.imp (pe_cmpR (r := fun _ _ _ _ => False) (fun _ _ _ _ _ _ _ _ _ _ _ _ h => h.elim) (sE k c l h'.1.2).pe hb hmk) fun σ H Q ⟨g0, g1, sl, e, ok, so, hq⟩ => ?_,
                PT.imp (pt_cmpR (r := fun _ _ _ _ => False) (fun _ _ _ _ _ _ _ _ _ _ _ _ h => h.elim) (sE k c l h'.1.2).pe hb hmk) fun σ H Q ⟨g0, g1, sl, e, ok, so, hq⟩ => ?_, fun q => by cases q⟩
              · subst e
                rw [es] at hq
                exact ⟨g0, g1, sl, rfl, ok, so, Post.bind hq fun g1 x v ok1 st1 r1 h1 => h1.elim⟩
              · subst e
                rw [es] at hq
                dsimp only at hq
                refine ⟨g0, g1, sl, rfl, ok, so, Post.bind (RS := fun _ _ a (b : Bool) => b = a) (γ := Bool) (k := fun _ _ => .stuck) (Q := Q) ?_ fun g1 x v ok1 st1 r1 h1 => h1.elim⟩
                cases e1 : evE F k sl g1.S <;> rw [e1] at hq <;> exact hq
  | .gat g k, X, E, c, x, h => by
    cases x <;> first | exact nc h | skip
    rename_i y z p
    cases y <;> first | exact nc h | skip
    rename_i y py
    have h' : (((gBlt (tx X fns gls) y g && gls.contains g) && !dbgB y) && chkE (tx X fns gls) k z) = true := h
    rw [Bool.and_eq_true, Bool.and_eq_true, Bool.and_eq_true] at h'
    obtain ⟨d1, d2, d3⟩ := dbg_of h'.1.2
    obtain ⟨e1, e2⟩ := gBlt_of h'.1.1.1
    subst e1
    obtain ⟨u, v, hm, rv, hr⟩ := c.gl g (by simpa using h'.1.1.2)
    have hu : X.A.units + 1 < cLine := by have := c.un; omega
    have hb : PE X (.Name (sO g) py) (tC v) := pe_glob (v := v) e2 hm rv d1
    have hsl : ∀ l u s p, z ≠ .Slice l u s p := fun l u s q e => by subst e; exact (chkE_slice h'.2).elim
    have ef : evE F (.gat g k) = fun sl S => (evE F k sl S).bind fun x S1 => Res.opt ((atD x.look (dicG (F.glob g))).map .val) S1 := by funext sl S; rw [evE]
    by_cases eg : ∃ kvs, F.glob g = some (.dic kvs)
    · obtain ⟨kvs, eg⟩ := eg
      obtain ⟨ad, ev, kd⟩ := hr _ eg
      have ed : dicG (F.glob g) = some (kvs.map fun p => (p.1, .int p.2)) := by rw [eg]; rfl
      rw [ed] at ef
      exact .plain (by rw [ef]; exact s_gat hu hsl hb ev kd (sE k c z h'.2).pe) (fun _ => rfl) rfl
    · have ed : dicG (F.glob g) = none := by
        unfold dicG
        split
        · rename_i kvs e; exact absurd ⟨kvs, e⟩ eg
        · rfl
      rw [ed] at ef
      have es : evE F (.gat g k) = fun sl S => (evE F k sl S).bind fun _ _ => .stuck := by
        rw [ef]
        funext sl S
        congr 1
        funext x S1
        unfold atD
        cases kOf x.look <;> rfl
      refine .plain (PE.imp (pe_ix (r := fun _ _ _ _ => False) (fun _ _ _ _ _ _ _ _ _ _ _ _ _ _ h _ => h.elim) hb (sE k c z h'.2).pe (plain_ix fun l u p => hsl l u none p)) fun σ H Q ⟨g0, g1, sl, e, ok, so, hq⟩ => ?_) (fun _ => rfl) rfl
      subst e
      rw [es] at hq
      exact ⟨g0, g1, sl, rfl, ok, so, Post.bind hq fun g1 x v ok1 st1 r1 h1 => h1.elim⟩
  | .dget d k z, X, E, c, x, h => by
    cases x <;> first | exact nc h | skip
    rename_i f ys ks cp
    cases f <;> first | exact nc h | skip
    rename_i o m ap
    cases ys with
    | nil => exact nc h
    | cons y ys =>
    cases ys with
    | nil => exact nc h
    | cons w ys =>
    cases ys with
    | cons _ _ => exact nc h
    | nil =>
    cases ks <;> first | exact nc h | skip
    have h' : (((((decide (m = sO "get") && (ap.endLine == cp.line)) && notCall o) && chkE (tx X fns gls) d o) && chkE (tx X fns gls) k y) && chkE (tx X fns gls) z w) = true := h
    rw [Bool.and_eq_true, Bool.and_eq_true, Bool.and_eq_true, Bool.and_eq_true, Bool.and_eq_true] at h'
    have hu : X.A.units + 1 < cLine := by have := c.un; omega
    exact .plain (s_dget hu (of_decide_eq_true h'.1.1.1.1.1) h'.1.1.1.1.2 h'.1.1.1.2 (chkE_star h'.1.2) (chkE_star h'.2) (sE d c o h'.1.1.2).pe (sE k c y h'.1.2).pe (sE z c w h'.2).pe) (fun _ => rfl) rfl
  | .ixr a i, X, E, c, x, h => by
    cases x <;> first | exact nc h | skip
    rename_i y z p
    have h' : (chkE (tx X fns gls) a y && chkE (tx X fns gls) i z) = true := h
    rw [Bool.and_eq_true] at h'
    exact .plain (s_ixr (fun l u q e => by subst e; exact (chkE_slice h'.2).elim) (sE a c y h'.1).pe (sE i c z h'.2).pe) (fun _ => rfl) rfl
  | .cmpr o a b, X, E, c, x, h => by
    cases x <;> first | exact nc h | skip
    rename_i l ops cs p
    cases ops with
    | nil => exact nc h
    | cons op ops =>
      cases ops with
      | cons _ _ => exact nc h
      | nil =>
        cases cs with
        | nil => exact nc h
        | cons r cs =>
          cases cs with
          | cons _ _ => exact nc h
          | nil =>
            have h' : ((decide (o.op = op) && chkE (tx X fns gls) a l) && chkE (tx X fns gls) b r) = true := h
            rw [Bool.and_eq_true, Bool.and_eq_true] at h'
            have e1 := of_decide_eq_true h'.1.1
            have hu : X.A.units + 65 < cLine := by have := c.un; omega
            have ef : evE F (.cmpr o a b) = fun sl S => (evE F a sl S).bind fun x S1 => (evE F b sl S1).bind fun y S2 => Res.opt (semD o (x.lookS S2) (y.lookS S2)) S2 := by funext sl S; rw [evE]; rfl
            refine ⟨by rw [ef]; exact s_cmpr hu (chkE_marks h'.2) e1 (sE a c l h'.1.2).pe (sE b c r h'.2).pe, ?_, fun q => by cases q⟩
            rw [ef]
            exact s_cmprT (pos := p) hu (chkE_marks h'.2) e1 (sE a c l h'.1.2).pe (sE b c r h'.2).pe (E := E)
  | .shr e, X, E, c, x, h => by
    have h' : (isMk x && chkE (tx X fns gls) e x) = true := h
    rw [Bool.and_eq_true] at h'
    have q := s_shr (sE e c x h'.2).pe
    have hm := h'.1
    cases x <;> first | exact nc hm | exact .plain q (fun _ => rfl) rfl
  | .popr a k, X, E, c, x, h => by
    cases x <;> first | exact nc h | skip
    rename_i fx ys ks cp
    cases fx <;> first | exact nc h | skip
    rename_i o m ap
    cases ks <;> first | exact nc h | skip
    have h' : ((((decide (m = sO "pop") && (ap.endLine == cp.line)) && notCall o) && chkE (tx X fns gls) a o) && (decide (ys.length ≤ 1) && chkO (tx X fns gls) k ys.head?)) = true := h
    rw [Bool.and_eq_true, Bool.and_eq_true, Bool.and_eq_true, Bool.and_eq_true, Bool.and_eq_true] at h'
    obtain ⟨⟨⟨⟨k1, k2⟩, k0⟩, k3⟩, k4, k5⟩ := h'
    have k1 := of_decide_eq_true k1
    have k4 := of_decide_eq_true k4
    have sa := (sE a c o k3).pe
    have so := sO' k c ys.head? k5
    cases ys with
    | nil =>
      cases k with
      | no => exact .plain (s_pop0 k1 k2 k0 sa) (fun _ => rfl) rfl
      | yes e => exact nc k5
    | cons y ys =>
      cases ys with
      | cons _ _ => simp at k4
      | nil =>
        cases k with
        | no => exact nc k5
        | yes e => exact .plain (s_pop1 k1 k2 k0 (chkE_star (show chkE (tx X fns gls) e y = true from k5)) sa (sE e c y k5).pe) (fun _ => rfl) rfl
  | .appr a e, X, E, c, x, h => by
    cases x <;> first | exact nc h | skip
    rename_i fx ys ks cp
    cases fx <;> first | exact nc h | skip
    rename_i o m ap
    cases ys with
    | nil => exact nc h
    | cons y ys =>
    cases ys with
    | cons _ _ => exact nc h
    | nil =>
    cases ks <;> first | exact nc h | skip
    have h' : ((((decide (m = sO "append") && (ap.endLine == cp.line)) && notCall o) && chkE (tx X fns gls) a o) && chkE (tx X fns gls) e y) = true := h
    rw [Bool.and_eq_true, Bool.and_eq_true, Bool.and_eq_true, Bool.and_eq_true] at h'
    obtain ⟨⟨⟨⟨k1, k2⟩, k0⟩, k3⟩, k4⟩ := h'
    exact .plain (s_appr (of_decide_eq_true k1) k2 k0 (chkE_star k4) (sE a c o k3).pe (sE e c y k4).pe) (fun _ => rfl) rfl
  | .sl a lo hi, X, E, c, x, h => by
    cases x <;> first | exact nc h | skip
    rename_i y z p
    cases z <;> first | exact nc h | skip
    rename_i l u st q
    cases st <;> first | exact nc h | skip
    have h' : ((chkE (tx X fns gls) a y && chkO (tx X fns gls) lo l) && chkO (tx X fns gls) hi u) = true := h
    rw [Bool.and_eq_true, Bool.and_eq_true] at h'
    exact .plain (s_sl (sE a c y h'.1.1).pe (sO' lo c l h'.1.2) (sO' hi c u h'.2)) (fun _ => rfl) rfl
  | .rev a, X, E, c, x, h => by
    cases x <;> first | exact nc h | skip
    rename_i y z p
    cases z <;> first | exact nc h | skip
    rename_i l u st q
    cases l <;> first | (cases u <;> cases st <;> exact nc h) | skip
    cases u <;> first | (cases st <;> exact nc h) | skip
    cases st <;> first | exact nc h | skip
    rename_i o
    cases o <;> first | exact nc h | skip
    rename_i uo w wp
    cases uo <;> first | exact nc h | skip
    cases w <;> first | exact nc h | skip
    rename_i cst ck cp
    cases cst <;> first | exact nc h | skip
    rename_i kk
    have h' : (chkE (tx X fns gls) a y && decide (kk = 1)) = true := h
    rw [Bool.and_eq_true] at h'
    obtain rfl := of_decide_eq_true h'.2
    exact .plain (s_rev (sE a c y h'.1).pe) (fun _ => rfl) rfl
  | .op o es, X, E, c, x, h => sP o es c x (show chkP (tx X fns gls) o es x = true from h)
  | .comp own tg it cx elt, X, E, c, x, h => by
    cases x <;> first | exact nc h | skip
    rename_i e gs scope p
    cases gs with
    | nil => exact nc h
    | cons g gs =>
    obtain ⟨t, i, ifs, as⟩ := g
    cases gs with
    | cons _ _ => exact nc h
    | nil =>
    have h' : ((((((decide (as = 0) && blkC X.N X.env.scope scope (ownS own)) && (chkI (tx X fns gls) t it i || chkL (tx X fns gls) it i)) && chkG ((tx X fns gls).blk scope) tg t) && subB tg.slots (own.map (·.2))) && chkE ((tx X fns gls).blk scope) elt e) && chkIf (chkE ((tx X fns gls).blk scope) cx) (chkN cx) ifs) = true := h
    rw [Bool.and_eq_true, Bool.and_eq_true, Bool.and_eq_true, Bool.and_eq_true, Bool.and_eq_true, Bool.and_eq_true] at h'
    obtain ⟨⟨⟨⟨⟨⟨k0, k1⟩, k2⟩, k3⟩, k4⟩, k5⟩, k6⟩ := h'
    obtain rfl : as = 0 := of_decide_eq_true k0
    have hI : PI X t i (rdIs X.K E (evI F it)) := by
      cases hk : chkI (tx X fns gls) t it i with
      | true => exact pi_weak (sI it c t i hk)
      | false =>
        rw [hk, Bool.false_or] at k2
        obtain ⟨y, ey, hy⟩ := sL it c i k2
        subst ey
        exact i_look hy
    refine .plain (PE.imp (s_comp (E := E) c.calm c.nd hI (blkOk_by k1) (fun s H C cl fp => sG (X := X.blk s H scope (compEnvC scope cl C X.env) fp) (fns := fns) (gls := gls) c.calm c.nd tg t k3)
      (fun s H C cl fp => ifs_of k6 fun x hx => (sE cx (X := X.blk s H scope (compEnvC scope cl C X.env) fp) (c.blk s H scope _ fp) x hx).pt)
      (fun s H C cl fp => (sE elt (X := X.blk s H scope (compEnvC scope cl C X.env) fp) (c.blk s H scope _ fp) e k5).pe) (chkIL_set k2) (subB_of k4)) fun σ H Q q => lc_read (subB_of k4) ?_) (fun _ => rfl) rfl
    obtain ⟨g0, g1, sl, e, ok, so, hq⟩ := q
    unfold evE at hq
    exact ⟨g0, g1, sl, e, ok, so, hq⟩
  | .comp2 own tg it cx vs1 tg1 it1 cx1 elt, X, E, c, x, h => by
    cases x <;> first | exact nc h | skip
    rename_i e gs scope p
    cases gs with
    | nil => exact nc h
    | cons g gs =>
    obtain ⟨t, i, ifs, as⟩ := g
    cases gs with
    | nil => exact nc h
    | cons g1 gs =>
    obtain ⟨t1, i1, ifs1, as1⟩ := g1
    cases gs with
    | cons _ _ => exact nc h
    | nil =>
    have h' : ((((((((((((decide (as = 0) && decide (as1 = 0)) && blkC X.N X.env.scope scope (ownS own)) && chkI (tx X fns gls) t it i) && chkG ((tx X fns gls).blk scope) tg t) && subB tg.slots (own.map (·.2))) && chkIf (chkE ((tx X fns gls).blk scope) cx) (chkN cx) ifs) &&
      subB vs1 (own.map (·.2))) && chkI ((tx X fns gls).blk scope) t1 it1 i1) && chkG ((tx X fns gls).blk scope) tg1 t1) && subB tg1.slots vs1) && chkIf (chkE ((tx X fns gls).blk scope) cx1) (chkN cx1) ifs1) && chkE ((tx X fns gls).blk scope) elt e) = true := h
    rw [Bool.and_eq_true, Bool.and_eq_true, Bool.and_eq_true, Bool.and_eq_true, Bool.and_eq_true, Bool.and_eq_true, Bool.and_eq_true, Bool.and_eq_true, Bool.and_eq_true, Bool.and_eq_true, Bool.and_eq_true, Bool.and_eq_true] at h'
    obtain ⟨⟨⟨⟨⟨⟨⟨⟨⟨⟨⟨⟨k0, k01⟩, k1⟩, k2⟩, k3⟩, k4⟩, k6⟩, j1⟩, j2⟩, j3⟩, j4⟩, j5⟩, k5⟩ := h'
    obtain rfl : as = 0 := of_decide_eq_true k0
    obtain rfl : as1 = 0 := of_decide_eq_true k01
    have eo : (ownS own).map (·.2) = own.map (·.2) := by simp [ownS]
    have key : PE X (.ListComp e [⟨t, i, ifs, 0⟩, ⟨t1, i1, ifs1, 0⟩] scope p) (tLc2 (rdI X.K E (evI F it)) (rdG X.K tg) (rdT X.K (kE noE) fun sl S => (evE F cx sl S).truth) (rdI X.K (kE noE) (evI F it1)) (rdG X.K tg1) (rdT X.K (kE noE) fun sl S => (evE F cx1 sl S).truth) (rdE X.K (kE noE) (evE F elt)) ((ownS own).map (·.2)) vs1) := pe_lc2 c.calm c.nd (sI it c t i k2) (blkOk_by k1) (by rw [eo]; exact subB_of j1) (fun s H C cl fp => sG (X := X.blk s H scope (compEnvC scope cl C X.env) fp) (fns := fns) (gls := gls) c.calm c.nd tg t k3)
      (fun s H C cl fp => ifs_of k6 fun x hx => (sE cx (X := X.blk s H scope (compEnvC scope cl C X.env) fp) (c.blk s H scope _ fp) x hx).pt)
      (fun s H C cl fp => sI it1 (X := X.blk s H scope (compEnvC scope cl C X.env) fp) (c.blk s H scope _ fp) t1 i1 j2)
      (fun s H C cl fp => sG (X := X.blk s H scope (compEnvC scope cl C X.env) fp) (fns := fns) (gls := gls) c.calm c.nd tg1 t1 j3)
      (fun s H C cl fp => ifs_of j5 fun x hx => (sE cx1 (X := X.blk s H scope (compEnvC scope cl C X.env) fp) (c.blk s H scope _ fp) x hx).pt)
      (fun s H C cl fp => (sE elt (X := X.blk s H scope (compEnvC scope cl C X.env) fp) (c.blk s H scope _ fp) e k5).pe) (chkI_set k2) (fun env x => chkI_set (env := env) j2 x)
    rw [eo] at key
    refine .plain (PE.imp key fun σ H Q q => lc2_read (subB_of k4) (subB_of j4) ?_) (fun _ => rfl) rfl
    obtain ⟨g0, g1, sl, e, ok, so, hq⟩ := q
    unfold evE at hq
    exact ⟨g0, g1, sl, e, ok, so, hq⟩
theorem sA : ∀ (es : Exs) {X : Cx} {E : L2.St → XK} (c : Ctx X F fns gls n E) (xs : List Expr), chkA (tx X fns gls) es xs = true → PA X xs (rdA X.K E (evA F es)) ∧ PA X xs (rdR X.K E (evR F es))
  | .nil, X, E, c, [], _ => ⟨s_nil rfl, s_nilR rfl⟩
  | .cons e es, X, E, c, x :: xs, h => by
    have h' : (chkE (tx X fns gls) e x && chkA (tx X fns gls) es xs) = true := h
    rw [Bool.and_eq_true] at h'
    have s := sE e c x h'.1
    have r := sA es c xs h'.2
    exact ⟨s_cons (chkE_star h'.1) s.pe r.1, s_consR (chkE_star h'.1) s.pe r.2⟩
  | .nil, _, _, _, _ :: _, h => nc h
  | .cons _ _, _, _, _, [], h => nc h
theorem sP : ∀ (o : Op) (es : Exs) {X : Cx} {E : L2.St → XK} (c : Ctx X F fns gls n E) (x : Expr), chkP (tx X fns gls) o es x = true → SE X F E (.op o es) x
  | .stp, .cons a (.cons k .nil), X, E, c, x, h => by
    cases x <;> first | exact nc h | skip
    rename_i y z p
    cases z <;> first | exact nc h | skip
    rename_i l u st q
    cases l <;> first | (cases u <;> cases st <;> exact nc h) | skip
    cases u <;> first | (cases st <;> exact nc h) | skip
    cases st <;> first | exact nc h | skip
    rename_i o
    have h' : (chkE (tx X fns gls) a y && chkE (tx X fns gls) k o) = true := h
    rw [Bool.and_eq_true] at h'
    exact .plain (s_stp (sE a c y h'.1).pe (sE k c o h'.2).pe) (fun _ => rfl) rfl
  | .stp, .nil, _, _, _, _, h => nc h
  | .stp, .cons _ .nil, _, _, _, _, h => nc h
  | .stp, .cons _ (.cons _ (.cons _ _)), _, _, _, _, h => nc h
theorem sO' : ∀ (o : Exo) {X : Cx} {E : L2.St → XK} (c : Ctx X F fns gls n E) (l : Option Expr), chkO (tx X fns gls) o l = true → (o = .no ∧ l = none) ∨ ∃ y e, o = .yes y ∧ l = some e ∧ PE X e (rdE X.K E (evE F y))
  | .no, X, E, c, none, _ => .inl ⟨rfl, rfl⟩
  | .yes e, X, E, c, some x, h => .inr ⟨e, x, rfl, rfl, (sE e c x h).pe⟩
  | .no, _, _, _, some _, h => nc h
  | .yes _, _, _, _, none, h => nc h
theorem sL : ∀ (it : Itx) {X : Cx} {E : L2.St → XK} (c : Ctx X F fns gls n E) (x : Expr), chkL (tx X fns gls) it x = true → ∃ e, it = .look e ∧ PE X x (rdE X.K E (evE F e))
  | .look e, X, E, c, x, h => ⟨e, rfl, (sE e c x h).pe⟩
  | .val _, _, _, _, _, h => nc h
  | .rng1 _, _, _, _, _, h => nc h
  | .rng2 _ _, _, _, _, _, h => nc h
  | .rngd _ _, _, _, _, _, h => nc h
  | .enum _, _, _, _, _, h => nc h
  | .zip _ _, _, _, _, _, h => nc h
theorem sI : ∀ (it : Itx) {X : Cx} {E : L2.St → XK} (c : Ctx X F fns gls n E) (tg x : Expr), chkI (tx X fns gls) tg it x = true → PI X tg x (rdI X.K E (evI F it))
  | .val e, X, E, c, tg, x, h => i_val (sE e c x h).pe
  | .rng1 a, X, E, c, tg, x, h => by
    cases x <;> first | exact nc h | skip
    rename_i fx xs ks p
    cases fx <;> first | exact nc h | skip
    rename_i m q
    cases xs with
    | nil => exact nc h
    | cons y xs =>
    cases xs with
    | cons _ _ => exact nc h
    | nil =>
    cases ks <;> first | exact nc h | skip
    have h' : (gBlt (tx X fns gls) m "range" && chkE (tx X fns gls) a y) = true := h
    rw [Bool.and_eq_true] at h'
    obtain ⟨e1, e2⟩ := gBlt_of h'.1
    exact i_rng1 c e1 e2 (chkE_star h'.2) (sE a c y h'.2).pe
  | .rngd a b, X, E, c, tg, x, h => by
    cases x <;> first | exact nc h | skip
    rename_i fx xs ks p
    cases fx <;> first | exact nc h | skip
    rename_i m q
    cases xs with
    | nil => exact nc h
    | cons y xs =>
    cases xs with
    | nil => exact nc h
    | cons z xs =>
    cases xs with
    | nil => exact nc h
    | cons u xs =>
    cases u <;> first | exact nc h | skip
    rename_i o v p5
    cases o <;> first | exact nc h | skip
    cases v <;> first | exact nc h | skip
    rename_i k p6 p7
    cases k <;> first | exact nc h | skip
    rename_i k
    cases xs with
    | cons _ _ => exact nc h
    | nil =>
    cases ks <;> first | exact nc h | skip
    have h' : (((gBlt (tx X fns gls) m "range" && chkE (tx X fns gls) a y) && chkE (tx X fns gls) b z) && decide (k = 1)) = true := h
    rw [Bool.and_eq_true, Bool.and_eq_true, Bool.and_eq_true] at h'
    obtain ⟨e1, e2⟩ := gBlt_of h'.1.1.1
    have e3 := of_decide_eq_true h'.2
    subst e3
    exact i_rngd c e1 e2 (chkE_star h'.1.1.2) (chkE_star h'.1.2) (sE a c y h'.1.1.2).pe (sE b c z h'.1.2).pe
  | .rng2 a b, X, E, c, tg, x, h => by
    cases x <;> first | exact nc h | skip
    rename_i fx xs ks p
    cases fx <;> first | exact nc h | skip
    rename_i m q
    cases xs with
    | nil => exact nc h
    | cons y xs =>
    cases xs with
    | nil => exact nc h
    | cons z xs =>
    cases xs with
    | cons _ _ => exact nc h
    | nil =>
    cases ks <;> first | exact nc h | skip
    have h' : ((gBlt (tx X fns gls) m "range" && chkE (tx X fns gls) a y) && chkE (tx X fns gls) b z) = true := h
    rw [Bool.and_eq_true, Bool.and_eq_true] at h'
    obtain ⟨e1, e2⟩ := gBlt_of h'.1.1
    exact i_rng2 c e1 e2 (chkE_star h'.1.2) (chkE_star h'.2) (sE a c y h'.1.2).pe (sE b c z h'.2).pe
  | .enum a, X, E, c, tg, x, h => by
    cases x <;> first | exact nc h | skip
    rename_i fx xs ks p
    cases fx <;> first | exact nc h | skip
    rename_i m q
    cases xs with
    | nil => exact nc h
    | cons y xs =>
    cases xs with
    | cons _ _ => exact nc h
    | nil =>
    cases ks <;> first | exact nc h | skip
    have h' : ((gBlt (tx X fns gls) m "enumerate" && chkE (tx X fns gls) a y) && isTupE tg) = true := h
    rw [Bool.and_eq_true, Bool.and_eq_true] at h'
    obtain ⟨e1, e2⟩ := gBlt_of h'.1.1
    exact i_enum c e1 e2 (chkE_star h'.1.2) (sE a c y h'.1.2).pe h'.2
  | .zip a b, X, E, c, tg, x, h => by
    cases x <;> first | exact nc h | skip
    rename_i fx xs ks p
    cases fx <;> first | exact nc h | skip
    rename_i m q
    cases xs with
    | nil => exact nc h
    | cons y xs =>
    cases xs with
    | nil => exact nc h
    | cons z xs =>
    cases xs with
    | cons _ _ => exact nc h
    | nil =>
    cases ks <;> first | exact nc h | skip
    have h' : (((gBlt (tx X fns gls) m "zip" && chkE (tx X fns gls) a y) && chkE (tx X fns gls) b z) && isTupE tg) = true := h
    rw [Bool.and_eq_true, Bool.and_eq_true, Bool.and_eq_true] at h'
    obtain ⟨e1, e2⟩ := gBlt_of h'.1.1.1
    exact i_zip c e1 e2 (chkE_star h'.1.1.2) (chkE_star h'.1.2) (sE a c y h'.1.1.2).pe (sE b c z h'.1.2).pe h'.2
  | .look _, _, _, _, _, _, h => nc h
end
end
end Px
set_option Elab.async false
set_option linter.all false
set_option maxRecDepth 100000
set_option maxHeartbeats 1000000
namespace Px
open PySem PySem.Spec PyProof.Rows L2
def RtR (K : PySem.W.Frag) (g0 g' : Gh) (fl : Fl) (D : Ends) (σ' : L2.St) : Prop :=
  match fl with
  | .nx => D.nx σ' g'.H
  | .bk => D.bk σ' g'.H
  | .ct => D.ct σ' g'.H
  | .rt r => ∀ v, RvR K g0 g' r v → D.rt v g'.H
/-- from g, the def entered at g0 -/
def PostS (K : PySem.W.Frag) (E : XK) (g0 g : Gh) (r : Res (Fl × Slots)) (D : Ends) : Prop :=
  match r with
  | .ok p S => ∀ g' σ', g'.S = S → Gok K g' → Stp g0 g' → Gro g g' → SlOk K g0 g' σ' p.2 → RtR K g0 g' p.1 D σ'
  | .exc x S => ∀ g' C od, g'.S = S → Gok K g' → Stp g0 g' → XR K g' x C od → E C od g'.H
  | .stuck => False
def rdS (K : PySem.W.Frag) (E : L2.St → XK) (f : Slots → Sto → Res (Fl × Slots)) : TS := fun D σ H => ∃ g0 g sl, g.H = H ∧ Gok K g ∧ SlOk K g0 g σ sl ∧ Stp g0 g ∧ PostS K (E σ) g0 g (f sl g.S) D
section
variable {K : PySem.W.Frag} {E : XK} {g0 g g' : Gh} {σ : L2.St} {sl : Slots}
theorem PostS.shift {D : Ends} {r : Res (Fl × Slots)} (h : PostS K E g0 g r D) (gr : Gro g g') : PostS K E g0 g' r D := by
  cases r with
  | ok p S => intro g1 σ1 e ok st gr1 so; exact h g1 σ1 e ok st (gr.trans gr1) so
  | exc x S => exact h
  | stuck => exact h
/-- an expression, then more -/
theorem PostS.bind {D : Ends} {α β : Type} {RR : Gh → Gh → α → β → Prop} {f : Res α} {k : α → Sto → Res (Fl × Slots)} {Q1 : β → Hp → Prop} (st : Stp g0 g) (h : PostS K E g0 g (f.bind k) D)
    (hk : ∀ g1 a v, Gok K g1 → Stp g g1 → RR g g1 a v → PostS K E g0 g1 (k a g1.S) D → Q1 v g1.H) : Post K E RR g f Q1 := by
  cases f with
  | ok a S => intro g' v e ok s r; subst e; exact hk g' a v ok s r (PostS.shift h s.gro)
  | exc x S => intro g' C od e ok s q; exact h g' C od e ok (st.trans s) q
  | stuck => exact h
theorem PostS.data {r : Res Rv} {k : D → Sto → Res (Fl × Slots)} {De : Ends} {Q1 : V → Hp → Prop} (st : Stp g0 g) (so : SlOk K g0 g σ sl) (h : PostS K E g0 g (r.data.bind k) De)
    (hk : ∀ g1 d v, Gok K g1 → Stp g g1 → SlOk K g0 g1 σ sl → g1.Rep K d v → PostS K E g0 g1 (k d g1.S) De → Q1 v g1.H) : Post K E (RvR K) g r Q1 := by
  unfold Res.data at h
  rw [Res.bind_assoc] at h
  refine PostS.bind st h fun g1 x v ok1 st1 r1 h1 => ?_
  cases e1 : x.toD with
  | none => rw [e1] at h1; exact h1.elim
  | some d =>
    rw [e1] at h1
    obtain ⟨g2, q1, q2, q3, q4, q5, q6⟩ := r1.esc ok1 st1 e1
    rw [← q1]
    rw [Res.opt_some, Res.bind_ok, ← q2] at h1
    exact hk g2 d v q3 q4 (so.step q4) q6 (h1.shift q5)
theorem PostS.int {r : Res Rv} {k : Int → Sto → Res (Fl × Slots)} {De : Ends} {Q1 : V → Hp → Prop} (st : Stp g0 g) (h : PostS K E g0 g (r.int?.bind k) De)
    (hk : ∀ g1 i, Gok K g1 → Stp g g1 → PostS K E g0 g1 (k i g1.S) De → Q1 (.int i) g1.H) : Post K E (RvR K) g r Q1 := by
  unfold Res.int? at h
  rw [Res.bind_assoc] at h
  refine PostS.bind st h fun g1 x v ok1 st1 r1 h1 => ?_
  have l1 := r1.lookR ok1
  generalize x.look = d at h1 l1
  split at h1
  · cases l1.int
    exact hk g1 _ ok1 st1 h1
  · exact h1.elim
/-- a new thing in a name -/
theorem SlOk.setOwn (h : SlOk K g0 g σ sl) (i : Nat) {a : Addr} {c : Cn} {o : HO} (h1 : g.H a = some o) (h2 : g.CRep K c o) (h3 : g.R a = none) (h4 : a ∉ g.sa) (h5 : g0.H a = none) (hn : ∀ (j : Nat) c, sl[j]? = some (.own c) → σ[j]? ≠ some (some (.ref a))) :
    SlOk K g0 g (σ.set i (some (.ref a))) (sl.set i (.own c)) := by
  refine ⟨by rw [List.length_set, List.length_set]; exact h.len, fun j s e => ?_, fun j k c1 c2 b e1 e2 hne e3 e4 => ?_⟩
  · by_cases hj : i = j
    · subst hj
      by_cases hl : i < sl.length
      · rw [List.getElem?_set_self hl] at e
        cases e
        exact ⟨_, List.getElem?_set_self (by rw [h.len]; exact hl), a, o, rfl, h1, h2, h3, h4, h5⟩
      · rw [List.getElem?_eq_none (by rw [List.length_set]; omega)] at e; cases e
    · rw [List.getElem?_set_ne hj] at e
      obtain ⟨x, e1, r1⟩ := h.at_ j s e
      exact ⟨x, by rw [List.getElem?_set_ne hj]; exact e1, r1⟩
  · by_cases hj : i = j
    · subst hj
      have hk : i ≠ k := hne
      rw [List.getElem?_set_ne hk] at e2 e4
      by_cases hl : i < σ.length
      · rw [List.getElem?_set_self hl] at e3
        cases e3
        exact hn k c2 e2 e4
      · rw [List.getElem?_eq_none (by rw [List.length_set]; omega)] at e3; cases e3
    · rw [List.getElem?_set_ne hj] at e1 e3
      by_cases hk : i = k
      · subst hk
        by_cases hl : i < σ.length
        · rw [List.getElem?_set_self hl] at e4
          cases e4
          exact hn j c1 e1 e3
        · rw [List.getElem?_eq_none (by rw [List.length_set]; omega)] at e4; cases e4
      · rw [List.getElem?_set_ne hk] at e2 e4
        exact h.sep j k c1 c2 b e1 e2 hne e3 e4
theorem SlOk.ownAt (h : SlOk K g0 g σ sl) {j : Nat} {c : Cn} {a : Addr} (e : sl[j]? = some (.own c)) (e' : σ[j]? = some (some (.ref a))) : ∃ o, g.H a = some o ∧ g.CRep K c o ∧ g.R a = none ∧ a ∉ g.sa ∧ g0.H a = none := by
  obtain ⟨v, e1, b, o, e2, h1, h2, h3, h4, h5⟩ := h.at_ j _ e
  rw [e1, e2] at e'
  cases e'
  exact ⟨o, h1, h2, h3, h4, h5⟩
theorem asg_ok {i : Nat} {r : Rv} {v : V} {sl' : Slots} {g1 : Gh} (so : SlOk K g0 g σ sl) (s0 : Stp g0 g) (st : Stp g g1) (rr : RvR K g g1 r v) (h : asgV i r sl = some sl') : SlOk K g0 g1 (σ.set i (some v)) sl' := by
  cases r with
  | val d => cases h; exact (so.step st).setVal i rr
  | fresh c =>
    cases h
    obtain ⟨a, o, rfl, h1, h2, h3, h4, h5⟩ := rr
    refine (so.step st).setOwn i h1 h2 h3 h4 (s0.dom a h5) fun j c' e e' => ?_
    obtain ⟨o', q, _⟩ := so.ownAt e e'
    rw [h5] at q; cases q
  | own c => cases h
/-- a name's list becomes one that never changes -/
theorem frz_ok {i : Nat} {c : Cn} (ok : Gok K g) (so : SlOk K g0 g σ sl) (s0 : Stp g0 g) (e : sl[i]? = some (.own c)) :
    ∃ g1 : Gh, g1.H = g.H ∧ g1.S = g.S ∧ Gok K g1 ∧ Stp g0 g1 ∧ Gro g g1 ∧ SlOk K g0 g1 σ (sl.set i (.val c.frz)) := by
  obtain ⟨v, e1, a, o, e2, h1, h2, h3, h4, h5⟩ := so.at_ i _ e
  obtain ⟨k1, k2, k3⟩ := Gh.freeze ok h1 h3 h4 h5 s0
  refine ⟨g.wR (upd g.R a o), rfl, rfl, k1, k3, k2, ?_⟩
  have hil : i < sl.length := (List.getElem?_eq_some_iff.mp e).1
  refine ⟨by rw [List.length_set]; exact so.len, fun j s ej => ?_, fun j k c1 c2 b e1' e2' hne e3 e4 => ?_⟩
  · by_cases hj : i = j
    · subst hj
      rw [List.getElem?_set_self hil] at ej
      cases ej
      refine ⟨v, e1, .ref a, e2, ?_⟩
      cases c with
      | lst xs =>
        obtain ⟨l, vs, rfl, q⟩ := h2
        exact .lst (show upd g.R a (.lst vs) a = some _ from upd_same) l (k2.reps q)
      | dic _ => exact h2.elim
      | dit _ => exact h2.elim
      | err _ => exact h2.elim
    · rw [List.getElem?_set_ne hj] at ej
      obtain ⟨w, f1, f2⟩ := so.at_ j s ej
      refine ⟨w, f1, ?_⟩
      cases s with
      | emp => trivial
      | val d => obtain ⟨x, q1, q2⟩ := f2; exact ⟨x, q1, k2.rep q2⟩
      | own c' =>
        obtain ⟨b, o', q1, q2, q3, q4, q5, q6⟩ := f2
        refine ⟨b, o', q1, q2, k2.crep q3, ?_, q5, q6⟩
        have hb : b ≠ a := fun z => by
          subst z
          exact so.sep i j c c' b e ej hj (by rw [e1, e2]) (by rw [f1, q1])
        show upd g.R a o b = none
        rw [upd_ne hb]; exact q4
  · have nn : ∀ {m : Nat} {c' : Cn}, (sl.set i (.val c.frz))[m]? = some (.own c') → i ≠ m ∧ sl[m]? = some (.own c') := fun {m c'} q => by
      by_cases hm : i = m
      · subst hm; rw [List.getElem?_set_self hil] at q; cases q
      · rw [List.getElem?_set_ne hm] at q; exact ⟨hm, q⟩
    exact so.sep j k c1 c2 b (nn e1').2 (nn e2').2 hne e3 e4
/-- a name's list becomes a shared one -/
theorem shr_ok {i : Nat} {c : Cn} (ok : Gok K g) (so : SlOk K g0 g σ sl) (s0 : Stp g0 g) (e : sl[i]? = some (.own c)) :
    ∃ g1 : Gh, g1.H = g.H ∧ g1.S = g.S ++ [c] ∧ Gok K g1 ∧ Stp g0 g1 ∧ Gro g g1 ∧ SlOk K g0 g1 σ (sl.set i (.val (.ref g.S.length))) := by
  obtain ⟨v, e1, a, o, e2, h1, h2, h3, h4, h5⟩ := so.at_ i _ e
  have gr : Gro g ⟨g.H, g.R, g.sa ++ [a], g.S ++ [c]⟩ := ⟨fun _ _ q => q, ⟨[a], rfl⟩⟩
  refine ⟨⟨g.H, g.R, g.sa ++ [a], g.S ++ [c]⟩, rfl, rfl, ⟨ok.sub, ?_, ?_, fun j b c' q1 q2 => ?_⟩, ⟨s0.hp, s0.dom, s0.rr, s0.rn, ?_, fun b m n => ?_⟩, gr, ?_⟩
  · show (g.sa ++ [a]).length = (g.S ++ [c]).length
    rw [List.length_append, List.length_append, ok.len]; rfl
  · show (g.sa ++ [a]).Nodup
    rw [List.nodup_append]
    exact ⟨ok.nd, by simp, fun b hb d hd => by simp at hd; subst hd; exact fun z => h4 (z ▸ hb)⟩
  · have q1' : (g.sa ++ [a])[j]? = some b := q1
    have q2' : (g.S ++ [c])[j]? = some c' := q2
    by_cases hj : j < g.sa.length
    · rw [List.getElem?_append_left hj] at q1'
      rw [List.getElem?_append_left (by rw [← ok.len]; exact hj)] at q2'
      obtain ⟨u, f1, f2, f3⟩ := ok.sto j b c' q1' q2'
      exact ⟨u, f1, gr.srep f2, f3⟩
    · have hjl : j < (g.sa ++ [a]).length := (List.getElem?_eq_some_iff.mp q1').1
      have ej : j = g.sa.length := by rw [List.length_append] at hjl; simp at hjl; omega
      subst ej
      rw [List.getElem?_append_right (Nat.le_refl _)] at q1'
      rw [List.getElem?_append_right (by rw [ok.len]; exact Nat.le_refl _)] at q2'
      rw [ok.len] at q2'
      simp at q1' q2'
      subst q1' q2'
      exact ⟨o, h1, (gr.crep h2).s, h3⟩
  · obtain ⟨t, q⟩ := s0.sp
    exact ⟨t ++ [a], by show g.sa ++ [a] = _; rw [q, List.append_assoc]⟩
  · have m' : b ∈ g.sa ++ [a] := m
    rcases List.mem_append.mp m' with m' | m'
    · exact s0.sn b m' n
    · have : b = a := by simpa using m'
      rw [this]; exact h5
  · have hil : i < sl.length := (List.getElem?_eq_some_iff.mp e).1
    refine ⟨by rw [List.length_set]; exact so.len, fun j s ej => ?_, fun j k c1 c2 b e1' e2' hne e3 e4 => ?_⟩
    · by_cases hj : i = j
      · subst hj
        rw [List.getElem?_set_self hil] at ej
        cases ej
        refine ⟨v, e1, .ref a, e2, .ref ?_⟩
        show (g.sa ++ [a])[g.S.length]? = some a
        rw [← ok.len, List.getElem?_append_right (Nat.le_refl _)]
        simp
      · rw [List.getElem?_set_ne hj] at ej
        obtain ⟨w, f1, f2⟩ := so.at_ j s ej
        refine ⟨w, f1, ?_⟩
        cases s with
        | emp => trivial
        | val d => obtain ⟨x, q1, q2⟩ := f2; exact ⟨x, q1, gr.rep q2⟩
        | own c' =>
          obtain ⟨b, o', q1, q2, q3, q4, q5, q6⟩ := f2
          refine ⟨b, o', q1, q2, gr.crep q3, q4, ?_, q6⟩
          have hb : b ≠ a := fun z => by
            subst z
            exact so.sep i j c c' b e ej hj (by rw [e1, e2]) (by rw [f1, q1])
          intro m
          have m' : b ∈ g.sa ++ [a] := m
          rcases List.mem_append.mp m' with m' | m'
          · exact q5 m'
          · exact hb (by simpa using m')
    · have nn : ∀ {m : Nat} {c' : Cn}, (sl.set i (.val (.ref g.S.length)))[m]? = some (.own c') → i ≠ m ∧ sl[m]? = some (.own c') := fun {m c'} q => by
        by_cases hm : i = m
        · subst hm; rw [List.getElem?_set_self hil] at q; cases q
        · rw [List.getElem?_set_ne hm] at q; exact ⟨hm, q⟩
      exact so.sep j k c1 c2 b (nn e1').2 (nn e2').2 hne e3 e4
theorem lstAt_ok {i : Nat} (ok : Gok K g) (so : SlOk K g0 g σ sl) (h : lstAt i sl g.S = true) : ∃ a vs, σ[i]? = some (some (.ref a)) ∧ g.H a = some (.lst vs) := by
  unfold lstAt at h
  split at h
  · rename_i xs e
    obtain ⟨v, q1, a, o, q2, h1, h2, _⟩ := so.at_ i _ e
    obtain ⟨_, vs, rfl, _⟩ := h2
    exact ⟨a, vs, by rw [q1, q2], h1⟩
  · rename_i j e
    obtain ⟨v, q1, x, q2, rj⟩ := so.at_ i _ e
    cases rj with | ref ra =>
    rename_i a
    split at h
    · rename_i ys ec
      obtain ⟨o, h1, h2, _⟩ := ok.sto j a _ ra ec
      obtain ⟨_, vs, rfl, _⟩ := h2
      exact ⟨a, vs, by rw [q1, q2], h1⟩
    · cases h
  · cases h
/-- a name's list is changed -/
theorem chg_ok {i : Nat} {f : List D → Option (List D)} {sl' : Slots} {S' : Sto} (ok : Gok K g) (so : SlOk K g0 g σ sl) (s0 : Stp g0 g) (h : chg i f sl g.S = some (sl', S')) :
    ∃ a xs ys vs, σ[i]? = some (some (.ref a)) ∧ g.H a = some (.lst vs) ∧ g.Reps K xs vs ∧ xs.length ≤ sizeLine ∧ f xs = some ys ∧ ∀ us, g.Reps K ys us → ys.length ≤ sizeLine →
      ∃ g1 : Gh, g1.H = upd g.H a (.lst us) ∧ g1.S = S' ∧ Gok K g1 ∧ Stp g0 g1 ∧ Gro g g1 ∧ SlOk K g0 g1 σ sl' := by
  unfold chg at h
  split at h
  · rename_i xs e
    obtain ⟨ys, e1, e2⟩ := Option.map_eq_some_iff.mp h
    cases e2
    obtain ⟨v, q1, a, o, q2, h1, h2, h3, h4, h5⟩ := so.at_ i _ e
    obtain ⟨l, vs, rfl, r⟩ := h2
    subst q2
    refine ⟨a, xs, ys, vs, q1, h1, r, l, e1, fun us ru lu => ⟨g.setH a (.lst us), rfl, rfl, ok.setH h3 h4, s0.setH h5 h1, Gro.setH (Gro.refl g), ?_⟩⟩
    have hil : i < sl.length := (List.getElem?_eq_some_iff.mp e).1
    refine ⟨by rw [List.length_set]; exact so.len, fun j s ej => ?_, fun j k c1 c2 b e1' e2' hne e3 e4 => ?_⟩
    · by_cases hj : i = j
      · subst hj
        rw [List.getElem?_set_self hil] at ej
        cases ej
        exact ⟨_, q1, a, .lst us, rfl, upd_same, ⟨lu, us, rfl, (Gro.setH (Gro.refl g)).reps ru⟩, h3, h4, h5⟩
      · rw [List.getElem?_set_ne hj] at ej
        obtain ⟨w, f1, f2⟩ := so.at_ j s ej
        refine ⟨w, f1, ?_⟩
        cases s with
        | emp => trivial
        | val d => obtain ⟨x, p1, p2⟩ := f2; exact ⟨x, p1, (Gro.setH (Gro.refl g)).rep p2⟩
        | own c' =>
          obtain ⟨b, o', p1, p2, p3, p4, p5, p6⟩ := f2
          have hb : b ≠ a := fun z => by
            subst z
            exact so.sep i j _ c' b e ej hj q1 (by rw [f1, p1])
          refine ⟨b, o', p1, ?_, (Gro.setH (Gro.refl g)).crep p3, p4, p5, p6⟩
          show upd g.H a (.lst us) b = _
          rw [upd_ne hb]; exact p2
    · have nn : ∀ {m : Nat} {c' : Cn}, (sl.set i (.own (.lst ys)))[m]? = some (.own c') → ∃ c'', sl[m]? = some (.own c'') := fun {m c'} q => by
        by_cases hm : i = m
        · subst hm; exact ⟨_, e⟩
        · rw [List.getElem?_set_ne hm] at q; exact ⟨_, q⟩
      obtain ⟨d1, z1⟩ := nn e1'
      obtain ⟨d2, z2⟩ := nn e2'
      exact so.sep j k d1 d2 b z1 z2 hne e3 e4
  · rename_i j e
    split at h
    · rename_i xs e'
      obtain ⟨ys, e1, e2⟩ := Option.map_eq_some_iff.mp h
      cases e2
      obtain ⟨v, q1, x, q2, rj⟩ := so.at_ i _ e
      cases rj with | ref ra =>
      rename_i a
      subst q2
      obtain ⟨o, h1, h2, h3⟩ := ok.sto j a _ ra e'
      obtain ⟨l, vs, rfl, r⟩ := h2
      have gr : ∀ us, Gro g ⟨upd g.H a (.lst us), g.R, g.sa, g.S.set j (.lst ys)⟩ := fun us => ⟨fun _ _ q => q, ⟨[], by simp⟩⟩
      have ha : a ∈ g.sa := List.mem_of_getElem? ra
      refine ⟨a, xs, ys, vs, q1, h1, r, l, e1, fun us ru lu => ⟨⟨upd g.H a (.lst us), g.R, g.sa, g.S.set j (.lst ys)⟩, rfl, rfl, ⟨fun b u q => ?_, ?_, ok.nd, fun k b c' p1 p2 => ?_⟩, ⟨fun b u q n => ?_, fun b q => ?_, s0.rr, s0.rn, s0.sp, s0.sn⟩, gr us, ?_⟩⟩
      · show upd g.H a (.lst us) b = some u
        rw [upd_ne (fun z : b = a => by rw [z] at q; exact absurd (h3.symm.trans q) (by simp))]
        exact ok.sub b u q
      · show g.sa.length = (g.S.set j (.lst ys)).length
        rw [List.length_set]; exact ok.len
      · have p2' : (g.S.set j (.lst ys))[k]? = some c' := p2
        have p1' : g.sa[k]? = some b := p1
        by_cases hk : j = k
        · subst hk
          rw [ra] at p1'
          cases p1'
          rw [List.getElem?_set_self (List.getElem?_eq_some_iff.mp e').1] at p2'
          cases p2'
          exact ⟨.lst us, upd_same, ⟨lu, us, rfl, (gr us).reps ru⟩, h3⟩
        · rw [List.getElem?_set_ne hk] at p2'
          obtain ⟨u, f1, f2, f3⟩ := ok.sto k b c' p1' p2'
          have hb : b ≠ a := fun z => by
            subst z
            obtain ⟨l1, m1⟩ := List.getElem?_eq_some_iff.mp ra
            obtain ⟨l2, m2⟩ := List.getElem?_eq_some_iff.mp p1'
            exact hk ((List.getElem_inj ok.nd).mp (m1.trans m2.symm))
          refine ⟨u, ?_, (gr us).srep f2, f3⟩
          show upd g.H a (.lst us) b = some u
          rw [upd_ne hb]; exact f1
      · show upd g.H a (.lst us) b = some u
        by_cases hb : b = a
        · subst hb
          have := s0.sn b ha n
          rw [q] at this; cases this
        · rw [upd_ne hb]; exact s0.hp b u q n
      · have q' : upd g.H a (.lst us) b = none := q
        by_cases hb : b = a
        · subst hb; rw [upd_same] at q'; cases q'
        · rw [upd_ne hb] at q'; exact s0.dom b q'
      · refine ⟨so.len, fun k s ek => ?_, so.sep⟩
        obtain ⟨w, f1, f2⟩ := so.at_ k s ek
        refine ⟨w, f1, ?_⟩
        cases s with
        | emp => trivial
        | val d => obtain ⟨x, p1, p2⟩ := f2; exact ⟨x, p1, (gr us).rep p2⟩
        | own c' =>
          obtain ⟨b, o', p1, p2, p3, p4, p5, p6⟩ := f2
          refine ⟨b, o', p1, ?_, (gr us).crep p3, p4, p5, p6⟩
          show upd g.H a (.lst us) b = _
          rw [upd_ne (fun z : b = a => p5 (z ▸ ha))]; exact p2
    · cases h
  · cases h
end
end Px
set_option Elab.async false
set_option linter.all false
set_option maxRecDepth 100000
set_option maxHeartbeats 1000000
namespace Px
open PySem PySem.Spec PyProof.Rows L2
section
variable {X : Cx} {F : Cf} {fns gls : List String} {n : Nat} {E : L2.St → XK} {e v : Expr} {pos : Pos}
abbrev rS (X : Cx) (E : L2.St → XK) (F : Cf) (s : Sx) : TS := rdS X.K E (exS F s)
abbrev rB (X : Cx) (E : L2.St → XK) (F : Cf) (s : Sxs) : TS := rdS X.K E (exB F s)
/-- the end of a statement that goes on -/
theorem PostS.next {K : PySem.W.Frag} {E : XK} {g0 g : Gh} {σ : L2.St} {sl : Slots} {S : Sto} {D : Ends} (h : PostS K E g0 g (.ok (.nx, sl) S) D) (e : g.S = S) (ok : Gok K g) (st : Stp g0 g) (so : SlOk K g0 g σ sl) : D.nx σ g.H :=
  h g σ e ok st (Gro.refl g) so
theorem asg_read {i : Nat} {x : Ex} {D : Ends} {σ : L2.St} {H : Hp} {K : PySem.W.Frag} (h : rdS K E (exS F (.asg (.nm i) x)) D σ H) : tAsg (rdE K E (evE F x)) (gName i) D σ H := by
  obtain ⟨g0, g, sl, eH, ok, so, st, h⟩ := h
  subst eH
  unfold exS at h
  refine ⟨g0, g, sl, rfl, ok, so, PostS.bind st h fun g1 r v ok1 st1 r1 h1 => ?_⟩
  cases e1 : asgV i r sl with
  | none => rw [e1] at h1; exact h1.elim
  | some sl' =>
    rw [e1] at h1
    exact PostS.next h1 rfl ok1 (st.trans st1) (asg_ok so st st1 r1 e1)
theorem st_asg {i : Nat} {x : Str} {px : Pos} {y : Ex} (hN : X.N.Nodup) (hi : X.N[i]? = some x) (hx : Loc X.env.scope x) (hf : X.fn x = true ∨ X.env.scope.names.lookup x = some .local) (he : PE X v (rdE X.K E (evE F y))) (hs : swapsWith v (some (.Name x px)) pos.line X.env = pure false) :
    PS X (.Assign [.Name x px] v pos) (rS X E F (.asg (.nm i) y)) := PS.imp (ps_set hN hi hx he hs hf) fun D σ H h => asg_read h
/-- a, b = e, where e is no pair that is swapped -/
theorem st_tup {ts : Tgs} {es : List Expr} {k : Nat} {q : Pos} {y : Ex} (hc : X.calm = true) (hN : X.N.Nodup) (hg : chkG (tx X fns gls) (.tup ts) (.Tuple es k q) = true) (he : PE X v (rdE X.K E (evE F y)))
    (hs : swapsWithSole [.Tuple es k q] v pos.line X.env = pure false) (hw : swappedStores [.Tuple es k q] v X.env = pure none) : PS X (.Assign [.Tuple es k q] v pos) (rS X E F (.asg (.tup ts) y)) :=
  PS.imp (ps_asg he (sG hc hN _ _ hg) hs hw (by rfl)) fun D σ H ⟨g0, g, sl, eH, ok, so, st, h⟩ => by
    subst eH
    unfold exS at h
    refine ⟨g0, g, sl, rfl, ok, so, PostS.data st so h fun g1 d v ok1 st1 so1 r1 h1 => ?_⟩
    cases e1 : bindT (.tup ts) d sl with
    | none => rw [e1] at h1; exact h1.elim
    | some sl' =>
      rw [e1] at h1
      exact ⟨g0, g1, sl, d, sl', rfl, ok1, so1, r1, e1, fun σ' so' _ => PostS.next h1 rfl ok1 (st.trans st1) so'⟩
theorem st_unl {ts : Tgs} {es : List Expr} {k : Nat} {q : Pos} {y : Ex} (hc : X.calm = true) (hN : X.N.Nodup) (hg : chkGs (tx X fns gls) ts es = true) (he : PE X v (rdE X.K E (evE F y)))
    (hs : swapsWithSole [.Tuple es k q] v pos.line X.env = pure false) (hw : swappedStores [.Tuple es k q] v X.env = pure none) : PS X (.Assign [.Tuple es k q] v pos) (rS X E F (.asgL ts y)) := by
  obtain ⟨c1, c2⟩ := chkGs_each (env := X.env) hg
  refine PS.imp (ps_asg he (pg_unl hc (sGs hc hN ts es hg) c1 c2) hs hw (by rfl)) fun D σ H ⟨g0, g, sl, eH, ok, so, st, h⟩ => ?_
  subst eH
  unfold exS at h
  refine ⟨g0, g, sl, rfl, ok, so, PostS.bind st h fun g1 r v ok1 st1 r1 h1 => ?_⟩
  have key : ∀ xs, listOf r g1.S = some xs → ∃ a vs, v = .ref a ∧ SqL X.K g1.H a vs ∧ g1.Reps X.K xs vs := fun xs hx => by
    cases r with
    | val d =>
      cases d with
      | ref j =>
        have r1' : g1.Rep X.K (.ref j) v := r1
        cases r1' with | ref ra =>
        rename_i a
        have hx' : (match g1.S[j]? with | some (.lst xs) => some xs | _ => none) = some xs := hx
        cases ej : g1.S[j]? with
        | none => rw [ej] at hx'; cases hx'
        | some c =>
          rw [ej] at hx'
          cases c with
          | dic _ => cases hx'
          | dit _ => cases hx'
          | err _ => cases hx'
          | lst ys =>
          cases hx'
          obtain ⟨o, h1, h2, _⟩ := ok1.sto j a _ ra ej
          obtain ⟨l, vs, rfl, q⟩ := h2
          exact ⟨a, vs, rfl, SqL.of h1, q⟩
      | lst ys =>
        obtain rfl : ys = xs := Option.some.inj hx
        have r1' : g1.Rep X.K (.lst ys) v := r1
        cases r1' with | lst a l q => exact ⟨_, _, rfl, SqL.of (ok1.sub _ _ a), q⟩
      | _ => cases hx
    | fresh c =>
      cases c with
      | dic _ => cases hx
      | dit _ => cases hx
      | err _ => cases hx
      | lst ys =>
      cases hx
      obtain ⟨a, o, rfl, h1, h2, _⟩ := r1
      obtain ⟨l, vs, rfl, q⟩ := h2
      exact ⟨a, vs, rfl, SqL.of h1, q⟩
    | own c =>
      cases c with
      | dic _ => cases hx
      | dit _ => cases hx
      | err _ => cases hx
      | lst ys =>
      cases hx
      obtain ⟨a, o, rfl, h1, h2, _⟩ := r1
      obtain ⟨l, vs, rfl, q⟩ := h2
      exact ⟨a, vs, rfl, SqL.of h1, q⟩
  cases e0 : listOf r g1.S with
  | none => rw [e0] at h1; exact h1.elim
  | some xs =>
    rw [e0] at h1
    dsimp only at h1
    obtain ⟨a, vs, rfl, hq, q⟩ := key xs e0
    cases e1 : bindTs ts xs sl with
    | none => rw [e1] at h1; exact h1.elim
    | some sl' =>
      rw [e1] at h1
      refine ⟨a, vs, rfl, hq, by rw [← q.length]; exact bindTs_len e1, g0, g1, sl, xs, sl', rfl, ok1, so.step st1, q, e1, fun σ' so' _ => PostS.next h1 rfl ok1 (st.trans st1) so'⟩
theorem st_aug {i : Nat} {x : Str} {px : Pos} {y : Ex} {o : Bop} {f : Int → Int → Int} (hN : X.N.Nodup) (hi : X.N[i]? = some x) (hx : Loc X.env.scope x) (hf : X.fn x = true ∨ X.env.scope.names.lookup x = some .local) (he : PE X v (rdE X.K E (evE F y)))
    (ho : PIp X o.op (ipI f)) (hfo : ∀ a b, opBin o (.val (.int a)) (.val (.int b)) = some (.val (.int (f a b)))) : PS X (.AugAssign (.Name x px) o.op v pos) (rS X E F (.aug i o y)) :=
  PS.imp (ps_aug hN hi hx he ho hf) fun D σ H ⟨g0, g, sl, eH, ok, so, st, h⟩ => by
    subst eH
    unfold exS at h
    split at h
    · rename_i a e1
      obtain ⟨w, e2, z, e3, rz⟩ := so.at_ i _ e1
      cases rz
      refine ⟨.int a, by rw [e2, e3], g0, g, sl, rfl, ok, so, PostS.bind st h fun g1 r v ok1 st1 r1 h1 => ?_⟩
      have l1 := r1.lookR ok1
      generalize r.look = d at h1 l1
      split at h1
      · cases l1.int
        rename_i b
        rw [hfo] at h1
        exact ⟨a, b, rfl, rfl, PostS.next h1 rfl ok1 (st.trans st1) ((so.step st1).setVal i (.int _))⟩
      · exact h1.elim
    · exact h.elim
theorem st_setix {i : Nat} {x : Str} {px q : Pos} {z : Expr} {k y : Ex} (hz : ∀ l u s p, z ≠ .Slice l u s p) (hi : X.N[i]? = some x) (hx : Vis X.env.scope x) (hd : (x == ("__debug__" : Str)) = false) (hcd : (x == ("__classdict__" : Str)) = false) (hk : PE X z (rdE X.K E (evE F k))) (he : PE X v (rdE X.K E (evE F y)))
    (hs : swapsWithSole [.Subscript (.Name x px) z q] v pos.line X.env = pure false) (hw : swappedStores [.Subscript (.Name x px) z q] v X.env = pure none) :
    PS X (.Assign [.Subscript (.Name x px) z q] v pos) (rS X E F (.setix i k y)) :=
  PS.imp (ps_asg he (pg_sub (pe_var hi hx hd hcd) hk set_list (by intro _; cases z <;> first | rfl | exact absurd rfl (hz _ _ _ _))) hs hw (by rfl)) fun D σ H ⟨g0, g, sl, eH, ok, so, st, h⟩ => by
    subst eH
    unfold exS at h
    refine ⟨g0, g, sl, rfl, ok, so, PostS.data st so h fun g1 d v ok1 st1 so1 r1 h1 => ?_⟩
    split at h1
    case isFalse => exact h1.elim
    rename_i hla
    obtain ⟨a, vs0, ea, _⟩ := lstAt_ok ok1 so1 hla
    refine ⟨.ref a, ea, g0, g1, sl, rfl, ok1, so1, PostS.int (st.trans st1) h1 fun g2 j ok2 st2 h2 => ?_⟩
    have so2 := so1.step st2
    have r2 := st2.gro.rep r1
    cases e1 : chg i (setD · j d) sl g2.S with
    | none => rw [e1] at h2; exact h2.elim
    | some p =>
      obtain ⟨sl', S'⟩ := p
      rw [e1] at h2
      obtain ⟨a', xs, ys, vs, q1, q2, q3, q4, q5, q6⟩ := chg_ok ok2 so2 (st.trans (st1.trans st2)) e1
      rw [ea] at q1
      cases q1
      obtain ⟨m, em, rfl⟩ := Option.map_eq_some_iff.mp q5
      obtain ⟨g3, p1, p2, p3, p4, p5, p6⟩ := q6 (vs.set m v) (q3.set m r2) (by rw [List.length_set]; exact q4)
      refine ⟨a, vs, j, m, rfl, rfl, q2, by rw [← q3.length]; exact em, ?_⟩
      rw [← p1]
      exact h2 g3 σ p2 p3 p4 p5 p6
theorem st_app {i : Nat} {x m : Str} {px ap cp : Pos} {y : Expr} {z : Ex} (hm : m = sO "append") (hi : X.N[i]? = some x) (hx : Vis X.env.scope x) (hd : (x == ("__debug__" : Str)) = false) (hcd : (x == ("__classdict__" : Str)) = false) (hst : notStar y = true) (hl : (ap.endLine == cp.line) = true) (he : PE X y (rdE X.K E (evE F z))) :
    PS X (.Expr (.Call (.Attribute (.Name x px) m ap) [y] [] cp) pos) (rS X E F (.app i z)) := by
  subst hm
  have hs := star_cons (env := X.env) (es := []) hst
  refine PS.imp (ps_expr (pe_bm PySem.F.plainAttrs_list PySem.F.slot_list_append PySem.F.type_list_append mt_append (pe_var hi hx hd hcd) (pa_cons he pa_nil hs) (by rfl) (by rw [hs]; rfl) hl hs (by rfl)) (by rfl)) fun D σ H ⟨g0, g, sl, eH, ok, so, st, h⟩ => ?_
  subst eH
  unfold exS at h
  split at h
  case isFalse => exact h.elim
  rename_i hla
  obtain ⟨a, vs0, ea, ha0⟩ := lstAt_ok ok so hla
  refine ⟨.ref a, ea, .inl ⟨rfl, vs0, SqL.of ha0⟩, g0, g, sl, rfl, ok, so, PostS.data st so h fun g1 d v ok1 st1 so1 r1 h1 => ?_⟩
  cases e1 : chg i (appD · d) sl g1.S with
  | none => rw [e1] at h1; exact h1.elim
  | some p =>
    obtain ⟨sl', S'⟩ := p
    rw [e1] at h1
    obtain ⟨a', xs, ys, vs, q1, q2, q3, q4, q5, q6⟩ := chg_ok ok1 so1 (st.trans st1) e1
    rw [ea] at q1
    cases q1
    unfold appD at q5
    split at q5
    case isFalse => cases q5
    rename_i hz
    cases q5
    obtain ⟨g3, p1, p2, p3, p4, p5, p6⟩ := q6 (vs ++ [v]) (q3.append (.one r1)) (by rw [List.length_append]; exact hz)
    refine ⟨a, vs, v, rfl, rfl, q2, by rw [← q3.length]; exact hz, ?_⟩
    rw [← p1]
    exact h1 g3 σ p2 p3 p4 p5 p6
theorem st_ins {i : Nat} {x m : Str} {px ap cp : Pos} {y : Expr} {z : Ex} (hm : m = sO "insert") {kc : Nat} {pc : Pos} (hi : X.N[i]? = some x) (hx : Vis X.env.scope x) (hd : (x == ("__debug__" : Str)) = false) (hcd : (x == ("__classdict__" : Str)) = false) (hst : notStar y = true) (hl : (ap.endLine == cp.line) = true) (he : PE X y (rdE X.K E (evE F z))) :
    PS X (.Expr (.Call (.Attribute (.Name x px) m ap) [.Constant (.int 0) kc pc, y] [] cp) pos) (rS X E F (.ins0 i z)) := by
  subst hm
  have hs := star_cons (env := X.env) (es := []) hst
  have hs2 : starEach [.Constant (.int 0) kc pc, y] X.env = (false, eval (.Constant (.int 0) kc pc) X.env) :: starEach [y] X.env := rfl
  refine PS.imp (ps_expr (pe_bm PySem.F.plainAttrs_list PySem.F.slot_list_insert PySem.F.type_list_insert mt_insert (pe_var hi hx hd hcd) (pa_cons pe_int (pa_cons he pa_nil hs)) (by rfl) (by rw [hs2, hs]; rfl) hl hs2 (by rw [hs]; rfl)) (by rfl)) fun D σ H ⟨g0, g, sl, eH, ok, so, st, h⟩ => ?_
  subst eH
  unfold exS at h
  split at h
  case isFalse => exact h.elim
  rename_i hla
  obtain ⟨a, vs0, ea, ha0⟩ := lstAt_ok ok so hla
  refine ⟨.ref a, ea, .inl ⟨rfl, vs0, SqL.of ha0⟩, g0, g, sl, rfl, ok, so, PostS.data st so h fun g1 d v ok1 st1 so1 r1 h1 => ?_⟩
  cases e1 : chg i (insD · d) sl g1.S with
  | none => rw [e1] at h1; exact h1.elim
  | some p =>
    obtain ⟨sl', S'⟩ := p
    rw [e1] at h1
    obtain ⟨a', xs, ys, vs, q1, q2, q3, q4, q5, q6⟩ := chg_ok ok1 so1 (st.trans st1) e1
    rw [ea] at q1
    cases q1
    unfold insD at q5
    split at q5
    case isFalse => cases q5
    rename_i hz
    cases q5
    obtain ⟨g3, p1, p2, p3, p4, p5, p6⟩ := q6 (v :: vs) (.cons r1 q3) (by rw [List.length_cons]; exact hz)
    refine ⟨a, vs, 0, v, rfl, rfl, q2, by rw [← q3.length]; exact hz, by decide, by decide, ?_⟩
    show D.nx σ (upd g1.H a (.lst ([] ++ [v] ++ vs)))
    rw [List.nil_append, List.singleton_append, ← p1]
    exact h1 g3 σ p2 p3 p4 p5 p6
theorem st_ext {i : Nat} {x m : Str} {px ap cp : Pos} {y : Expr} {z : Ex} (hm : m = sO "extend") (hi : X.N[i]? = some x) (hx : Vis X.env.scope x) (hd : (x == ("__debug__" : Str)) = false) (hcd : (x == ("__classdict__" : Str)) = false) (hst : notStar y = true) (hl : (ap.endLine == cp.line) = true) (he : PE X y (rdE X.K E (evE F z))) :
    PS X (.Expr (.Call (.Attribute (.Name x px) m ap) [y] [] cp) pos) (rS X E F (.ext i z)) := by
  subst hm
  have hs := star_cons (env := X.env) (es := []) hst
  have core : ∀ {r : V → List V → Hp → VK → Prop}, MtM X "list.extend" r → PS X (.Expr (.Call (.Attribute (.Name x px) (sO "extend") ap) [y] [] cp) pos) _ := fun {r} hr =>
    ps_expr (pe_bm PySem.F.plainAttrs_list PySem.F.slot_list_extend PySem.F.type_list_extend hr (pe_var hi hx hd hcd) (pa_cons he pa_nil hs) (by rfl) (by rw [hs]; rfl) hl hs (by rfl)) (by rfl)
  have both : MtM X "list.extend" (fun x vs H Q => rExtend x vs H Q ∨ rExtT X.K x vs H Q) := fun pins s σ H x vs v us Q I rx rv h =>
    h.elim (mt_extend pins s σ H x vs v us Q I rx rv) (mt_extT pins s σ H x vs v us Q I rx rv)
  refine PS.imp (core both) fun D σ H ⟨g0, g, sl, eH, ok, so, st, h⟩ => ?_
  subst eH
  unfold exS at h
  split at h
  case isFalse => exact h.elim
  rename_i hla
  obtain ⟨a, vs0, ea, ha0⟩ := lstAt_ok ok so hla
  refine ⟨.ref a, ea, .inl ⟨rfl, vs0, SqL.of ha0⟩, g0, g, sl, rfl, ok, so, PostS.bind st h fun g1 r v ok1 st1 r1 h1 => ?_⟩
  have l1 := r1.lookR ok1
  generalize r.look = d at h1 l1
  have so1 := so.step st1
  cases hseq : d.seq with
  | none => rw [hseq] at h1; exact h1.elim
  | some ds =>
    rw [hseq] at h1
    dsimp only at h1
    cases e1 : chg i (extD · ds) sl g1.S with
    | none => rw [e1] at h1; exact h1.elim
    | some p =>
      obtain ⟨sl', S'⟩ := p
      rw [e1] at h1
      obtain ⟨a', xs, ys, vs, q1, q2, q3, q4, q5, q6⟩ := chg_ok ok1 so1 (st.trans st1) e1
      rw [ea] at q1
      cases q1
      unfold extD at q5
      split at q5
      case isFalse => cases q5
      rename_i hz
      cases q5
      cases d <;> first | cases hseq | skip
      · obtain ⟨b, us, rfl, s1, t1, z1, k1⟩ := l1.tup ok1
        obtain ⟨g3, p1, p2, p3, p4, p5, p6⟩ := q6 (vs ++ us) (q3.append k1) (by rw [List.length_append]; exact hz)
        refine .inr ⟨a, b, vs, us, rfl, rfl, q2, t1, by rw [← q3.length, ← k1.length]; exact hz, ?_⟩
        rw [← p1]
        exact h1 g3 σ p2 p3 p4 p5 p6
      · obtain ⟨b, us, rfl, hb, z1, k1⟩ := l1.lst
        obtain ⟨g3, p1, p2, p3, p4, p5, p6⟩ := q6 (vs ++ us) (q3.append k1) (by rw [List.length_append]; exact hz)
        refine .inl ⟨a, b, vs, us, rfl, rfl, q2, hb, by rw [← q3.length, ← k1.length]; exact hz, ?_⟩
        rw [← p1]
        exact h1 g3 σ p2 p3 p4 p5 p6
theorem st_setixr {b z v : Expr} {q : Pos} {x k y : Ex} (hz : ∀ l u s p, z ≠ .Slice l u s p) (hb : PE X b (rdE X.K E (evE F x))) (hk : PE X z (rdE X.K E (evE F k))) (he : PE X v (rdE X.K E (evE F y)))
    (hs : swapsWithSole [.Subscript b z q] v pos.line X.env = pure false) (hw : swappedStores [.Subscript b z q] v X.env = pure none) :
    PS X (.Assign [.Subscript b z q] v pos) (rS X E F (.setixr x k y)) :=
  PS.imp (ps_asg he (pg_sub hb hk set_list (by intro _; cases z <;> first | rfl | exact absurd rfl (hz _ _ _ _))) hs hw (by rfl)) fun D σ H ⟨g0, g, sl, eH, ok, so, st, h⟩ => by
    subst eH
    unfold exS at h
    refine ⟨g0, g, sl, rfl, ok, so, PostS.data st so h fun g1 d v ok1 st1 so1 r1 h1 => ?_⟩
    refine ⟨g0, g1, sl, rfl, ok1, so1, PostS.bind (st.trans st1) h1 fun g2 r w ok2 st2 r2 h2 => ?_⟩
    refine ⟨g0, g2, sl, rfl, ok2, so1.step st2, PostS.int (st.trans (st1.trans st2)) h2 fun g3 j ok3 st3 h3 => ?_⟩
    have r1 := st3.gro.rep (st2.gro.rep r1)
    have r2 := r2.after st3
    have so3 := (so1.step st2).step st3
    split at h3
    case h_2 => exact h3.elim
    rename_i m xs er
    obtain ⟨a1, vs, e2, q1, q2, q3, q4, q5, q6⟩ := refAt_ok ok3 r2 er
    split at h3
    case h_2 => exact h3.elim
    rename_i ys ey
    obtain ⟨i, ei, rfl⟩ := Option.map_eq_some_iff.mp ey
    obtain ⟨g4, p1, p2, p3, p4, p5, p6⟩ := sto_set ok3 q1 q2 q3 q4 (q6.set i r1) (by rw [List.length_set]; exact q5)
    refine ⟨a1, vs, j, i, e2, rfl, q3, by rw [← q6.length]; exact ei, ?_⟩
    rw [← p1]
    exact h3 g4 σ p2 p3 (st.trans (st1.trans (st2.trans (st3.trans p4)))) p4.gro (so3.step p4)
end
end Px
set_option Elab.async false
set_option linter.all false
set_option maxRecDepth 100000
set_option maxHeartbeats 1000000
namespace Px
open PySem PySem.Spec PyProof.Rows L2
section
variable {X : Cx} {F : Cf} {fns gls : List String} {n : Nat} {E : L2.St → XK} {pos : Pos} {v : Expr}
theorem swaps_sub {v o i : Expr} {q : Pos} {l : Nat} {env : Env} : swapsWith v (some (.Subscript o i q)) l env = pure false := by
  cases v <;> rfl
theorem st_dput {b z v : Expr} {q : Pos} {x k y : Ex} (hu : X.A.units + 1 < cLine) (hz : ∀ l u s p, z ≠ .Slice l u s p) (hb : PE X b (rdE X.K E (evE F x))) (hk : PE X z (rdE X.K E (evE F k))) (he : PE X v (rdE X.K E (evE F y))) :
    PS X (.Assign [.Subscript b z q] v pos) (rS X E F (.dput x k y)) :=
  PS.imp (ps_dput hu hb hk he swaps_sub) fun D σ H ⟨g0, g, sl, eH, ok, so, st, h⟩ => by
    subst eH
    unfold exS at h
    refine ⟨g0, g, sl, rfl, ok, so, PostS.data st so h fun g1 d v ok1 st1 so1 r1 h1 => ?_⟩
    refine ⟨g0, g1, sl, rfl, ok1, so1, PostS.bind (st.trans st1) h1 fun g2 r w ok2 st2 r2 h2 => ?_⟩
    refine ⟨g0, g2, sl, rfl, ok2, so1.step st2, PostS.bind (st.trans (st1.trans st2)) h2 fun g3 x u ok3 st3 r3 h3 => ?_⟩
    have r1 := st3.gro.rep (st2.gro.rep r1)
    have r2 := r2.after st3
    have so3 := (so1.step st2).step st3
    split at h3
    case h_2 => exact h3.elim
    rename_i κ m kvs ek ed
    split at h3
    case isFalse => exact h3.elim
    rename_i hl
    obtain ⟨a1, vs, e2, q1, q3, q4, q5, q6⟩ := dicAt_ok ok3 r2 ed
    have eu := kOf_ok (r3.lookR ok3) ek
    have hl2 : vs.length < sizeLine := by rw [← Paired.length q6]; exact hl
    obtain ⟨g4, p1, p2, p3, p4, p5, p6⟩ := sto_setS (c := .dic (putD kvs κ d)) (o := .dK (putK vs κ v)) ok3 q1 q4 (fun g' gr => ⟨by
      unfold putD
      split
      · rw [List.length_map]; exact q5
      · rw [List.length_append]; exact hl, _, rfl, KvR.put (Paired.mapP q6 fun _ _ ⟨z1, z2⟩ => ⟨z1, gr.rep z2⟩) κ (gr.rep r1)⟩)
    refine ⟨a1, _, e2, by rw [eu]; exact DPut.k q3 hl2, ?_⟩
    rw [← p1]
    exact h3 g4 σ p2 p3 (st.trans (st1.trans (st2.trans (st3.trans p4)))) p4.gro (so3.step p4)
theorem erase_first : ∀ {ns : List Int} {k : Int}, k ∈ ns → ∃ j : Nat, ns[j]? = some k ∧ (∀ m : Nat, m < j → ns[m]? ≠ some k) ∧ ns.erase k = ns.eraseIdx j
  | x :: r, k, h => by
    by_cases c : x = k
    · subst c
      exact ⟨0, rfl, fun m hm => absurd hm (Nat.not_lt_zero _), by rw [List.erase_cons_head]; rfl⟩
    · rcases List.mem_cons.mp h with h | h
      · exact absurd h.symm c
      · obtain ⟨j, h1, h2, h3⟩ := erase_first h
        refine ⟨j + 1, h1, fun m hm => ?_, ?_⟩
        · cases m with
          | zero => intro z; exact c (Option.some.inj z)
          | succ m => exact h2 m (by omega)
        · rw [List.erase_cons_tail (by simpa using c), h3]
          rfl
theorem st_rem {i : Nat} {x m : Str} {px ap cp : Pos} {y : Expr} {z : Ex} (hm : m = sO "remove") (hi : X.N[i]? = some x) (hx : Vis X.env.scope x) (hd : (x == ("__debug__" : Str)) = false) (hcd : (x == ("__classdict__" : Str)) = false) (hst : notStar y = true) (hl : (ap.endLine == cp.line) = true) (he : PE X y (rdE X.K E (evE F z))) :
    PS X (.Expr (.Call (.Attribute (.Name x px) m ap) [y] [] cp) pos) (rS X E F (.rem i z)) := by
  subst hm
  have hs := star_cons (env := X.env) (es := []) hst
  refine PS.imp (ps_expr (pe_bm PySem.F.plainAttrs_list PySem.F.slot_list_remove PySem.F.type_list_remove mt_remove (pe_var hi hx hd hcd) (pa_cons he pa_nil hs) (by rfl) (by rw [hs]; rfl) hl hs (by rfl)) (by rfl)) fun D σ H ⟨g0, g, sl, eH, ok, so, st, h⟩ => ?_
  subst eH
  unfold exS at h
  split at h
  case isFalse => exact h.elim
  rename_i hla
  obtain ⟨a, vs0, ea, ha0⟩ := lstAt_ok ok so hla
  refine ⟨.ref a, ea, .inl ⟨rfl, vs0, SqL.of ha0⟩, g0, g, sl, rfl, ok, so, PostS.data st so h fun g1 d v ok1 st1 so1 r1 h1 => ?_⟩
  cases e1 : chg i (remD · d) sl g1.S with
  | none => rw [e1] at h1; exact h1.elim
  | some p =>
    obtain ⟨sl', S'⟩ := p
    rw [e1] at h1
    obtain ⟨a', xs, ys, vs, q1, q2, q3, q4, q5, q6⟩ := chg_ok ok1 so1 (st.trans st1) e1
    rw [ea] at q1
    cases q1
    unfold remD at q5
    split at q5
    case h_2 => cases q5
    rename_i ns k en
    split at q5
    case isFalse => cases q5
    rename_i hk
    cases q5
    have ev := dInts_vals q3 en
    subst ev
    obtain ⟨j, j1, j2, j3⟩ := erase_first hk.1
    have ek : v = .int k := by
      have r1' : g1.Rep X.K (.int k) v := r1
      cases r1'
      rfl
    subst ek
    have reps_map : ∀ l : List Int, g1.Reps X.K (l.map Px.D.int) (l.map V.int) := fun l => by
      induction l with
      | nil => exact .nil
      | cons z l ih => exact .cons (.int _) ih
    obtain ⟨g3, p1, p2, p3, p4, p5, p6⟩ := q6 ((ns.erase k).map V.int) (reps_map _) (by
      rw [List.length_map]
      have l1 := List.length_erase_le (a := k) (l := ns)
      have l2 : xs.length = ns.length := by have := q3.length; rw [List.length_map] at this; exact this
      omega)
    refine ⟨a, ns, k, j, rfl, rfl, q2, j1, j2, ?_⟩
    rw [← j3, ← p1]
    exact h1 g3 σ p2 p3 p4 p5 p6
/-- xs[i], by values -/
theorem get_list : PGet X (fun o i H Q => ∃ p xs k w, o = .ref p ∧ i = .int k ∧ H p = some (.lst xs) ∧ atI xs k = some w ∧ Q w H) := by
  intro pins s σ H x y v u Q I rx ry h
  obtain ⟨p, xs, i, z, rfl, rfl, hq, he, q⟩ := h
  cases rx
  obtain ⟨t, rfl⟩ := ry
  obtain ⟨its, n, r, ho, hz⟩ := I.lst hq
  have pl : s.heap.IsList p its.toArray := ⟨_, ho, rfl, _, rfl⟩
  obtain ⟨j, h1, h2, h3, h4, h5⟩ := atI_get he
  obtain ⟨w, ew, rw'⟩ := r.get h2
  have hl := r.length
  have hn := line63
  have fin : EP X pins σ Q w s := ⟨z, H, I, rw', q⟩
  by_cases h0 : 0 ≤ i
  · have hj : i.toNat = j := by
      rw [seqIndex_of h0 h5] at h1
      exact Option.some.inj h1
    exact wpAny_getItem_list pl h0 (by omega) (by rw [hj]; simpa using ew) fin
  · have hj : (i + (its.toArray.size : Int)).toNat = j := by
      rw [seqIndex_neg (by omega) h4] at h1
      rw [List.size_toArray, ← hl]
      exact Option.some.inj h1
    exact wpAny_getItem_list_neg pl (by omega) (by rw [List.size_toArray] <;> omega) (by omega) (by rw [hj]; simpa using ew) fin
theorem listAt_ok {K : PySem.W.Frag} {g0 g : Gh} {σ : L2.St} {sl : Slots} {i : Nat} {xs : List D} (ok : Gok K g) (so : SlOk K g0 g σ sl) (h : listAt i sl g.S = some xs) : ∃ a vs, σ[i]? = some (some (.ref a)) ∧ g.H a = some (.lst vs) ∧ g.Reps K xs vs := by
  unfold listAt at h
  split at h
  · rename_i ys e
    cases h
    obtain ⟨v, q1, a, o, q2, h1, h2, _⟩ := so.at_ i _ e
    obtain ⟨_, vs, rfl, r⟩ := h2
    exact ⟨a, vs, by rw [q1, q2], h1, r⟩
  · rename_i j e
    obtain ⟨v, q1, x, q2, rj⟩ := so.at_ i _ e
    cases rj with | ref ra =>
    rename_i a
    split at h
    · rename_i ys ec
      cases h
      obtain ⟨o, h1, h2, _⟩ := ok.sto j a _ ra ec
      obtain ⟨_, vs, rfl, r⟩ := h2
      exact ⟨a, vs, by rw [q1, q2], h1, r⟩
    · cases h
  · cases h
theorem st_augix {i : Nat} {x : Str} {px q : Pos} {z v : Expr} {k y : Ex} {o : Bop} {f : Int → Int → Int} (hz : ∀ l u s p, z ≠ .Slice l u s p) (hi : X.N[i]? = some x) (hx : Vis X.env.scope x) (hd : (x == ("__debug__" : Str)) = false) (hcd : (x == ("__classdict__" : Str)) = false)
    (hk : PE X z (rdE X.K E (evE F k))) (he : PE X v (rdE X.K E (evE F y))) (ho : PIp X o.op (ipI f)) (hfo : ∀ a b, opBin o (.val (.int a)) (.val (.int b)) = some (.val (.int (f a b)))) :
    PS X (.AugAssign (.Subscript (.Name x px) z q) o.op v pos) (rS X E F (.augix i k o y)) :=
  PS.imp (ps_augS (pe_var hi hx hd hcd) hk get_list he ho set_list (by intro _ _ _; cases z <;> first | rfl | exact absurd rfl (hz _ _ _ _))) fun D σ H ⟨g0, g, sl, eH, ok, so, st, h⟩ => by
    subst eH
    unfold exS at h
    split at h
    case isFalse => exact h.elim
    rename_i hla
    obtain ⟨a, vs0, ea, _⟩ := lstAt_ok ok so hla
    refine ⟨.ref a, ea, g0, g, sl, rfl, ok, so, PostS.int st h fun g1 j ok1 st1 h1 => ?_⟩
    have so1 := so.step st1
    split at h1
    case h_2 => exact h1.elim
    rename_i av ev
    obtain ⟨xs, el, ei⟩ := Option.bind_eq_some_iff.mp ev
    obtain ⟨a1, vs, ea1, ha1, rs⟩ := listAt_ok ok1 so1 el
    rw [ea] at ea1
    cases ea1
    have ei' : atI xs j = some (.int av) := ei
    obtain ⟨m, em, em2⟩ : ∃ m, ixN xs.length j = some m ∧ xs[m]? = some (Px.D.int av) := by
      unfold atI at ei'
      exact Option.bind_eq_some_iff.mp ei'
    obtain ⟨w, ew, rw'⟩ := rs.get em2
    have rw2 : w = .int av := by
      have rw' : g1.Rep X.K (.int av) w := rw'
      cases rw'
      rfl
    subst rw2
    refine ⟨a, vs, j, .int av, rfl, rfl, ha1, by unfold atI; rw [← rs.length, em]; exact ew, ?_⟩
    refine ⟨g0, g1, sl, rfl, ok1, so1, PostS.int (st.trans st1) h1 fun g2 b ok2 st2 h2 => ?_⟩
    have so2 := so1.step st2
    rw [hfo] at h2
    dsimp only at h2
    cases e1 : chg i (setD · j (.int (f av b))) sl g2.S with
    | none => rw [e1] at h2; exact h2.elim
    | some p =>
      obtain ⟨sl', S'⟩ := p
      rw [e1] at h2
      obtain ⟨a', xs2, ys, vs2, q1, q2, q3, q4, q5, q6⟩ := chg_ok ok2 so2 (st.trans (st1.trans st2)) e1
      rw [ea] at q1
      cases q1
      obtain ⟨m2, em3, rfl⟩ := Option.map_eq_some_iff.mp q5
      obtain ⟨g3, p1, p2, p3, p4, p5, p6⟩ := q6 (vs2.set m2 (.int (f av b))) (q3.set m2 (.int _)) (by rw [List.length_set]; exact q4)
      refine ⟨av, b, rfl, rfl, a, vs2, j, m2, rfl, rfl, q2, by rw [← q3.length]; exact em3, ?_⟩
      rw [← p1]
      exact h2 g3 σ p2 p3 p4 p5 p6
end
end Px
set_option Elab.async false
set_option linter.all false
set_option maxRecDepth 100000
set_option maxHeartbeats 1000000
namespace Px
open PySem PySem.Spec PyProof.Rows L2
section
variable {X : Cx} {F : Cf} {fns gls : List String} {n : Nat} {E : L2.St → XK} {e v : Expr} {pos : Pos}
theorem b_nil : PSs X [] (rB X E F .nil) := PSs.imp pss_nil fun D σ H ⟨g0, g, sl, eH, ok, so, st, h⟩ => by
  subst eH
  unfold exB at h
  exact PostS.next h rfl ok st so
theorem b_cons {E : XK} {s : Stmt} {ss : List Stmt} {y : Sx} {ys : Sxs} (h1 : PS X s (rS X (kE E) F y)) (h2 : PSs X ss (rB X (kE E) F ys)) : PSs X (s :: ss) (rB X (kE E) F (.cons y ys)) :=
  PSs.imp (pss_cons h1 h2) fun D σ H ⟨g0, g, sl, eH, ok, so, st, h⟩ => by
    subst eH
    unfold exB at h
    refine ⟨g0, g, sl, rfl, ok, so, st, ?_⟩
    cases e1 : exS F y sl g.S with
    | stuck => rw [e1] at h; exact h
    | exc x S => rw [e1] at h; exact h
    | ok p S =>
      rw [e1, Res.bind_ok] at h
      obtain ⟨f, sl1⟩ := p
      intro g' σ' eS ok' st' gr' so'
      subst eS
      cases f with
      | nx => exact ⟨g0, g', sl1, rfl, ok', so', st', h.shift gr'⟩
      | bk => exact h g' σ' rfl ok' st' gr' so'
      | ct => exact h g' σ' rfl ok' st' gr' so'
      | rt r => exact h g' σ' rfl ok' st' gr' so'
theorem exS_frz {i : Nat} {sl : Slots} {S : Sto} : exS F (.frz i) sl S = match sl[i]? with
    | some (.own c) => .ok (.nx, sl.set i (.val c.frz)) S
    | some (.val _) => .ok (.nx, sl) S
    | _ => .stuck := by (first | rfl | (simp only [exS]; rfl))
theorem exS_shr {i : Nat} {sl : Slots} {S : Sto} : exS F (.shr i) sl S = match sl[i]? with
    | some (.own c) => .ok (.nx, sl.set i (.val (.ref S.length))) (S ++ [c])
    | _ => .stuck := by (first | rfl | (simp only [exS]; rfl))
theorem b_frz {i : Nat} {ss : List Stmt} {ys : Sxs} (h : PSs X ss (rB X E F ys)) : PSs X ss (rB X E F (.cons (.frz i) ys)) :=
  PSs.imp h fun D σ H ⟨g0, g, sl, eH, ok, so, st, h⟩ => by
    subst eH
    unfold exB at h
    rw [exS_frz] at h
    split at h
    · rename_i c e1
      rw [Res.bind_ok] at h
      obtain ⟨g1, q1, q2, q3, q4, q5, q6⟩ := frz_ok ok so st e1
      refine ⟨g0, g1, _, q1, q3, q6, q4, ?_⟩
      rw [q2]
      exact h.shift q5
    · rw [Res.bind_ok] at h
      exact ⟨g0, g, sl, rfl, ok, so, st, h⟩
    · exact h.elim
theorem b_shr {i : Nat} {ss : List Stmt} {ys : Sxs} (h : PSs X ss (rB X E F ys)) : PSs X ss (rB X E F (.cons (.shr i) ys)) :=
  PSs.imp h fun D σ H ⟨g0, g, sl, eH, ok, so, st, h⟩ => by
    subst eH
    unfold exB at h
    rw [exS_shr] at h
    split at h
    · rename_i c e1
      rw [Res.bind_ok] at h
      obtain ⟨g1, q1, q2, q3, q4, q5, q6⟩ := shr_ok ok so st e1
      refine ⟨g0, g1, _, q1, q3, q6, q4, ?_⟩
      rw [q2]
      exact h.shift q5
    · exact h.elim
theorem st_expr {y : Ex} (he : PE X v (rdE X.K E (evE F y))) (hs : swapsWith v none pos.line X.env = pure false) : PS X (.Expr v pos) (rS X E F (.expr y)) :=
  PS.imp (ps_expr he hs) fun D σ H ⟨g0, g, sl, eH, ok, so, st, h⟩ => by
    subst eH
    unfold exS at h
    exact ⟨g0, g, sl, rfl, ok, so, PostS.bind st h fun g1 r v ok1 st1 r1 h1 => PostS.next h1 rfl ok1 (st.trans st1) (so.step st1)⟩
theorem st_ret {y : Ex} (he : PE X v (rdE X.K E (evE F y))) : PS X (.Return (some v) pos) (rS X E F (.ret y)) :=
  PS.imp (ps_ret he) fun D σ H ⟨g0, g, sl, eH, ok, so, st, h⟩ => by
    subst eH
    unfold exS at h
    refine ⟨g0, g, sl, rfl, ok, so, PostS.bind st h fun g1 r v ok1 st1 r1 h1 => ?_⟩
    cases r with
    | own c => exact h1.elim
    | val d => exact h1 g1 σ rfl ok1 (st.trans st1) (Gro.refl _) (so.step st1) v r1
    | fresh c => exact h1 g1 σ rfl ok1 (st.trans st1) (Gro.refl _) (so.step st1) v (r1.ahead st)
theorem st_retv {i : Nat} {x : Str} {px : Pos} (hi : X.N[i]? = some x) (hx : Vis X.env.scope x) (hd : (x == ("__debug__" : Str)) = false) (hcd : (x == ("__classdict__" : Str)) = false) : PS X (.Return (some (.Name x px)) pos) (rS X E F (.retv i)) :=
  PS.imp (ps_ret (pe_var hi hx hd hcd)) fun D σ H ⟨g0, g, sl, eH, ok, so, st, h⟩ => by
    subst eH
    unfold exS at h
    split at h
    · rename_i d e1
      obtain ⟨w, e2, x, e3, r⟩ := so.at_ i _ e1
      exact ⟨x, by rw [e2, e3], h g σ rfl ok st (Gro.refl _) so x r⟩
    · rename_i c e1
      obtain ⟨w, e2, a, o, e3, h1, h2, h3, h4, h5⟩ := so.at_ i _ e1
      exact ⟨.ref a, by rw [e2, e3], h g σ rfl ok st (Gro.refl _) so (.ref a) ⟨a, o, rfl, h1, h2, h3, h4, h5⟩⟩
    · exact h.elim
theorem st_retN : PS X (.Return none pos) (rS X E F .retN) :=
  PS.imp ps_retN fun D σ H ⟨g0, g, sl, eH, ok, so, st, h⟩ => by
    subst eH
    unfold exS at h
    exact h g σ rfl ok st (Gro.refl _) so .non .non
theorem st_brk : PS X (.Break pos) (rS X E F .brk) := PS.imp ps_break fun D σ H ⟨g0, g, sl, eH, ok, so, st, h⟩ => by
  subst eH; unfold exS at h; exact h g σ rfl ok st (Gro.refl _) so
theorem st_cont : PS X (.Continue pos) (rS X E F .cont) := PS.imp ps_continue fun D σ H ⟨g0, g, sl, eH, ok, so, st, h⟩ => by
  subst eH; unfold exS at h; exact h g σ rfl ok st (Gro.refl _) so
theorem st_pass : PS X (.Pass pos) (rS X E F .pass) := PS.imp ps_pass fun D σ H ⟨g0, g, sl, eH, ok, so, st, h⟩ => by
  subst eH; unfold exS at h; exact h g σ rfl ok st (Gro.refl _) so
theorem st_bad {s : Stmt} : PS X s (rS X E F .bad) := ⟨fun pins s' σ H D I h => by
  obtain ⟨g0, g, sl, eH, ok, so, st, h⟩ := h
  unfold exS at h
  exact h.elim⟩
theorem st_ife {t : Expr} {a b : List Stmt} {c : Ex} {x y : Sxs} (hc : PT X t (rdT X.K E fun sl S => (evE F c sl S).truth)) (ha : PSs X a (rB X E F x)) (hb : PSs X b (rB X E F y)) : PS X (.If t a b pos) (rS X E F (.ife c x y)) :=
  PS.imp (ps_if hc ha hb) fun D σ H ⟨g0, g, sl, eH, ok, so, st, h⟩ => by
    subst eH
    unfold exS at h
    refine ⟨g0, g, sl, rfl, ok, so, PostS.bind st h fun g1 k v ok1 st1 r1 h1 => ?_⟩
    subst r1
    cases v with
    | true => exact ⟨g0, g1, sl, rfl, ok1, so.step st1, st.trans st1, h1⟩
    | false => exact ⟨g0, g1, sl, rfl, ok1, so.step st1, st.trans st1, h1⟩
theorem whl_read {E : XK} {c : Slots → Sto → Res Bool} {b : Slots → Sto → Res (Fl × Slots)} {K : PySem.W.Frag} {D : Ends} {σ : L2.St} {H : Hp} {m : Nat} (h : rdS K (kE E) (whlN c b m) D σ H) : tWhile (rdT K (kE E) c) (rdS K (kE E) b) D σ H := by
  refine ⟨fun m σ H => rdS K (kE E) (whlN c b m) D σ H, ⟨m, h⟩, ?_⟩
  rintro m σ H ⟨g0, g, sl, eH, ok, so, st, h⟩
  subst eH
  cases m with
  | zero => exact h.elim
  | succ m =>
    unfold whlN at h
    refine ⟨g0, g, sl, rfl, ok, so, PostS.bind st h fun g1 k v ok1 st1 r1 h1 => ?_⟩
    subst r1
    have so1 := so.step st1
    have st01 := st.trans st1
    cases v with
    | false => exact PostS.next h1 rfl ok1 st01 so1
    | true =>
      rw [if_pos rfl] at h1 ⊢
      refine ⟨fun σ' H' => rdS K (kE E) (whlN c b m) D σ' H', fun σ' H' q => ⟨m, Nat.lt_succ_self m, q⟩, g0, g1, sl, rfl, ok1, so1, st01, ?_⟩
      cases e1 : b sl g1.S with
      | stuck => rw [e1] at h1; exact h1
      | exc x S => rw [e1] at h1; exact h1
      | ok p S =>
        rw [e1, Res.bind_ok] at h1
        obtain ⟨f, sl1⟩ := p
        intro g' σ' eS ok' st' gr' so'
        subst eS
        cases f with
        | nx => exact ⟨g0, g', sl1, rfl, ok', so', st', h1.shift gr'⟩
        | ct => exact ⟨g0, g', sl1, rfl, ok', so', st', h1.shift gr'⟩
        | bk => exact h1 g' σ' rfl ok' st' gr' so'
        | rt r => exact h1 g' σ' rfl ok' st' gr' so'
theorem st_whl {E : XK} {t : Expr} {b : List Stmt} {c : Ex} {y : Sxs} (hp : PassesOwn (model X.prog X.w) X.A X.env X.xe) (hc : PT X t (rdT X.K (kE E) fun sl S => (evE F c sl S).truth)) (hb : PSs X b (rB X (kE E) F y)) : PS X (.While t b [] pos) (rS X (kE E) F (.whl c y)) :=
  PS.imp (ps_while hp hc hb) fun D σ H ⟨g0, g, sl, eH, ok, so, st, h⟩ => by
    unfold exS at h
    exact whl_read (m := F.wf) ⟨g0, g, sl, eH, ok, so, st, h⟩
/-- a for's turns, from some place on -/
structure LoW (K : PySem.W.Frag) (E : XK) (g1 : Gh) (t : Tg) (items : List D) (b : Slots → Sto → Res (Fl × Slots)) (De : Ends) (i : Nat) (σ : L2.St) (H : Hp) : Prop where
  ex : ∃ g0 g2 sl, g2.H = H ∧ Gok K g2 ∧ SlOk K g0 g2 σ sl ∧ Stp g0 g2 ∧ Gro g1 g2 ∧ PostS K E g0 g2 (loopL t b (items.drop i) sl g2.S) De
theorem loop_read {E : XK} {it : Itx} {t : Tg} {b : Sxs} {K : PySem.W.Frag} {De : Ends} {σ : L2.St} {H : Hp} (h : rdS K (kE E) (exS F (.loop t it b)) De σ H) : tFor (rdI K (kE E) (evI F it)) (rdG K t) (rdS K (kE E) (exB F b)) De σ H := by
  obtain ⟨g0, g, sl, eH, ok, so, st, h⟩ := h
  subst eH
  unfold exS at h
  refine ⟨g0, g, sl, rfl, ok, so, PostS.bind st h fun g1 items J ok1 st1 it1 h1 => ?_⟩
  refine ⟨fun i m σ H => m = items.length - i ∧ i ≤ items.length ∧ LoW K E g1 t items (exB F b) De i σ H, ⟨items.length, by simp, Nat.zero_le _, ⟨g0, g1, sl, rfl, ok1, so.step st1, st.trans st1, Gro.refl _, h1⟩⟩, ?_⟩
  rintro i m σ H ⟨rfl, hi, ⟨g0, g2, sl, rfl, ok2, so2, st2, gr2, h2⟩⟩
  obtain ⟨go, stp⟩ := it1 g2 gr2 ok2 i
  cases ei : items[i]? with
  | none =>
    refine .inl ⟨stp ei, ?_⟩
    have e2 : items.drop i = [] := by rw [List.drop_eq_nil_iff]; exact List.getElem?_eq_none_iff.mp ei
    rw [e2] at h2
    exact PostS.next h2 rfl ok2 st2 so2
  | some d =>
    obtain ⟨g_go, yl⟩ := go d ei
    have hlt : i < items.length := (List.getElem?_eq_some_iff.mp ei).1
    have e2 : items.drop i = d :: items.drop (i + 1) := by
      rw [List.drop_eq_getElem_cons hlt]
      congr 1
      exact (List.getElem?_eq_some_iff.mp ei).2
    rw [e2] at h2
    unfold loopL at h2
    refine .inr ⟨g_go, fun σ' H' => LoW K E g1 t items (exB F b) De (i + 1) σ' H', fun σ' H' w => ⟨items.length - (i + 1), by omega, rfl, hlt, w⟩, fun x H' y => ?_⟩
    obtain ⟨g3, rfl, eS, ok3, st3, r3⟩ := yl x H' y
    rw [← eS] at h2
    cases eb : bindT t d sl with
    | none => rw [eb] at h2; exact h2.elim
    | some sl1 =>
      rw [eb] at h2
      dsimp only at h2
      have st23 := st2.trans st3
      refine ⟨g0, g3, sl, d, sl1, rfl, ok3, so2.step st3, r3, eb, fun σ1 so1' _ => ⟨g0, g3, sl1, rfl, ok3, so1', st23, ?_⟩⟩
      have h3 := h2.shift st3.gro
      have gr3 := gr2.trans st3.gro
      cases e1 : exB F b sl1 g3.S with
      | stuck => rw [e1] at h3; exact h3
      | exc x S => rw [e1] at h3; exact h3
      | ok p S =>
        rw [e1, Res.bind_ok] at h3
        obtain ⟨f, sl2⟩ := p
        intro g' σ' eS' ok' st' gr' so'
        subst eS'
        cases f with
        | nx => exact ⟨g0, g', sl2, rfl, ok', so', st', gr3.trans gr', h3.shift gr'⟩
        | ct => exact ⟨g0, g', sl2, rfl, ok', so', st', gr3.trans gr', h3.shift gr'⟩
        | bk => exact h3 g' σ' rfl ok' st' gr' so'
        | rt r => exact h3 g' σ' rfl ok' st' gr' so'
theorem st_loop {E : XK} {tg i : Expr} {b : List Stmt} {t : Tg} {it : Itx} {y : Sxs} (hp : PassesOwn (model X.prog X.w) X.A X.env X.xe) (hc : X.calm = true) (hi : PI X tg i (rdI X.K (kE E) (evI F it))) (hg : PG X tg (rdG X.K t)) (hb : PSs X b (rB X (kE E) F y)) (hs : ∀ x, foldedSetIterable i X.env x = pure x) :
    PS X (.For tg i b [] pos) (rS X (kE E) F (.loop t it y)) := PS.imp (ps_for hp hc hi hg hb hs) fun D σ H h => loop_read h
end
def notLc : Expr → Bool
  | .ListComp _ _ _ _ => false
  | .SetComp _ _ _ _ => false
  | .DictComp _ _ _ _ _ => false
  | _ => true
def notTup : Expr → Bool
  | .Tuple _ _ _ => false
  | _ => true
/-- the right side of a tuple's target: the pair is made, or the stores are swapped -/
def tupC (es : List Expr) : Expr → Bool
  | .Tuple vs _ _ => !(es.length == 2 || es.length == 3) || vs.all (foldedForSure 8)
  | _ => true
def starB : Expr → Bool
  | .Starred .. => true
  | _ => false
/-- a, b = x, y (or three) of plain local names in one row: the stores are swapped, no tuple is tracked -/
def parC (sc : Scope) (es : List Expr) (v : Expr) : Bool :=
  match es, v with
  | [.Name x px, .Name y py], .Tuple [a, b] _ _ => lclB sc x && lclB sc y && (py.line == px.line) && decide (x ≠ y) && !(starB a || starB b) && !([a, b].all (foldedForSure 8)) && !([a, b].all (constantsAlone 8))
  | [.Name x px, .Name y py, .Name z pz], .Tuple [a, b, c] _ _ => lclB sc x && lclB sc y && lclB sc z && (py.line == px.line) && (pz.line == px.line) && decide (x ≠ y) && decide (x ≠ z) && decide (y ≠ z) && !(starB a || starB b || starB c) &&
      !([a, b, c].all (foldedForSure 8)) && !([a, b, c].all (constantsAlone 8))
  | _, _ => false
def cellB (sc : Scope) (x : Str) : Bool := match sc.names.lookup x with
  | some .cell => true
  | _ => false
def asgC (sc : Scope) (x : Str) (px : Pos) : Expr → Bool
  | .ListComp e gs scope q => cellB sc x || lclB sc x && (px.line == q.line) && !(scope.names.any fun (n, k) => n == x && (k == .local || k == .cell))
  | v => notLc v
def notShr : Ex → Bool
  | .shr _ => false
  | _ => true
end Px
set_option Elab.async false
set_option linter.all false
set_option maxRecDepth 100000
set_option maxHeartbeats 4000000
namespace Px
open PySem PySem.Spec PyProof.Rows L2
/-- what a suite has caught: the exception, where it lies, its class, its dict, the name's place -/
structure UC where
  x : Xn
  a : Addr
  C : Addr
  od : Option Addr
  ni : Option Nat
/-- .. as it stands -/
structure XS (K : PySem.W.Frag) (U : UC) (g : Gh) (σ : L2.St) : Prop where
  xr : XR K g U.x (.ref U.C) U.od
  sl : ∀ i, U.ni = some i → σ[i]? = some (some (V.ref U.a))
theorem XS.step {K : PySem.W.Frag} {U : UC} {g g' : Gh} {σ : L2.St} (h : XS K U g σ) (gr : Gro g g') : XS K U g' σ := ⟨gr.xr h.xr, h.sl⟩
def rdX (K : PySem.W.Frag) (U : UC) {α β : Type} (RR : Gh → Gh → α → β → Prop) (f : Slots → Sto → Res α) : L2.St → Hp → (β → Hp → Prop) → Prop := fun σ H Q =>
  ∃ g0 g sl, g.H = H ∧ Gok K g ∧ SlOk K g0 g σ sl ∧ XS K U g σ ∧ Post K noE RR g (f sl g.S) Q
abbrev rdXE (K : PySem.W.Frag) (U : UC) (f : Slots → Sto → Res Rv) : TE := rdX K U (RvR K) f
abbrev rdXT (K : PySem.W.Frag) (U : UC) (f : Slots → Sto → Res Bool) : TT := rdX K U (fun _ _ a (b : Bool) => b = a) f
abbrev rdXA (K : PySem.W.Frag) (U : UC) (f : Slots → Sto → Res (List D)) : TA := rdX K U (fun _ g' ds vs => g'.Reps K ds vs) f
section
variable {X : Cx} {U : UC} {a b c : Expr} {fa fb fc : Slots → Sto → Res Rv} {pos : Pos}
theorem x_const {e : Expr} {v : V} {d : D} (h : PE X e (tC v)) (r : ∀ sa R, Rep X.K sa R d v) {f : Slots → Sto → Res Rv} (hf : ∀ sl S, f sl S = .ok (.val d) S) : PE X e (rdXE X.K U f) :=
  PE.imp h fun σ H Q ⟨g0, g, sl, e, ok, so, xr, h⟩ => by
    subst e
    rw [hf] at h
    exact h g v rfl ok (Stp.refl g) (r _ _)
theorem x_op2 {ex : Expr} {sem : Rv → Rv → Option Rv} (mk : ∀ {ta tb : TE}, PE X a ta → PE X b tb → PE X ex (tOp (rOp2 X.K (kE noE) sem) ta tb)) (ha : PE X a (rdXE X.K U fa)) (hb : PE X b (rdXE X.K U fb)) :
    PE X ex (rdXE X.K U fun sl S => (fa sl S).bind fun x S1 => (fb sl S1).bind fun y S2 => Res.opt (sem x y) S2) :=
  PE.imp (mk ha hb) fun σ H Q ⟨g0, g, sl, e, ok, so, xr, h⟩ => by
    subst e
    refine ⟨g0, g, sl, rfl, ok, so, xr, Post.bind h fun g1 x v ok1 st1 r1 h1 => ?_⟩
    refine ⟨g0, g1, sl, rfl, ok1, so.step st1, xr.step st1.gro, Post.bind (h1.shiftE st1) fun g2 y u ok2 st2 r2 h2 => ?_⟩
    exact ⟨g, g2, x, y, rfl, ok2, r1.after st2, r2.ahead st1, (h2.shiftE st2).optE⟩
theorem x_truth (ha : PE X a (rdXE X.K U fa)) (he : ∀ whole, isTrue a X.env whole = (do let v ← whole; standAt a.pos; holding [v] (truthy v))) : PT X a (rdXT X.K U fun sl S => (fa sl S).truth) :=
  PT.imp (pt_truth ha he) fun σ H Q ⟨g0, g, sl, e, ok, so, xr, h⟩ => by
    subst e
    refine ⟨g0, g, sl, rfl, ok, so, xr, Post.bind h fun g1 x v ok1 st1 r1 h1 => ?_⟩
    cases e1 : x.look.truth with
    | none => rw [e1] at h1; exact h1.elim
    | some k =>
      rw [e1] at h1
      exact ⟨k, truV_of ok1 (r1.lookR ok1) e1, h1 g1 k rfl ok1 st1 rfl⟩
theorem x_not (ha : PE X a (rdXE X.K U fa)) : PE X (.UnaryOp .Not a pos) (rdXE X.K U fun sl S => (fa sl S).bind fun x S1 => (Res.opt x.look.truth S1).bind fun k S2 => .ok (.val (.bl (!k))) S2) :=
  PE.imp (pe_notT ha) fun σ H Q ⟨g0, g, sl, e, ok, so, xr, h⟩ => by
    subst e
    refine ⟨g0, g, sl, rfl, ok, so, xr, Post.bind h fun g1 x v ok1 st1 r1 h1 => ?_⟩
    obtain ⟨k, e1, h2⟩ := Post.optBind h1
    exact ⟨k, truV_of ok1 (r1.lookR ok1) e1, h2 g1 _ rfl ok1 st1 (.bl _)⟩
theorem x_and {rest : List Expr} (ha : PE X a (rdXE X.K U fa)) (hb : PE X (.BoolOp .And (b :: rest) pos) (rdXE X.K U fb)) :
    PE X (.BoolOp .And (a :: b :: rest) pos) (rdXE X.K U fun sl S => (fa sl S).bind fun x S1 => (Res.opt x.look.truth S1).bind fun k S2 => if k then fb sl S2 else .ok x S2) :=
  PE.imp (pe_andT ha hb) fun σ H Q ⟨g0, g, sl, e, ok, so, xr, h⟩ => by
    subst e
    refine ⟨g0, g, sl, rfl, ok, so, xr, Post.bind h fun g1 x v ok1 st1 r1 h1 => ?_⟩
    obtain ⟨k, e1, h2⟩ := Post.optBind h1
    refine ⟨k, truV_of ok1 (r1.lookR ok1) e1, ?_⟩
    cases k with
    | true => exact ⟨g0, g1, sl, rfl, ok1, so.step st1, xr.step st1.gro, h2.shiftE st1⟩
    | false => exact h2 g1 v rfl ok1 st1 r1
theorem x_or {rest : List Expr} (ha : PE X a (rdXE X.K U fa)) (hb : PE X (.BoolOp .Or (b :: rest) pos) (rdXE X.K U fb)) :
    PE X (.BoolOp .Or (a :: b :: rest) pos) (rdXE X.K U fun sl S => (fa sl S).bind fun x S1 => (Res.opt x.look.truth S1).bind fun k S2 => if k then .ok x S2 else fb sl S2) :=
  PE.imp (pe_orT ha hb) fun σ H Q ⟨g0, g, sl, e, ok, so, xr, h⟩ => by
    subst e
    refine ⟨g0, g, sl, rfl, ok, so, xr, Post.bind h fun g1 x v ok1 st1 r1 h1 => ?_⟩
    obtain ⟨k, e1, h2⟩ := Post.optBind h1
    refine ⟨k, truV_of ok1 (r1.lookR ok1) e1, ?_⟩
    cases k with
    | true => exact h2 g1 v rfl ok1 st1 r1
    | false => exact ⟨g0, g1, sl, rfl, ok1, so.step st1, xr.step st1.gro, h2.shiftE st1⟩
theorem x_andT {rest : List Expr} (ha : PT X a (rdXT X.K U fun sl S => (fa sl S).truth)) (hb : PW X (.BoolOp .And (b :: rest) pos) (rdXT X.K U fun sl S => (fb sl S).truth)) :
    PW X (.BoolOp .And (a :: b :: rest) pos) (rdXT X.K U fun sl S => Res.truth ((fa sl S).bind fun x S1 => (Res.opt x.look.truth S1).bind fun k S2 => if k then fb sl S2 else .ok x S2)) :=
  ⟨fun whole pins s σ H Q I ⟨g0, g, sl, e, ok, so, xr, h⟩ => by
    subst e
    refine (pw_and ha hb).run whole pins s σ g.H Q I ⟨g0, g, sl, rfl, ok, so, xr, ?_⟩
    dsimp only at h ⊢
    cases e1 : fa sl g.S with
    | stuck => rw [e1] at h; exact h.elim
    | exc x S => rw [e1] at h; exact h
    | ok x S =>
      rw [e1] at h
      cases e2 : x.look.truth with
      | none => simp only [Res.truth, Res.bind_ok, e2, Res.opt_none, Res.bind_stuck] at h; exact h.elim
      | some k =>
        simp only [Res.truth, Res.bind_ok, e2, Res.opt_some]
        intro g1 k' hS ok1 st1 ek
        subst ek
        cases k' with
        | true =>
          simp only [Res.truth, Res.bind_ok, e2, Res.opt_some, if_true] at h
          rw [← hS] at h
          exact ⟨g0, g1, sl, rfl, ok1, so.step st1, xr.step st1.gro, Post.shiftT h st1⟩
        | false =>
          simp only [Res.truth, Res.bind_ok, e2, Res.opt_some, if_false, Bool.false_eq_true] at h
          exact h g1 false hS ok1 st1 rfl⟩
theorem x_orT {rest : List Expr} (ha : PT X a (rdXT X.K U fun sl S => (fa sl S).truth)) (hb : PW X (.BoolOp .Or (b :: rest) pos) (rdXT X.K U fun sl S => (fb sl S).truth)) :
    PW X (.BoolOp .Or (a :: b :: rest) pos) (rdXT X.K U fun sl S => Res.truth ((fa sl S).bind fun x S1 => (Res.opt x.look.truth S1).bind fun k S2 => if k then .ok x S2 else fb sl S2)) :=
  ⟨fun whole pins s σ H Q I ⟨g0, g, sl, e, ok, so, xr, h⟩ => by
    subst e
    refine (pw_or ha hb).run whole pins s σ g.H Q I ⟨g0, g, sl, rfl, ok, so, xr, ?_⟩
    dsimp only at h ⊢
    cases e1 : fa sl g.S with
    | stuck => rw [e1] at h; exact h.elim
    | exc x S => rw [e1] at h; exact h
    | ok x S =>
      rw [e1] at h
      cases e2 : x.look.truth with
      | none => simp only [Res.truth, Res.bind_ok, e2, Res.opt_none, Res.bind_stuck] at h; exact h.elim
      | some k =>
        simp only [Res.truth, Res.bind_ok, e2, Res.opt_some]
        intro g1 k' hS ok1 st1 ek
        subst ek
        cases k' with
        | true =>
          simp only [Res.truth, Res.bind_ok, e2, Res.opt_some, if_true] at h
          exact h g1 true hS ok1 st1 rfl
        | false =>
          simp only [Res.truth, Res.bind_ok, e2, Res.opt_some, if_false, Bool.false_eq_true] at h
          rw [← hS] at h
          exact ⟨g0, g1, sl, rfl, ok1, so.step st1, xr.step st1.gro, Post.shiftT h st1⟩⟩
theorem x_notT (ha : PT X a (rdXT X.K U fun sl S => (fa sl S).truth)) : PT X (.UnaryOp .Not a pos) (rdXT X.K U fun sl S => Res.truth ((fa sl S).bind fun x S1 => (Res.opt x.look.truth S1).bind fun k S2 => .ok (.val (.bl (!k))) S2)) :=
  PT.imp (pt_not ha) fun σ H Q ⟨g0, g, sl, e, ok, so, xr, h⟩ => by
    subst e
    refine ⟨g0, g, sl, rfl, ok, so, xr, ?_⟩
    dsimp only at h ⊢
    cases e1 : fa sl g.S with
    | stuck => rw [e1] at h; exact h.elim
    | exc x S => rw [e1] at h; exact h
    | ok x S =>
      rw [e1] at h
      cases e2 : x.look.truth with
      | none => simp only [Res.truth, Res.bind_ok, e2, Res.opt_none, Res.bind_stuck] at h; exact h.elim
      | some k =>
        simp only [Res.truth, Res.bind_ok, e2, Res.opt_some] at h ⊢
        intro g1 k' hS ok1 st1 ek
        subst ek
        exact h g1 _ hS ok1 st1 rfl
theorem x_cmpT {op : CmpOp} {o : Cop} (hu : X.A.units + 65 < cLine) (hm : behindInMarks op b = false) (ho : o.op = op) (ha : PE X a (rdXE X.K U fa)) (hb : PE X b (rdXE X.K U fb)) :
    PT X (.Compare a [op] [b] pos) (rdXT X.K U fun sl S => Res.truth ((fa sl S).bind fun x S1 => (fb sl S1).bind fun y S2 => Res.opt (semC o x y) S2)) := by
  subst ho
  refine PT.imp (pt_cmpR (op_cmpS (E := kE noE) hu o) ha hb hm) fun σ H Q ⟨g0, g, sl, e, ok, so, xr, h⟩ => ?_
  subst e
  dsimp only at h
  refine ⟨g0, g, sl, rfl, ok, so, xr, Post.bind (RS := fun _ _ a (b : Bool) => b = a) (γ := Bool) (k := fun x S1 => Res.truth ((fb sl S1).bind fun y S2 => Res.opt (semC o x y) S2)) (by
    cases e1 : fa sl g.S <;> rw [e1] at h <;> exact h) fun g1 x v ok1 st1 r1 h1 => ?_⟩
  refine ⟨g0, g1, sl, rfl, ok1, so.step st1, xr.step st1.gro, Post.bind (RS := fun _ _ a (b : Bool) => b = a) (γ := Bool) (k := fun y S2 => Res.truth (Res.opt (semC o x y) S2)) (by
    have h1 := Post.shiftT h1 st1
    cases e1 : fb sl g1.S <;> rw [e1] at h1 <;> exact h1) fun g2 y u ok2 st2 r2 h2 => ?_⟩
  refine ⟨g, g2, x, y, rfl, ok2, r1.after st2, r2.ahead st1, ?_⟩
  cases e1 : semC o x y with
  | none => rw [e1] at h2; exact h2.elim
  | some r =>
    rw [e1] at h2
    unfold semC at e1
    obtain ⟨k, e2, e3⟩ := Option.map_eq_some_iff.mp e1
    subst e3
    intro g3 v3 hS ok3 st3 r3
    have r3' : g3.Rep X.K (.bl k) v3 := r3
    cases r3'
    exact ⟨k, rfl, (Post.shiftT h2 st2) g3 k hS ok3 st3 rfl⟩
theorem x_nil {x : Xn} {es : List Expr} (h : es = []) : PA X es (rdXA X.K U (evUs x .nil)) := by
  subst h
  exact PA.imp pa_nil fun σ H Q ⟨g0, g, sl, e, ok, so, xr, h⟩ => by
    subst e
    unfold evUs at h
    exact h g [] rfl ok (Stp.refl g) .nil
theorem x_cons {x : Xn} {e : Expr} {es : List Expr} {y : Su} {ys : Sues} (hs : notStar e = true) (ha : PE X e (rdXE X.K U (evU x y))) (hr : PA X es (rdXA X.K U (evUs x ys))) : PA X (e :: es) (rdXA X.K U (evUs x (.cons y ys))) :=
  PA.imp (pa_cons ha hr (star_cons hs)) fun σ H Q ⟨g0, g, sl, e, ok, so, xr, h⟩ => by
    subst e
    unfold evUs at h
    refine ⟨g0, g, sl, rfl, ok, so, xr, Post.data so h fun g1 d v ok1 st1 so1 r1 h1 => ?_⟩
    refine ⟨g0, g1, sl, rfl, ok1, so1, xr.step st1.gro, Post.bind (h1.shiftA st1) fun g2 ds vs ok2 st2 r2 h2 => ?_⟩
    exact h2 g2 (v :: vs) rfl ok2 st2 (.cons (st2.gro.rep r1) r2)
theorem x_tup {x : Xn} {ys : Sues} {es : List Expr} {k : Nat} (ha : PA X es (rdXA X.K U (evUs x ys))) : PE X (.Tuple es k pos) (rdXE X.K U (evU x (.tup ys))) :=
  PE.imp (pe_tup ha) fun σ H Q ⟨g0, g, sl, e, ok, so, xr, h⟩ => by
    subst e
    unfold evU at h
    refine ⟨g0, g, sl, rfl, ok, so, xr, Post.bind h fun g1 ds vs ok1 st1 r1 h1 => ?_⟩
    split at h1
    case isFalse => exact h1.elim
    rename_i hz
    exact ⟨by rw [← r1.length]; exact hz, Post.tup (h1.shiftE st1) ok1 rfl r1 hz⟩
theorem x_list {x : Xn} {ys : Sues} {es : List Expr} (ha : PA X es (rdXA X.K U (evUs x ys))) : PE X (.List es pos) (rdXE X.K U (evU x (.list ys))) :=
  PE.imp (pe_lst ha) fun σ H Q ⟨g0, g, sl, e, ok, so, xr, h⟩ => by
    subst e
    unfold evU at h
    refine ⟨g0, g, sl, rfl, ok, so, xr, Post.bind h fun g1 ds vs ok1 st1 r1 h1 => ?_⟩
    split at h1
    case isFalse => exact h1.elim
    rename_i hz
    exact ⟨by rw [← r1.length]; exact hz, Post.fresh (h1.shiftE st1) ok1 rfl r1 hz⟩
theorem x_var {x : Xn} {i : Nat} {nm : Str} (h1 : X.N[i]? = some nm) (h2 : Vis X.env.scope nm) (h3 : (nm == ("__debug__" : Str)) = false) (h4 : (nm == ("__classdict__" : Str)) = false) : PE X (.Name nm pos) (rdXE X.K U (evU x (.var i))) :=
  PE.imp (pe_var h1 h2 h3 h4) fun σ H Q ⟨g0, g, sl, e, ok, so, xr, h⟩ => by
    subst e
    unfold evU at h
    split at h
    · rename_i d e1
      obtain ⟨v, e2, y, e3, r⟩ := so.at_ i _ e1
      rw [e3] at e2
      exact ⟨y, e2, h g y rfl ok (Stp.refl g) r⟩
    · exact h.elim
end
section
variable {X : Cx} {U : UC} {oe : Obj} {pn : List (Addr × Obj)} {pos : Pos}
/-- what a suite's context is about -/
structure UOk (X : Cx) (U : UC) (oe : Obj) : Prop where
  cls : ClsK X.K U.x.cls U.C
  fs : U.x.fs.map (·.1) = fieldsOf U.x.cls
  hz : Zc (.ref U.C) U.od oe
  hf : ∃ vs, oe.data = .fields vs
theorem lookup_mem {f : String} {y : D} : ∀ {l : List (String × D)}, l.lookup f = some y → f ∈ l.map (·.1)
  | [], h => by cases h
  | (k, v) :: l, h => by
    rw [List.lookup_cons] at h
    split at h
    · rename_i e
      have := beq_iff_eq.mp e
      subst this
      exact List.mem_cons_self
    · exact List.mem_cons_of_mem _ (lookup_mem h)
theorem x_fld (k : UOk X U oe) {i : Nat} {f : String} {nm fn : Str} {p : Pos} (hf : fn = sO f) (hni : U.ni = some i) (h1 : X.N[i]? = some nm) (h2 : Vis X.env.scope nm) (h3 : (nm == ("__debug__" : Str)) = false) (h4 : (nm == ("__classdict__" : Str)) = false) :
    PE (X.suite U.a ((U.a, oe) :: pn)) (.Attribute (.Name nm p) fn pos) (rdXE X.K U (evU U.x (.fld f))) := by
  subst hf
  cases e : U.x.fs.lookup f with
  | none => exact ⟨fun pins s σ H Q I ⟨g0, g, sl, eH, ok, so, xr, h⟩ => by
      unfold evU at h
      rw [e] at h
      exact h.elim⟩
  | some y =>
    have hm : f ∈ fieldsOf U.x.cls := k.fs ▸ lookup_mem e
    refine PE.imp (pe_xf k.cls.xf (k.cls.fs f hm) k.hz k.hf (pe_var (X := X.suite U.a ((U.a, oe) :: pn)) h1 h2 h3 h4)) fun σ H Q ⟨g0, g, sl, eH, ok, so, xr, h⟩ => ?_
    subst eH
    unfold evU at h
    rw [e] at h
    obtain ⟨Ca, c1, c2, c3, c4⟩ := xr.xr
    rcases c4 with ⟨_, q⟩ | ⟨d, fvs, q1, q2, q3⟩
    · rw [q] at e; cases e
    · obtain ⟨v, w1, w2⟩ := q3 f y e
      exact ⟨.ref U.a, xr.sl i hni, rfl, rfl, d, fvs, v, q1, ok.sub _ _ q2, w1, Post.val h ok rfl w2⟩
/-- isinstance of the caught one -/
def rIsX (K : PySem.W.Frag) (U : UC) : List V → Hp → VK → Prop := fun xs H Q => ∃ (c : V) (u : Value) (b : Bool), xs = [.ref U.a, c] ∧ ClsV c u ∧ (U.od = none ∨ ∃ dd fvs, U.od = some dd ∧ H dd = some (.xd fvs)) ∧ PySem.W.kitOne K (.ref U.C) u = some b ∧ Q (.bl b) H
def rIsXT (K : PySem.W.Frag) (U : UC) : List V → Hp → VK → Prop := fun xs H Q => ∃ (tp : Addr) (cs : List V) (us : List Value) (b : Bool), xs = [.ref U.a, .ref tp] ∧ H tp = some (.tup cs) ∧ Paired ClsV cs us ∧ (U.od = none ∨ ∃ dd fvs, U.od = some dd ∧ H dd = some (.xd fvs)) ∧ PySem.W.kitAny K (.ref U.C) us = some b ∧ Q (.bl b) H
theorem inst_of (k : UOk X U oe) {pins : List (Addr × Obj)} {σ : L2.St} {H : Hp} {s : Shared} (I : Inv (X.suite U.a ((U.a, oe) :: pn)) pins σ H s) (h : U.od = none ∨ ∃ dd fvs, U.od = some dd ∧ H dd = some (.xd fvs)) :
    ∃ od, PySem.W.InstAt s.heap U.a oe U.C od := by
  obtain ⟨hget, _⟩ := I.pin (U.a, oe) (List.mem_append_left _ List.mem_cons_self)
  obtain ⟨vs, hd⟩ := k.hf
  have nc : PySem.W.notCls oe = true := by unfold PySem.W.notCls; rw [hd] <;> rfl
  rcases h with h | ⟨dd, fvs, h1, h2⟩
  · exact ⟨none, hget, k.hz.1, nc, by rw [k.hz.2, h]; trivial⟩
  · obtain ⟨mA, hns, _⟩ : ObjOk X.prog X.w H s.heap dd (.xd fvs) := I.hok dd _ h2
    obtain ⟨od, ho, _⟩ := lookIn_ns hns
    exact ⟨some od, hget, k.hz.1, nc, by rw [k.hz.2, h1]; exact ho⟩
theorem call_isX (k : UOk X U oe) : CallR (X.suite U.a ((U.a, oe) :: pn)) (.builtin "isinstance") (rIsX X.K U) := by
  intro pins s σ H xs us Q I r h
  obtain ⟨c, u, b, rfl, kc, hd, e, q⟩ := h
  obtain ⟨u1, u2, rfl, r1, r2⟩ := vals2 r
  have e2 := kc.eq r2
  subst e2
  cases (show u1 = Value.ref U.a from r1)
  obtain ⟨od, J⟩ := inst_of k I hd
  exact PySem.W.kia_one (PySem.W.kitx_exc k.cls.isCls k.cls.ga k.cls.gg k.cls.base k.cls.ac k.cls.hn k.cls.ht k.cls.object) I.kIn J e (fun z => nomatch z) fun tk => ⟨.bl b, H, I.tok tk, rfl, q⟩
theorem call_isXT (k : UOk X U oe) : CallR (X.suite U.a ((U.a, oe) :: pn)) (.builtin "isinstance") (rIsXT X.K U) := by
  intro pins s σ H xs us Q I r h
  obtain ⟨tp, cs, ws, b, rfl, hT, kc, hd, e, q⟩ := h
  obtain ⟨u1, u2, rfl, r1, r2⟩ := vals2 r
  cases (show u2 = Value.ref tp from r2)
  cases (show u1 = Value.ref U.a from r1)
  obtain ⟨od, J⟩ := inst_of k I hd
  obtain ⟨_, its, rv, o, h1, h2, n, h3⟩ := (show ObjOk X.prog X.w H s.heap tp (.tup cs) from I.hok tp _ hT)
  have e3 := ClsV.all kc rv
  subst e3
  obtain ⟨oc, od', dt, sl⟩ := o
  simp only at h2 h3
  subst h2 h3
  exact PySem.W.kia_tup (PySem.W.kitx_exc k.cls.isCls k.cls.ga k.cls.gg k.cls.base k.cls.ac k.cls.hn k.cls.ht k.cls.object) I.kIn J h1 e (fun z => nomatch z) fun tk => ⟨.bl b, H, I.tok tk, rfl, q⟩
end
def chkCl (T : Tx) (d : String) : Expr → Bool
  | .Name x _ => gBlt T x d && !dbgB x && (d == "ValueError" || (T.fns.contains d && clsN d))
  | _ => false
def chkCls (T : Tx) : List String → List Expr → Bool
  | [], [] => true
  | d :: ds, e :: es => chkCl T d e && chkCls T ds es
  | _, _ => false
/-- what a suite must know of the module -/
structure SX (X : Cx) (fns : List String) : Prop where
  un : X.A.units + 200 < cLine
  bl : ∀ b ∈ blts, X.mg (sO b) = none
  grd : X.A.guards = some []
  sys : ∃ m, X.base.Ns sysModules m
  xc : ∀ c ∈ fns, clsN c = true → ClsAt X.K X.mg c
section
variable {X : Cx} {U : UC} {oe : Obj} {pn : List (Addr × Obj)} {pos : Pos} {fns gls : List String}
theorem cl_of (c : SX X fns) (k : UOk X U oe) {d : String} {e : Expr} (h : chkCl (tx X fns gls) d e = true) : notStar e = true ∧ ∃ v u, PE (X.suite U.a ((U.a, oe) :: pn)) e (tC v) ∧ ClsV v u ∧ PySem.W.kitOne X.K (.ref U.C) u = some (xIs U.x.cls d) := by
  cases e <;> first | (cases h; done) | skip
  rename_i x p
  have h' : ((gBlt (tx X fns gls) x d && !dbgB x) && (d == "ValueError" || (fns.contains d && clsN d))) = true := h
  rw [Bool.and_eq_true, Bool.and_eq_true, Bool.or_eq_true, Bool.and_eq_true] at h'
  obtain ⟨⟨h1, h2⟩, h3⟩ := h'
  obtain ⟨rfl, hgl⟩ := gBlt_of h1
  obtain ⟨d1, _, _⟩ := dbg_of h2
  refine ⟨rfl, ?_⟩
  by_cases hv : d = "ValueError"
  · subst hv
    exact ⟨.ty "ValueError", _, pe_bltn (X := X.suite U.a ((U.a, oe) :: pn)) hgl (c.bl "ValueError" (by decide)) (PyProof.Rows.Boot.«ValueError») rfl (by decide +kernel) d1, .ty _, k.cls.kitVE⟩
  · rcases h3 with h3 | h3
    · exact absurd (beq_iff_eq.mp h3) hv
    · obtain ⟨D, kd, hm, _⟩ := c.xc d (by simpa using h3.1) h3.2
      exact ⟨.ref D, _, pe_glob (X := X.suite U.a ((U.a, oe) :: pn)) (v := .ref D) hgl hm rfl d1, .own D, k.cls.kitOne kd⟩
theorem cls_of (c : SX X fns) (k : UOk X U oe) : ∀ {ds : List String} {es : List Expr}, chkCls (tx X fns gls) ds es = true → ∃ vs us, PA (X.suite U.a ((U.a, oe) :: pn)) es (fun _ H Q => Q vs H) ∧ Paired ClsV vs us ∧ PySem.W.kitAny X.K (.ref U.C) us = some (ds.any fun d => xIs U.x.cls d) ∧ vs.length = ds.length
  | [], [], _ => ⟨[], [], pa_nil, .nil, rfl, rfl⟩
  | d :: ds, e :: es, h => by
    have h' : (chkCl (tx X fns gls) d e && chkCls (tx X fns gls) ds es) = true := h
    rw [Bool.and_eq_true] at h'
    obtain ⟨hs, v, u, pe, cv, kk⟩ := cl_of (pn := pn) c k h'.1
    obtain ⟨vs, us, pa, cvs, kks, ln⟩ := cls_of c k h'.2
    refine ⟨v :: vs, u :: us, PA.imp (pa_cons pe pa (star_cons hs)) fun σ H Q q => q, .cons cv cvs, ?_, by simp [ln]⟩
    rw [List.any_cons]
    exact kitAny_cons kk (fun e => by rw [e, Bool.false_or]; exact kks) fun e => by rw [e, Bool.true_or]
  | [], _ :: _, h => by cases h
  | _ :: _, [], h => by cases h
theorem x_is1 (c : SX X fns) (k : UOk X U oe) {i : Nat} {d : String} {x nm : Str} {p p1 : Pos} {t : Expr} (hx : x = sO "isinstance") (hgl : X.env.scope.names.lookup x = some .globalImplicit) (hni : U.ni = some i) (h1 : X.N[i]? = some nm) (h2 : Vis X.env.scope nm) (h3 : (nm == ("__debug__" : Str)) = false) (h4 : (nm == ("__classdict__" : Str)) = false)
    (ht : chkCl (tx X fns gls) d t = true) : PE (X.suite U.a ((U.a, oe) :: pn)) (.Call (.Name x p) [.Name nm p1, t] [] pos) (rdXE X.K U (evU U.x (.isx [d] true))) := by
  subst hx
  obtain ⟨hs, v, u, pe, cv, kk⟩ := cl_of (pn := pn) c k ht
  refine PE.imp (pe_callB (X := X.suite U.a ((U.a, oe) :: pn)) (call_isX k) hgl (c.bl "isinstance" (by decide)) (by decide +kernel) (pa_cons (pe_var (X := X.suite U.a ((U.a, oe) :: pn)) h1 h2 h3 h4) (pa_cons pe pa_nil (star_cons hs)) (star_cons rfl)) (by decide +kernel) (by decide +kernel) (star_cons rfl) (star_plain fun z hz => by
    have : z = t := by simpa using hz
    rw [this]; exact hs)) fun σ H Q ⟨g0, g, sl, eH, ok, so, xr, h⟩ => ?_
  subst eH
  unfold evU at h
  obtain ⟨Ca, c1, c2, c3, c4⟩ := xr.xr
  refine ⟨.ref U.a, xr.sl i hni, v, u, _, rfl, cv, ?_, kk, ?_⟩
  · rcases c4 with ⟨q, _⟩ | ⟨dd, fvs, q1, q2, _⟩
    · exact .inl q
    · exact .inr ⟨dd, fvs, q1, ok.sub _ _ q2⟩
  · have h' : Post X.K noE (RvR X.K) g (.ok (.val (.bl (xIs U.x.cls d))) g.S) Q := by simpa using h
    exact Post.val h' ok rfl (.bl _)
theorem x_isT (c : SX X fns) (k : UOk X U oe) {i : Nat} {ds : List String} {x nm : Str} {p p1 p2 : Pos} {j : Nat} {ts : List Expr} (hx : x = sO "isinstance") (hgl : X.env.scope.names.lookup x = some .globalImplicit) (hni : U.ni = some i) (h1 : X.N[i]? = some nm) (h2 : Vis X.env.scope nm) (h3 : (nm == ("__debug__" : Str)) = false) (h4 : (nm == ("__classdict__" : Str)) = false)
    (ht : chkCls (tx X fns gls) ds ts = true) (hl : ds.length < 20) : PE (X.suite U.a ((U.a, oe) :: pn)) (.Call (.Name x p) [.Name nm p1, .Tuple ts j p2] [] pos) (rdXE X.K U (evU U.x (.isx ds false))) := by
  subst hx
  obtain ⟨vs, us, pa, cv, kk, ln⟩ := cls_of (pn := pn) c k ht
  refine PE.imp (pe_callB (X := X.suite U.a ((U.a, oe) :: pn)) (call_isXT k) hgl (c.bl "isinstance" (by decide)) (by decide +kernel) (pa_cons (pe_var (X := X.suite U.a ((U.a, oe) :: pn)) h1 h2 h3 h4) (pa_cons (pe_tup pa) pa_nil (star_cons rfl)) (star_cons rfl)) (by decide +kernel) (by decide +kernel) (star_cons rfl) (star_plain fun z hz => by
    have : z = .Tuple ts j p2 := by simpa using hz
    rw [this]; rfl)) fun σ H Q ⟨g0, g, sl, eH, ok, so, xr, h⟩ => ?_
  subst eH
  unfold evU at h
  obtain ⟨Ca, c1, c2, c3, c4⟩ := xr.xr
  refine ⟨.ref U.a, xr.sl i hni, by rw [ln, sizeLine_eq]; omega, fun q hq => ?_⟩
  obtain ⟨k2, st2⟩ := ok.newR hq (.tup vs)
  refine ⟨q, vs, us, _, rfl, upd_same, cv, ?_, kk, ?_⟩
  · rcases c4 with ⟨q, _⟩ | ⟨dd, fvs, q1, q2, _⟩
    · exact .inl q
    · exact .inr ⟨dd, fvs, q1, k2.sub _ _ (st2.gro.rr _ _ q2)⟩
  · exact h (g.newR q _) _ rfl k2 st2 (.bl _)
theorem call_biU {Y : Cx} (hg : Y.A.guards = some []) (hu : Y.A.units + 100 < cLine) (hb : ∃ m, Y.base.Ns sysModules m) {b : Bi} (hbi : b = .repr ∨ b = .int) : CallR Y b.val (rBi Y.K (kE noE) b) := by
  intro pins s σ H xs us Q I r ⟨g0, g, rs, e, ok, hr, h⟩
  subst e
  unfold opBi at h
  rcases hbi with rfl | rfl
  · split at h <;> first | (rename_i q; cases q; done) | (rename_i q _; cases q; done) | exact (Post.no h).elim | skip
    rename_i a _
    obtain ⟨x, rfl, r1⟩ := hr.one
    have l1 := r1.lookR ok
    generalize a.look = d1 at h l1
    split at h
    case isTrue hz =>
      obtain ⟨h1, h2, h3, h4⟩ := hz
      obtain ⟨u, rfl, rx⟩ := vals1 r
      exact call_reprS hg hu I rx (l1.dp ok h2) h1 h2 h3 h4 (Post.val h ok rfl (.str _))
    split at h
    case isFalse => exact h.elim
    rename_i hz
    obtain ⟨h1, h2, h3, h4⟩ := hz
    obtain ⟨u, rfl, rx⟩ := vals1 r
    obtain ⟨as, k1, k2⟩ := l1.rds I ok hb rx h2
    exact reads_repr hg hu I k1 h1 (fun _ => k2) h3 h4 (Post.val h ok rfl (.str _))
  · split at h <;> first | (rename_i q; cases q; done) | (rename_i q _; cases q; done) | exact (Post.no h).elim | skip
    rename_i a _
    obtain ⟨x, rfl, r1⟩ := hr.one
    have l1 := r1.lookR ok
    generalize a.look = d1 at h l1
    split at h <;> first | exact (Post.no h).elim | skip
    · cases l1.int
      exact call_int1 pins s σ g.H _ us Q I r (.inl ⟨_, rfl, Post.val h ok rfl (.int _)⟩)
    · cases l1.bl
      exact call_int1 pins s σ g.H _ us Q I r (.inr ⟨_, rfl, Post.val h ok rfl (.int _)⟩)
theorem x_bi (c : SX X fns) {b : Bi} {x : Str} {p : Pos} {e : Expr} {y : Su} {z : Xn} (hbi : b = .repr ∨ b = .int) (hx : x = sO b.nm) (hgl : X.env.scope.names.lookup x = some .globalImplicit) (hst : notStar e = true) (ha : PE (X.suite U.a ((U.a, oe) :: pn)) e (rdXE X.K U (evU z y))) :
    PE (X.suite U.a ((U.a, oe) :: pn)) (.Call (.Name x p) [e] [] pos) (rdXE X.K U (evU z (.bi b y))) := by
  subst hx
  have hm := c.bl _ (bi_in b)
  have hcr := call_biU (Y := X.suite U.a ((U.a, oe) :: pn)) c.grd (by have q := c.un; show X.A.units + 100 < cLine; omega) c.sys hbi
  have key : PE (X.suite U.a ((U.a, oe) :: pn)) (.Call (.Name (sO b.nm) p) [e] [] pos) (tCB (rBi X.K (kE noE) b) (tCons (rdXE X.K U (evU z y)) tNil)) := by
    rcases hbi with rfl | rfl
    · exact pe_callB (X := X.suite U.a ((U.a, oe) :: pn)) hcr hgl hm (bi_boot .repr) (pa_cons ha pa_nil (star_cons hst)) (bi_nn .repr) (bi_nd .repr) (star_cons hst) (star_plain fun z hz => by cases hz)
    · exact pe_callTy (X := X.suite U.a ((U.a, oe) :: pn)) (T := "int") hcr hgl hm (bi_boot .int) (pa_cons ha pa_nil (star_cons hst)) (bi_nn .int) (bi_nd .int) (star_cons hst) (star_plain fun z hz => by cases hz)
  refine PE.imp key fun σ H Q ⟨g0, g, sl, eH, ok, so, xr, h⟩ => ?_
  subst eH
  unfold evU at h
  refine ⟨g0, g, sl, rfl, ok, so, xr, Post.bind h fun g1 r v ok1 st1 r1 h1 => ?_⟩
  exact ⟨g, g1, [r], rfl, ok1, .cons r1 .nil, h1.shiftE st1⟩
end
end Px
set_option Elab.async false
set_option linter.all false
set_option maxRecDepth 100000
set_option maxHeartbeats 4000000
namespace Px
open PySem PySem.Spec PyProof.Rows L2
def isNi (T : Tx) (ni : Option Nat) (x : Str) : Bool :=
  match ni with
  | some i => atB T.N i x && visB T.sc x && !dbgB x
  | none => false
mutual
def chkU (T : Tx) (ni : Option Nat) : Su → Expr → Bool
  | .var i, .Name x _ => atB T.N i x && visB T.sc x && !dbgB x
  | .int z, .Constant (.int z') _ _ => decide (z = z')
  | .bl b, .Constant (.bool b') _ _ => b == b'
  | .non, .Constant .none _ _ => true
  | .str s, .Constant (.str x) _ _ => decide (x = sO s)
  | .tup es, .Tuple xs _ _ => chkUs T ni es xs
  | .list es, .List xs _ => chkUs T ni es xs
  | .fld f, .Attribute (.Name x _) g _ => isNi T ni x && decide (g = sO f)
  | .isx cs one, .Call (.Name x _) [.Name n _, t] [] _ => gBlt T x "isinstance" && isNi T ni n && (match one, cs, t with
    | true, [d], t => chkCl T d t
    | false, ds, .Tuple us _ _ => chkCls T ds us && decide (ds.length < 20)
    | _, _, _ => false)
  | .bi b a, .Call (.Name x _) [y] [] _ => (b == .repr || b == .int) && gBlt T x b.nm && chkU T ni a y
  | .cmp o a b, .Compare l [op] [r] _ => decide (o.op = op) && chkU T ni a l && chkU T ni b r
  | .and a b, .BoolOp .And [v, w] _ => chkU T ni a v && chkU T ni b w
  | .and a b, .BoolOp .And (v :: w :: u :: r) pos => chkU T ni a v && chkU T ni b (.BoolOp .And (w :: u :: r) pos)
  | .or a b, .BoolOp .Or [v, w] _ => chkU T ni a v && chkU T ni b w
  | .or a b, .BoolOp .Or (v :: w :: u :: r) pos => chkU T ni a v && chkU T ni b (.BoolOp .Or (w :: u :: r) pos)
  | .not a, .UnaryOp .Not x _ => chkU T ni a x
  | .ix a i, .Subscript x y _ => chkU T ni a x && chkU T ni i y
  | .bin o a b, .BinOp l op r _ => decide (o.op = op) && chkU T ni a l && chkU T ni b r
  | _, _ => false
def chkUs (T : Tx) (ni : Option Nat) : Sues → List Expr → Bool
  | .nil, [] => true
  | .cons e es, x :: xs => chkU T ni e x && chkUs T ni es xs
  | _, _ => false
end
theorem chkU_slice {T : Tx} {ni : Option Nat} {e : Su} {l u st : Option Expr} {p : Pos} (h : chkU T ni e (.Slice l u st p) = true) : False := by
  cases e <;> exact Bool.noConfusion (show false = true from h)
theorem chkU_set {T : Tx} {ni : Option Nat} {e : Su} {l : List Expr} {k : Nat} {p : Pos} (h : chkU T ni e (.Set l k p) = true) : False := by
  cases e <;> exact Bool.noConfusion (show false = true from h)
theorem chkU_star {T : Tx} {ni : Option Nat} {e : Su} {x : Expr} (h : chkU T ni e x = true) : notStar x = true := by
  cases x <;> first | rfl | (cases e <;> exact Bool.noConfusion (show false = true from h))
theorem chkU_marks {T : Tx} {ni : Option Nat} {e : Su} {x : Expr} {op : CmpOp} (h : chkU T ni e x = true) : behindInMarks op x = false := by
  cases x <;> first | rfl | exact (chkU_set h).elim
theorem ni_of {T : Tx} {ni : Option Nat} {x : Str} (h : isNi T ni x = true) : ∃ i, ni = some i ∧ T.N[i]? = some x ∧ Vis T.sc x ∧ (x == ("__debug__" : Str)) = false ∧ (x == ("__classdict__" : Str)) = false := by
  unfold isNi at h
  split at h
  · rename_i i
    rw [Bool.and_eq_true, Bool.and_eq_true] at h
    obtain ⟨d1, d2, _⟩ := dbg_of h.2
    exact ⟨i, rfl, at_of h.1.1, vis_of h.1.2, d1, d2⟩
  · cases h
structure SU (Y : Cx) (U : UC) (e : Su) (x : Expr) : Prop where
  pe : PE Y x (rdXE Y.K U (evU U.x e))
  pt : PT Y x (rdXT Y.K U fun sl S => (evU U.x e sl S).truth)
  pw : isBoolE x = true → PW Y x (rdXT Y.K U fun sl S => (evU U.x e sl S).truth)
theorem SU.plain {Y : Cx} {U : UC} {e : Su} {x : Expr} (h : PE Y x (rdXE Y.K U (evU U.x e))) (ht : ∀ whole, isTrue x Y.env whole = (do let v ← whole; standAt x.pos; holding [v] (truthy v))) (hb : isBoolE x = false) : SU Y U e x :=
  ⟨h, x_truth h ht, fun q => by rw [hb] at q; cases q⟩
section
variable {X : Cx} {U : UC} {oe : Obj} {pn : List (Addr × Obj)} {fns gls : List String}
mutual
theorem sU (c : SX X fns) (k : UOk X U oe) : ∀ (e : Su) (x : Expr), chkU (tx X fns gls) U.ni e x = true → SU (X.suite U.a ((U.a, oe) :: pn)) U e x
  | .var i, x, h => by
    cases x <;> first | exact nc h | skip
    rename_i x p
    have h' : ((atB X.N i x && visB X.env.scope x) && !dbgB x) = true := h
    rw [Bool.and_eq_true, Bool.and_eq_true] at h'
    obtain ⟨d1, d2, d3⟩ := dbg_of h'.2
    exact .plain (x_var (X := X.suite U.a ((U.a, oe) :: pn)) (at_of h'.1.1) (vis_of h'.1.2) d1 d2) (fun _ => rfl) rfl
  | .int z, x, h => by
    cases x <;> first | exact nc h | skip
    rename_i k m p
    cases k <;> first | exact nc h | skip
    have h' : z = _ := of_decide_eq_true h
    subst h'
    exact .plain (x_const pe_int (fun _ _ => .int _) fun _ _ => by simp [evU]) (fun _ => rfl) rfl
  | .bl z, x, h => by
    cases x <;> first | exact nc h | skip
    rename_i k m p
    cases k <;> first | exact nc h | skip
    rename_i b
    have h' : (z == b) = true := h
    obtain rfl : z = b := by simpa using h'
    exact .plain (x_const pe_bl (fun _ _ => .bl _) fun _ _ => by simp [evU]) (fun _ => rfl) rfl
  | .non, x, h => by
    cases x <;> first | exact nc h | skip
    rename_i k m p
    cases k <;> first | exact nc h | skip
    exact .plain (x_const pe_non (fun _ _ => .non) fun _ _ => by simp [evU]) (fun _ => rfl) rfl
  | .str z, x, h => by
    cases x <;> first | exact nc h | skip
    rename_i k m p
    cases k <;> first | exact nc h | skip
    rename_i b
    have h' : b = sO z := of_decide_eq_true h
    subst h'
    exact .plain (x_const pe_str (fun _ _ => .str _) fun _ _ => by simp [evU]) (fun _ => rfl) rfl
  | .tup es, x, h => by
    cases x <;> first | exact nc h | skip
    rename_i xs j p
    exact .plain (x_tup (sUs c k es xs h)) (fun _ => rfl) rfl
  | .list es, x, h => by
    cases x <;> first | exact nc h | skip
    rename_i xs p
    exact .plain (x_list (sUs c k es xs h)) (fun _ => rfl) rfl
  | .fld f, x, h => by
    cases x <;> first | exact nc h | skip
    rename_i b g p
    cases b <;> first | exact nc h | skip
    rename_i nm q
    have h' : (isNi (tx X fns gls) U.ni nm && decide (g = sO f)) = true := h
    rw [Bool.and_eq_true] at h'
    obtain ⟨i, e1, e2, e3, d1, d2⟩ := ni_of h'.1
    exact .plain (x_fld k (of_decide_eq_true h'.2) e1 e2 e3 d1 d2) (fun _ => rfl) rfl
  | .isx cs one, x, h => by
    cases x <;> first | exact nc h | skip
    rename_i fx xs ks p
    cases fx <;> first | exact nc h | skip
    rename_i m q
    cases xs with
    | nil => exact nc h
    | cons y xs =>
    cases y <;> first | exact nc h | skip
    rename_i nm q2
    cases xs with
    | nil => exact nc h
    | cons t xs =>
    cases xs with
    | cons _ _ => exact nc h
    | nil =>
    cases ks <;> first | exact nc h | skip
    cases one with
    | true =>
      cases cs with
      | nil =>
        have h' : ((gBlt (tx X fns gls) m "isinstance" && isNi (tx X fns gls) U.ni nm) && false) = true := h
        simp at h'
      | cons u us =>
        cases us with
        | cons _ _ =>
          have h' : ((gBlt (tx X fns gls) m "isinstance" && isNi (tx X fns gls) U.ni nm) && false) = true := h
          simp at h'
        | nil =>
          have h' : ((gBlt (tx X fns gls) m "isinstance" && isNi (tx X fns gls) U.ni nm) && chkCl (tx X fns gls) u t) = true := h
          rw [Bool.and_eq_true, Bool.and_eq_true] at h'
          obtain ⟨e1, e2⟩ := gBlt_of h'.1.1
          obtain ⟨i, n1, n2, n3, d1, d2⟩ := ni_of h'.1.2
          exact .plain (x_is1 c k e1 e2 n1 n2 n3 d1 d2 h'.2) (fun _ => rfl) rfl
    | false =>
      have h0 : ((gBlt (tx X fns gls) m "isinstance" && isNi (tx X fns gls) U.ni nm) && (match t with | .Tuple us _ _ => chkCls (tx X fns gls) cs us && decide (cs.length < 20) | _ => false)) = true := by
        cases t <;> exact h
      rw [Bool.and_eq_true, Bool.and_eq_true] at h0
      obtain ⟨e1, e2⟩ := gBlt_of h0.1.1
      obtain ⟨i, n1, n2, n3, d1, d2⟩ := ni_of h0.1.2
      have h2 := h0.2
      cases t <;> first | exact nc h2 | skip
      rw [Bool.and_eq_true] at h2
      exact .plain (x_isT c k e1 e2 n1 n2 n3 d1 d2 h2.1 (of_decide_eq_true h2.2)) (fun _ => rfl) rfl
  | .cmp o a b, x, h => by
    cases x <;> first | exact nc h | skip
    rename_i l ops cs p
    cases ops with
    | nil => exact nc h
    | cons op ops =>
      cases ops with
      | cons _ _ => exact nc h
      | nil =>
        cases cs with
        | nil => exact nc h
        | cons r cs =>
          cases cs with
          | cons _ _ => exact nc h
          | nil =>
            have h' : ((decide (o.op = op) && chkU (tx X fns gls) U.ni a l) && chkU (tx X fns gls) U.ni b r) = true := h
            rw [Bool.and_eq_true, Bool.and_eq_true] at h'
            have e1 := of_decide_eq_true h'.1.1
            have hu : (X.suite U.a ((U.a, oe) :: pn)).A.units + 65 < cLine := by
              have q := c.un
              show X.A.units + 65 < cLine
              omega
            have ef : evU U.x (.cmp o a b) = fun sl S => (evU U.x a sl S).bind fun x S1 => (evU U.x b sl S1).bind fun y S2 => Res.opt (semC o x y) S2 := by funext sl S; rw [evU]; rfl
            subst e1
            refine ⟨by rw [ef]; exact x_op2 (X := X.suite U.a ((U.a, oe) :: pn)) (fun h1 h2 => pe_cmpR (op_cmpS hu o) h1 h2 (chkU_marks h'.2)) (sU c k a l h'.1.2).pe (sU c k b r h'.2).pe, ?_, fun q => by cases q⟩
            have := x_cmpT (o := o) (X := X.suite U.a ((U.a, oe) :: pn)) (pos := p) hu (chkU_marks h'.2) rfl (sU c k a l h'.1.2).pe (sU c k b r h'.2).pe
            rw [ef]
            exact this
  | .and a b, x, h => by
    cases x <;> first | exact nc h | skip
    rename_i op vs p
    cases op <;> first | exact nc h | skip
    have ef : evU U.x (.and a b) = fun sl S => (evU U.x a sl S).bind fun x S1 => (Res.opt x.look.truth S1).bind fun k S2 => if k then evU U.x b sl S2 else .ok x S2 := by funext sl S; rw [evU]
    cases vs with
    | nil => exact nc h
    | cons v vs =>
      cases vs with
      | nil => exact nc h
      | cons w vs =>
        have key : chkU (tx X fns gls) U.ni a v = true ∧ PE (X.suite U.a ((U.a, oe) :: pn)) (.BoolOp .And (w :: vs) p) (rdXE X.K U (evU U.x b)) ∧ PW (X.suite U.a ((U.a, oe) :: pn)) (.BoolOp .And (w :: vs) p) (rdXT X.K U fun sl S => (evU U.x b sl S).truth) := by
          cases vs with
          | nil =>
            have h' : (chkU (tx X fns gls) U.ni a v && chkU (tx X fns gls) U.ni b w) = true := h
            rw [Bool.and_eq_true] at h'
            have s := sU c k b w h'.2
            exact ⟨h'.1, pe_one s.pe, pw_and1 s.pt⟩
          | cons u r =>
            have h' : (chkU (tx X fns gls) U.ni a v && chkU (tx X fns gls) U.ni b (.BoolOp .And (w :: u :: r) p)) = true := h
            rw [Bool.and_eq_true] at h'
            have s := sU c k b _ h'.2
            exact ⟨h'.1, s.pe, s.pw rfl⟩
        have sa := sU c k a v key.1
        have w1 : PW (X.suite U.a ((U.a, oe) :: pn)) (.BoolOp .And (v :: w :: vs) p) (rdXT X.K U fun sl S => (evU U.x (.and a b) sl S).truth) := by rw [ef]; exact x_andT (pos := p) sa.pt key.2.2
        exact ⟨by rw [ef]; exact x_and sa.pe key.2.1, w1.pt, fun _ => w1⟩
  | .or a b, x, h => by
    cases x <;> first | exact nc h | skip
    rename_i op vs p
    cases op <;> first | exact nc h | skip
    have ef : evU U.x (.or a b) = fun sl S => (evU U.x a sl S).bind fun x S1 => (Res.opt x.look.truth S1).bind fun k S2 => if k then .ok x S2 else evU U.x b sl S2 := by funext sl S; rw [evU]
    cases vs with
    | nil => exact nc h
    | cons v vs =>
      cases vs with
      | nil => exact nc h
      | cons w vs =>
        have key : chkU (tx X fns gls) U.ni a v = true ∧ PE (X.suite U.a ((U.a, oe) :: pn)) (.BoolOp .Or (w :: vs) p) (rdXE X.K U (evU U.x b)) ∧ PW (X.suite U.a ((U.a, oe) :: pn)) (.BoolOp .Or (w :: vs) p) (rdXT X.K U fun sl S => (evU U.x b sl S).truth) := by
          cases vs with
          | nil =>
            have h' : (chkU (tx X fns gls) U.ni a v && chkU (tx X fns gls) U.ni b w) = true := h
            rw [Bool.and_eq_true] at h'
            have s := sU c k b w h'.2
            exact ⟨h'.1, pe_one s.pe, pw_or1 s.pt⟩
          | cons u r =>
            have h' : (chkU (tx X fns gls) U.ni a v && chkU (tx X fns gls) U.ni b (.BoolOp .Or (w :: u :: r) p)) = true := h
            rw [Bool.and_eq_true] at h'
            have s := sU c k b _ h'.2
            exact ⟨h'.1, s.pe, s.pw rfl⟩
        have sa := sU c k a v key.1
        have w1 : PW (X.suite U.a ((U.a, oe) :: pn)) (.BoolOp .Or (v :: w :: vs) p) (rdXT X.K U fun sl S => (evU U.x (.or a b) sl S).truth) := by rw [ef]; exact x_orT (pos := p) sa.pt key.2.2
        exact ⟨by rw [ef]; exact x_or sa.pe key.2.1, w1.pt, fun _ => w1⟩
  | .not a, x, h => by
    cases x <;> first | exact nc h | skip
    rename_i op y p
    cases op <;> first | exact nc h | skip
    have s := sU c k a y h
    have ef : evU U.x (.not a) = fun sl S => (evU U.x a sl S).bind fun x S1 => (Res.opt x.look.truth S1).bind fun k S2 => .ok (.val (.bl (!k))) S2 := by funext sl S; rw [evU]
    have w1 : PT (X.suite U.a ((U.a, oe) :: pn)) (.UnaryOp .Not y p) (rdXT X.K U fun sl S => (evU U.x (.not a) sl S).truth) := by rw [ef]; exact x_notT (pos := p) s.pt
    exact ⟨by rw [ef]; exact x_not s.pe, w1, fun q => by cases q⟩
  | .bi b a, x, h => by
    cases x <;> first | exact nc h | skip
    rename_i fx xs ks p
    cases fx <;> first | exact nc h | skip
    rename_i m q
    cases xs with
    | nil => exact nc h
    | cons y xs =>
    cases xs with
    | cons _ _ => exact nc h
    | nil =>
    cases ks <;> first | exact nc h | skip
    have h' : (((b == .repr || b == .int) && gBlt (tx X fns gls) m b.nm) && chkU (tx X fns gls) U.ni a y) = true := h
    rw [Bool.and_eq_true, Bool.and_eq_true, Bool.or_eq_true] at h'
    obtain ⟨e1, e2⟩ := gBlt_of h'.1.2
    exact .plain (x_bi c (h'.1.1.imp (fun z => by simpa using z) (fun z => by simpa using z)) e1 e2 (chkU_star h'.2) (sU c k a y h'.2).pe) (fun _ => rfl) rfl
  | .ix a i, x, h => by
    cases x <;> first | exact nc h | skip
    rename_i l r p
    have h' : (chkU (tx X fns gls) U.ni a l && chkU (tx X fns gls) U.ni i r) = true := h
    rw [Bool.and_eq_true] at h'
    refine .plain (PE.imp (x_op2 (X := X.suite U.a ((U.a, oe) :: pn)) (sem := opIx) (fun h1 h2 => pe_ix ix_S h1 h2 (plain_ix fun l u p e => by subst e; exact (chkU_slice h'.2).elim)) (sU c k a l h'.1).pe (sU c k i r h'.2).pe) fun σ H Q q => ?_) (fun _ => rfl) rfl
    obtain ⟨g0, g1, sl, e, ok, so, xr, hq⟩ := q
    unfold evU at hq
    exact ⟨g0, g1, sl, e, ok, so, xr, hq⟩
  | .bin o a b, x, h => by
    cases x <;> first | exact nc h | skip
    rename_i l op r p
    have h' : ((decide (o.op = op) && chkU (tx X fns gls) U.ni a l) && chkU (tx X fns gls) U.ni b r) = true := h
    rw [Bool.and_eq_true, Bool.and_eq_true] at h'
    have e1 := of_decide_eq_true h'.1.1
    subst e1
    refine .plain (PE.imp (x_op2 (X := X.suite U.a ((U.a, oe) :: pn)) (sem := opBin o) (fun h1 h2 => pe_op (op_binS o) h1 h2) (sU c k a l h'.1.2).pe (sU c k b r h'.2).pe) fun σ H Q q => ?_) (fun _ => rfl) rfl
    obtain ⟨g0, g1, sl, e, ok, so, xr, hq⟩ := q
    unfold evU at hq
    exact ⟨g0, g1, sl, e, ok, so, xr, hq⟩
theorem sUs (c : SX X fns) (k : UOk X U oe) : ∀ (es : Sues) (xs : List Expr), chkUs (tx X fns gls) U.ni es xs = true → PA (X.suite U.a ((U.a, oe) :: pn)) xs (rdXA X.K U (evUs U.x es))
  | .nil, [], _ => x_nil rfl
  | .cons e es, x :: xs, h => by
    have h' : (chkU (tx X fns gls) U.ni e x && chkUs (tx X fns gls) U.ni es xs) = true := h
    rw [Bool.and_eq_true] at h'
    exact x_cons (chkU_star h'.1) (sU c k e x h'.1).pe (sUs c k es xs h'.2)
  | .nil, _ :: _, h => nc h
  | .cons _ _, [], h => nc h
end
end
end Px
set_option Elab.async false
set_option linter.all false
set_option maxRecDepth 100000
set_option maxHeartbeats 4000000
namespace Px
open PySem PySem.Spec PyProof.Rows L2
theorem swaps_plain {v : Expr} {t : Option Expr} {l : Nat} {env : Env} (h : notLc v = true) : swapsWith v t l env = pure false := by
  cases v <;> first | rfl | exact nc h
def PostX (K : PySem.W.Frag) (U : UC) (g0 g : Gh) (r : Res (Fl × Slots)) (D : Ends) : Prop :=
  match r with
  | .ok p S => ∀ g' σ', g'.S = S → Gok K g' → Stp g0 g' → Gro g g' → SlOk K g0 g' σ' p.2 → (∀ i, U.ni = some i → σ'[i]? = some (some (V.ref U.a))) → RtR K g0 g' p.1 D σ'
  | .exc _ _ => False
  | .stuck => False
def rdXS (K : PySem.W.Frag) (U : UC) (f : Slots → Sto → Res (Fl × Slots)) : TS := fun D σ H => ∃ g0 g sl, g.H = H ∧ Gok K g ∧ SlOk K g0 g σ sl ∧ XS K U g σ ∧ Stp g0 g ∧ PostX K U g0 g (f sl g.S) D
section
variable {K : PySem.W.Frag} {U : UC} {g0 g g' : Gh} {σ : L2.St} {sl : Slots}
theorem PostX.shift {D : Ends} {r : Res (Fl × Slots)} (h : PostX K U g0 g r D) (gr : Gro g g') : PostX K U g0 g' r D := by
  cases r with
  | ok p S => intro g1 σ1 e ok st gr1 so; exact h g1 σ1 e ok st (gr.trans gr1) so
  | exc x S => exact h
  | stuck => exact h
theorem PostX.bind {D : Ends} {α β : Type} {RR : Gh → Gh → α → β → Prop} {f : Res α} {k : α → Sto → Res (Fl × Slots)} {Q1 : β → Hp → Prop} (st : Stp g0 g) (h : PostX K U g0 g (f.bind k) D)
    (hk : ∀ g1 a v, Gok K g1 → Stp g g1 → RR g g1 a v → PostX K U g0 g1 (k a g1.S) D → Q1 v g1.H) : Post K noE RR g f Q1 := by
  cases f with
  | ok a S => intro g' v e ok s r; subst e; exact hk g' a v ok s r (PostX.shift h s.gro)
  | exc x S => exact h.elim
  | stuck => exact h
theorem PostX.next {S : Sto} {D : Ends} (h : PostX K U g0 g (.ok (.nx, sl) S) D) (e : g.S = S) (ok : Gok K g) (st : Stp g0 g) (so : SlOk K g0 g σ sl) (xs : ∀ i, U.ni = some i → σ[i]? = some (some (V.ref U.a))) : D.nx σ g.H :=
  h g σ e ok st (Gro.refl g) so xs
end
mutual
def chkSs (T : Tx) (ni : Option Nat) : Ss → Stmt → Bool
  | .asg j e, .Assign [.Name x _] v _ => atB T.N j x && locB T.sc x && (T.fn x || lclB T.sc x) && chkU T ni e v && notLc v && decide (some j ≠ ni)
  | .ret e, .Return (some v) _ => chkU T ni e v
  | .ife c a b, .If t x y _ => chkU T ni c t && chkSus T ni a x && chkSus T ni b y
  | .pass, .Pass _ => true
  | _, _ => false
def chkSus (T : Tx) (ni : Option Nat) : Sus → List Stmt → Bool
  | .nil, [] => true
  | .cons s ss, x :: xs => chkSs T ni s x && chkSus T ni ss xs
  | _, _ => false
end
section
variable {X : Cx} {U : UC} {oe : Obj} {pn : List (Addr × Obj)} {fns gls : List String}
mutual
theorem sSs (c : SX X fns) (hN : X.N.Nodup) (k : UOk X U oe) : ∀ (y : Ss) (s : Stmt), chkSs (tx X fns gls) U.ni y s = true → PS (X.suite U.a ((U.a, oe) :: pn)) s (rdXS X.K U (exU U.x y))
  | .asg j e, s, h => by
    cases s <;> first | exact nc h | skip
    rename_i ts v p
    cases ts with
    | nil => exact nc h
    | cons t ts =>
    cases ts with
    | cons _ _ => cases t <;> exact nc h
    | nil =>
    cases t <;> first | exact nc h | skip
    rename_i x px
    have h' : (((((atB X.N j x && locB X.env.scope x) && (X.fn x || lclB X.env.scope x)) && chkU (tx X fns gls) U.ni e v) && notLc v) && decide (some j ≠ U.ni)) = true := h
    rw [Bool.and_eq_true, Bool.and_eq_true, Bool.and_eq_true, Bool.and_eq_true, Bool.and_eq_true, Bool.or_eq_true] at h'
    have hni : some j ≠ U.ni := of_decide_eq_true h'.2
    refine PS.imp (ps_set (X := X.suite U.a ((U.a, oe) :: pn)) hN (at_of h'.1.1.1.1.1) (loc_of h'.1.1.1.1.2) (sU c k e v h'.1.1.2).pe (swaps_plain h'.1.2) (h'.1.1.1.2.imp id lcl_of)) fun D σ H ⟨g0, g, sl, eH, ok, so, xs, st, h⟩ => ?_
    subst eH
    unfold exU at h
    refine ⟨g0, g, sl, rfl, ok, so, xs, PostX.bind st h fun g1 r v ok1 st1 r1 h1 => ?_⟩
    cases e1 : asgV j r sl with
    | none => rw [e1] at h1; exact h1.elim
    | some sl' =>
      rw [e1] at h1
      refine PostX.next h1 rfl ok1 (st.trans st1) (asg_ok so st st1 r1 e1) fun i hi => ?_
      have ne : j ≠ i := fun z => hni (by rw [z, hi])
      rw [List.getElem?_set_ne ne]
      exact xs.sl i hi
  | .ret e, s, h => by
    cases s <;> first | exact nc h | skip
    rename_i v p
    cases v with
    | none => exact nc h
    | some v =>
      refine PS.imp (ps_ret (X := X.suite U.a ((U.a, oe) :: pn)) (sU c k e v h).pe) fun D σ H ⟨g0, g, sl, eH, ok, so, xs, st, h⟩ => ?_
      subst eH
      unfold exU at h
      refine ⟨g0, g, sl, rfl, ok, so, xs, PostX.bind st h fun g1 r v ok1 st1 r1 h1 => ?_⟩
      cases r with
      | own c => exact h1.elim
      | val d => exact h1 g1 σ rfl ok1 (st.trans st1) (Gro.refl _) (so.step st1) xs.sl v r1
      | fresh c => exact h1 g1 σ rfl ok1 (st.trans st1) (Gro.refl _) (so.step st1) xs.sl v (r1.ahead st)
  | .ife d a b, s, h => by
    cases s <;> first | exact nc h | skip
    rename_i t x y p
    have h' : ((chkU (tx X fns gls) U.ni d t && chkSus (tx X fns gls) U.ni a x) && chkSus (tx X fns gls) U.ni b y) = true := h
    rw [Bool.and_eq_true, Bool.and_eq_true] at h'
    refine PS.imp (ps_if (X := X.suite U.a ((U.a, oe) :: pn)) (sU c k d t h'.1.1).pt (sSus c hN k a x h'.1.2) (sSus c hN k b y h'.2)) fun D σ H ⟨g0, g, sl, eH, ok, so, xs, st, h⟩ => ?_
    subst eH
    unfold exU at h
    refine ⟨g0, g, sl, rfl, ok, so, xs, PostX.bind st h fun g1 k v ok1 st1 r1 h1 => ?_⟩
    subst r1
    cases v with
    | true => exact ⟨g0, g1, sl, rfl, ok1, so.step st1, xs.step st1.gro, st.trans st1, h1⟩
    | false => exact ⟨g0, g1, sl, rfl, ok1, so.step st1, xs.step st1.gro, st.trans st1, h1⟩
  | .pass, s, h => by
    cases s <;> first | exact nc h | skip
    refine PS.imp ps_pass fun D σ H ⟨g0, g, sl, eH, ok, so, xs, st, h⟩ => ?_
    subst eH
    unfold exU at h
    exact PostX.next h rfl ok st so xs.sl
theorem sSus (c : SX X fns) (hN : X.N.Nodup) (k : UOk X U oe) : ∀ (ys : Sus) (ss : List Stmt), chkSus (tx X fns gls) U.ni ys ss = true → PSs (X.suite U.a ((U.a, oe) :: pn)) ss (rdXS X.K U (exUs U.x ys))
  | .nil, [], _ => PSs.imp pss_nil fun D σ H ⟨g0, g, sl, eH, ok, so, xs, st, h⟩ => by
    subst eH
    unfold exUs at h
    exact PostX.next h rfl ok st so xs.sl
  | .cons y ys, s :: ss, h => by
    have h' : (chkSs (tx X fns gls) U.ni y s && chkSus (tx X fns gls) U.ni ys ss) = true := h
    rw [Bool.and_eq_true] at h'
    refine PSs.imp (pss_cons (sSs c hN k y s h'.1) (sSus c hN k ys ss h'.2)) fun D σ H ⟨g0, g, sl, eH, ok, so, xs, st, h⟩ => ?_
    subst eH
    unfold exUs at h
    refine ⟨g0, g, sl, rfl, ok, so, xs, st, ?_⟩
    cases e1 : exU U.x y sl g.S with
    | stuck => rw [e1] at h; exact h
    | exc x S => rw [e1] at h; exact h
    | ok p S =>
      rw [e1, Res.bind_ok] at h
      obtain ⟨f, sl1⟩ := p
      intro g' σ' eS ok' st' gr' so' xs'
      subst eS
      cases f with
      | nx => exact ⟨g0, g', sl1, rfl, ok', so', ⟨gr'.xr xs.xr, xs'⟩, st', h.shift gr'⟩
      | bk => exact h g' σ' rfl ok' st' gr' so' xs'
      | ct => exact h g' σ' rfl ok' st' gr' so' xs'
      | rt r => exact h g' σ' rfl ok' st' gr' so' xs'
  | .nil, _ :: _, h => nc h
  | .cons _ _, [], h => nc h
end
end
def wGen (K : PySem.W.Frag) (Wout : WX) (D : Ends) : List (Value × Option Nat × (Addr → Value → Option Addr → TS)) → WX
  | [] => Wout
  | (c, none, ts) :: r => fun cls d σ H => ∃ b, PySem.W.exmOne K cls c = some b ∧ (b = true → ∀ a, H a = none → ts a cls d D σ H) ∧ (b = false → wGen K Wout D r cls d σ H)
  | (c, some i, ts) :: r => fun cls d σ H => ∃ b, PySem.W.exmOne K cls c = some b ∧
      (b = true → ∀ a, H a = none → ts a cls d { nx := fun σ' H' => D.nx (σ'.set i none) H', rt := D.rt, bk := fun σ' H' => D.bk (σ'.set i none) H', ct := fun σ' H' => D.ct (σ'.set i none) H' } (σ.set i (some (.ref a))) H) ∧
      (b = false → wGen K Wout D r cls d σ H)
inductive HdsG (X : Cx) : List ExceptHandler → List (Value × Option Nat × (Addr → Value → Option Addr → TS)) → Prop
  | nil : HdsG X [] []
  | one {x : Str} {c : Value} {ts : Addr → Value → Option Addr → TS} {b₀ : Stmt} {suite : List Stmt} {np pos' : Pos} {hds : List ExceptHandler} {l : List (Value × Option Nat × (Addr → Value → Option Addr → TS))} (hc : Names X x c)
      (hsu : ∀ (a : Addr) (oe : Obj) (cls : Value) (d : Option Addr) (pn : List (Addr × Obj)), Zc cls d oe → (∃ vs, oe.data = .fields vs) → PSs (X.suite a ((a, oe) :: pn)) (b₀ :: suite) (ts a cls d)) (r : HdsG X hds l) :
      HdsG X (.ExceptHandler (some (.Name x np)) none (b₀ :: suite) pos' :: hds) ((c, none, ts) :: l)
  | nm {x n : Str} {i : Nat} {c : Value} {ts : Addr → Value → Option Addr → TS} {b₀ : Stmt} {suite : List Stmt} {np pos' : Pos} {hds : List ExceptHandler} {l : List (Value × Option Nat × (Addr → Value → Option Addr → TS))} (hN : X.N.Nodup) (hi : X.N[i]? = some n) (hln : X.env.kindOf n = some .local) (hc : Names X x c)
      (hsu : ∀ (a : Addr) (oe : Obj) (cls : Value) (d : Option Addr) (pn : List (Addr × Obj)), Zc cls d oe → (∃ vs, oe.data = .fields vs) → PSs (X.suite a ((a, oe) :: pn)) (b₀ :: suite) (ts a cls d)) (r : HdsG X hds l) :
      HdsG X (.ExceptHandler (some (.Name x np)) (some n) (b₀ :: suite) pos' :: hds) ((c, some i, ts) :: l)
section
variable {X : Cx} {body : List Stmt} {h₀ : ExceptHandler} {hds : List ExceptHandler} {l : List (Value × Option Nat × (Addr → Value → Option Addr → TS))} {pos : Pos} {tb : WX → TS} {Wout : WX}
theorem ps_try_gen (hs : X.stack = X.env :: X.outer) (hf : X.env.frame = some X.env.locals) (tk : Takes X Wout)
    (hb : ∀ (W : WX) (pn : List (Addr × Obj)) (xe : Value → Shared → Prop), Takes (X.tr pn xe) W → PassesOwn (model X.prog X.w) X.A X.env xe → PSs (X.tr pn xe) body (tb W))
    (hh : HdsG X (h₀ :: hds) l) : PS X (.Try body (h₀ :: hds) [] [] pos) (fun D σ H => tb (wGen X.K Wout D l) D σ H) := by
  refine ⟨fun pins s σ H D I h => ?_⟩
  have ok := I.ok
  have hfr : X.A.frames = some (X.env :: X.outer) := by rw [ok.frames, hs]
  refine wpAny_Try_except ?_
  refine wpAny_mono ((hb (wGen X.K Wout D l) (X.pn ++ pins) (fun e s₁ => wpAny (model X.prog X.w) X.A (noteFrame e X.env) (fun _ s₂ => wpAny (model X.prog X.w) X.A (setFlight e none) (fun _ s₃ =>
    wpAny (model X.prog X.w) X.A (handleBy e X.env (h₀ :: hds)) (SP X pins D) X.xe s₃) X.xe s₂) X.xe s₁) (fun u s' xx => ?_) PassesOwn.looking).run [] s σ H D (I.toTry _) h) (fun f s1 hsp => ?_) (fun e s1 he => he)
  · -- the catch
    obtain ⟨a, B, sI, pins', σ', H', cls, d, rfl, J', nb, up, sky, na, os, ag, w⟩ := xx
    have J : Inv X pins σ' H' sI := J'.ofTry ok
    have sky' : Sky B (X.env :: X.outer) a (Zc cls d) X.env.locals s'.heap := by rw [← hs]; exact sky
    show wpAny (model X.prog X.w) X.A (noteFrame (.ref a) X.env) _ _ _
    refine Sky.land Zc.steady hfr hf sky' fun h3 fl3 up3 => ?_
    have J3 : Inv X pins σ' H' { s' with heap := h3 } := J.landed nb fl3.1 (up.trans up3) os ag
    obtain ⟨oe3, vs3, he3, hz3, hd3⟩ := fl3.there
    have notFr : ∀ {h : Heap} {o : Obj} {vs : Array Value}, h.FunFrames B (X.env :: X.outer) → h.get? a = some o → o.data = .fields vs → a ∉ frs (X.env :: X.outer) := fun {h o vs} ff e dd hm => by
      obtain ⟨_, o', e', hnf⟩ := ff.mem hm
      rw [e] at e'; cases e'
      exact hnf _ dd
    have nfr := notFr fl3.2.2.1 he3 hd3
    have nL : a ≠ X.env.locals := fun z => nfr (List.mem_filterMap.mpr ⟨X.env, List.mem_cons_self, by rw [hf, z]⟩)
    have nF : a ∉ X.fs := fun hm => by
      obtain ⟨e, he, q⟩ := List.mem_filterMap.mp hm
      exact nfr (List.mem_filterMap.mpr ⟨e, List.mem_cons_of_mem _ he, q⟩)
    have S3 := J3.suite he3 hd3 na nL nF
    have go : ∀ {hds' : List ExceptHandler} {l' : List (Value × Option Nat × (Addr → Value → Option Addr → TS))}, HdsG X hds' l' → wGen X.K Wout D l' cls d σ' H' →
        wpAny (model X.prog X.w) X.A (handleBy (.ref a) X.env hds') (SP X pins D) X.xe { s' with heap := h3 } := by
      intro hds' l' hk
      induction hk with
      | nil =>
        intro w
        refine wpAny_handleBy_nil ?_
        obtain ⟨k1, k2, k3, oe, vs, T, oT, ts', he, hz, hd, h1, hr⟩ := id fl3
        unfold PySem.passOn
        refine wpAny_bind (wpAny_field he hd h1 ?_)
        rw [if_neg (show ¬ ((Value.ref T == Value.none) = true) from by simp)]
        have fin : wpAny (model X.prog X.w) X.A (setFlight (.ref a) X.env.frame) (fun _ s4 => wpAny (model X.prog X.w) X.A (throw (.ref a) : Sem Flow) (SP X pins D) X.xe s4) X.xe { s' with heap := h3 } := by
          rw [hf]
          refine HandSPX.setFlight_upZ fl3 fun h4 hh4 up4 => wpAny_throw (tk _ _ ?_)
          exact ⟨a, B, sI, pins, σ', H', cls, d, rfl, J, nb, (up.trans up3).trans up4, .inr (.inr (by rw [hs]; exact hh4)), na, os, ag, w⟩
        first
          | exact wpAny_bind (wpAny_pure (wpAny_bind fin))
          | exact wpAny_bind fin
      | @one x c ts b₀ suite np pos' hds2 l2 hc hsu r ih =>
        intro w
        obtain ⟨b, hb1, hyes, hno⟩ := w
        refine wpAny_handleBy_cons (codeAny_handlers_test ?_) (by intro q; cases q)
        have LT : PySem.W.Looks (model X.prog X.w) h3 (typeOf (.ref a)) cls := fun A Q E s k q => wpAny_typeOf_ref (k _ _ he3) (by rw [hz3.1]; exact q)
        have LM := PySem.W.exm_one (M := model X.prog X.w) (J3.kIn) LT hb1
        have test : ∀ {Q : Value → Shared → Prop} {E : Value → Shared → Prop}, Q c { s' with heap := h3 } → wpAny (model X.prog X.w) (X.A.mark (some (.ref a))) (eval (.Name x np) X.env) Q E { s' with heap := h3 } := fun {Q E} q => by
          obtain ⟨hg, hdbg, hm | ⟨hm, hv, hnn⟩⟩ := hc
          · exact ld_glob (X := X.suite a ((a, oe3) :: (X.pn ++ pins))) S3 hg hm q hdbg
          · exact ld_blt (X := X.suite a ((a, oe3) :: (X.pn ++ pins))) S3 hg hm hv q hnn hdbg
        refine test (LM.here ?_)
        cases b with
        | true =>
          refine codeAny_handlers_suite ?_
          refine HandSPX.lands_againZ fl3 fun h4 fl4 up4 => ?_
          have J4 : Inv X pins σ' H' { s' with heap := h4 } := J.landed nb fl4.1 ((up.trans up3).trans up4) os ag
          obtain ⟨oe4, vs4, he4, hz4, hd4⟩ := fl4.there
          have S4 := J4.suite he4 hd4 na nL nF
          refine wpAny_mono ((hsu a oe4 cls d (X.pn ++ pins) hz4 ⟨_, hd4⟩).run [] _ _ H' _ S4 (hyes rfl a na)) (fun f s6 hsp => ?_) (fun _ _ z => False.elim z)
          cases f with
          | next =>
            obtain ⟨σ6, H6, S6, q6⟩ := hsp
            exact ⟨_, _, S6.unsuite ok, q6⟩
          | brk =>
            obtain ⟨σ6, H6, S6, q6⟩ := hsp
            exact ⟨_, _, S6.unsuite ok, q6⟩
          | cont =>
            obtain ⟨σ6, H6, S6, q6⟩ := hsp
            exact ⟨_, _, S6.unsuite ok, q6⟩
          | ret u =>
            obtain ⟨v6, σ6, H6, S6, r6, q6⟩ := hsp
            exact ⟨_, _, _, S6.unsuite ok, r6, q6⟩
        | false =>
          show wpAny _ X.A (handleBy (.ref a) X.env hds2) _ _ _
          exact ih (hno rfl)
      | @nm x n i c ts b₀ suite np pos' hds2 l2 hN hi hln hc hsu r ih =>
        intro w
        obtain ⟨b, hb1, hyes, hno⟩ := w
        refine wpAny_handleBy_cons (codeAny_handlers_test ?_) (by intro q; cases q)
        have hloc : Loc X.env.scope n := .inl hln
        have LT : PySem.W.Looks (model X.prog X.w) h3 (typeOf (.ref a)) cls := fun A Q E s k q => wpAny_typeOf_ref (k _ _ he3) (by rw [hz3.1]; exact q)
        have LM := PySem.W.exm_one (M := model X.prog X.w) (J3.kIn) LT hb1
        have test : ∀ {Q : Value → Shared → Prop} {E : Value → Shared → Prop}, Q c { s' with heap := h3 } → wpAny (model X.prog X.w) (X.A.mark (some (.ref a))) (eval (.Name x np) X.env) Q E { s' with heap := h3 } := fun {Q E} q => by
          obtain ⟨hg, hdbg, hm | ⟨hm, hv, hnn⟩⟩ := hc
          · exact ld_glob (X := X.suite a ((a, oe3) :: (X.pn ++ pins))) S3 hg hm q hdbg
          · exact ld_blt (X := X.suite a ((a, oe3) :: (X.pn ++ pins))) S3 hg hm hv q hnn hdbg
        refine test (LM.here ?_)
        cases b with
        | true =>
          refine codeAny_handlers_suite_as ?_
          refine HandSPX.lands_againZ fl3 fun h4 fl4 up4 => ?_
          have J4 : Inv X pins σ' H' { s' with heap := h4 } := J.landed nb fl4.1 ((up.trans up3).trans up4) os ag
          obtain ⟨oe4, vs4, he4, hz4, hd4⟩ := fl4.there
          have S4 := J4.suite he4 hd4 na nL nF
          refine store_ok (X := X.suite a ((a, oe4) :: (X.pn ++ pins))) (v := .ref a) S4 hN hi hloc rfl (fun s5 S5 => ?_) (.inr hln)
          refine wpAny_mono ((hsu a oe4 cls d (X.pn ++ pins) hz4 ⟨_, hd4⟩).run [] s5 _ H' _ S5 (hyes rfl a na)) (fun f s6 hsp => ?_) (fun _ _ z => False.elim z)
          have end_ : ∀ {σ6 : L2.St} {H6 : Hp} {Q : Shared → Prop}, Inv (X.suite a ((a, oe4) :: (X.pn ++ pins))) [] σ6 H6 s6 → (∀ s7, Inv X pins (σ6.set i none) H6 s7 → Q s7) →
              wpAny (model X.prog X.w) X.A (do bindName X.env n .none; unbindBehindTheSuite X.env n pos') (fun _ s7 => Q s7) X.xe s6 := fun {σ6 H6 Q} S6 hq => gone_ok (S6.unsuite ok) hN hi hln hq
          cases f with
          | next =>
            obtain ⟨σ6, H6, S6, q6⟩ := hsp
            exact end_ S6 fun s7 J7 => ⟨_, _, J7, q6⟩
          | brk =>
            obtain ⟨σ6, H6, S6, q6⟩ := hsp
            exact end_ S6 fun s7 J7 => ⟨_, _, J7, q6⟩
          | cont =>
            obtain ⟨σ6, H6, S6, q6⟩ := hsp
            exact end_ S6 fun s7 J7 => ⟨_, _, J7, q6⟩
          | ret u =>
            obtain ⟨v6, σ6, H6, S6, r6, q6⟩ := hsp
            exact end_ S6 fun s7 J7 => ⟨_, _, _, J7, r6, q6⟩
        | false =>
          show wpAny _ X.A (handleBy (.ref a) X.env hds2) _ _ _
          exact ih (hno rfl)
    exact go hh w
  · cases f with
    | next =>
      obtain ⟨σ', H', J', q⟩ := hsp
      exact wpAny_execs_nil ⟨σ', H', J'.ofTry ok, q⟩
    | brk =>
      obtain ⟨σ', H', J', q⟩ := hsp
      exact ⟨σ', H', J'.ofTry ok, q⟩
    | cont =>
      obtain ⟨σ', H', J', q⟩ := hsp
      exact ⟨σ', H', J'.ofTry ok, q⟩
    | ret u =>
      obtain ⟨v, σ', H', J', r, q⟩ := hsp
      exact ⟨v, σ', H', J'.ofTry ok, r, q⟩
end
end Px
set_option Elab.async false
set_option linter.all false
set_option maxRecDepth 100000
set_option maxHeartbeats 4000000
namespace Px
open PySem PySem.Spec PyProof.Rows L2
mutual
/-- a try's body: what flies off it flies before any name has changed -/
def chkF (T : Tx) : Sx → Stmt → Bool
  | .asg (.nm i) e, .Assign [.Name x _] v _ => atB T.N i x && locB T.sc x && (T.fn x || lclB T.sc x) && chkE T e v && notLc v
  | .ret e, .Return (some v) _ => chkE T e v
  | .expr e, .Expr v _ => chkE T e v && notLc v
  | .ife c a b, .If t x y _ => chkE T c t && chkFB T a x && chkFB T b y
  | _, _ => false
def chkFB (T : Tx) : Sxs → List Stmt → Bool
  | .nil, [] => true
  | .cons s .nil, [st] => chkF T s st
  | .cons (.ife c (.cons (.ret e) .nil) .nil) (.cons s ss), .If t [.Return (some v) _] [] _ :: st :: sts => chkE T c t && chkE T e v && chkFB T (.cons s ss) (st :: sts)
  | _, _ => false
end
/-- a target that is no plain local name: the stores are never swapped -/
def celC (sc : Scope) (es : List Expr) : Bool := es.any fun
  | .Name x _ => !(sc.names.lookup x == some .local)
  | _ => false
def chkNm (T : Tx) (i : Option Nat) (n : Option Str) : Bool :=
  match i, n with
  | none, none => true
  | some i, some n => atB T.N i n && lclB T.sc n
  | _, _ => false
def chkHds (T : Tx) : Hds → List ExceptHandler → Bool
  | .nil, [] => true
  | .cons c i s hs, .ExceptHandler (some e) n (b :: body) _ :: r => chkCl T c e && chkNm T i n && chkSus T i s (b :: body) && chkHds T hs r
  | _, _ => false
mutual
def chkS (T : Tx) : Sx → Stmt → Bool
  | .asg (.nm i) e, .Assign [.Name x px] v _ => atB T.N i x && locB T.sc x && (T.fn x || lclB T.sc x) && chkE T e v && asgC T.sc x px v && (notLc v || notShr e)
  | .asg (.tup ts) e, .Assign [.Tuple es k q] v _ => chkG T (.tup ts) (.Tuple es k q) && chkE T e v && (tupC es v || parC T.sc es v || celC T.sc es)
  | .asgL ts e, .Assign [.Tuple es _ _] v _ => chkGs T ts es && chkE T e v && notTup v
  | .aug i o e, .AugAssign (.Name x _) op v _ => atB T.N i x && locB T.sc x && (T.fn x || lclB T.sc x) && chkE T e v && decide (o.op = op) && (o == .add || o == .sub)
  | .setix i k e, .Assign [.Subscript (.Name x _) z _] v _ => atB T.N i x && visB T.sc x && !dbgB x && chkE T k z && chkE T e v
  | .app i e, .Expr (.Call (.Attribute (.Name x _) m ap) [y] [] cp) _ => decide (m = sO "append") && atB T.N i x && visB T.sc x && !dbgB x && (ap.endLine == cp.line) && chkE T e y
  | .ins0 i e, .Expr (.Call (.Attribute (.Name x _) m ap) [.Constant (.int k) _ _, y] [] cp) _ => decide (m = sO "insert") && decide (k = 0) && atB T.N i x && visB T.sc x && !dbgB x && (ap.endLine == cp.line) && chkE T e y
  | .ext i e, .Expr (.Call (.Attribute (.Name x _) m ap) [y] [] cp) _ => decide (m = sO "extend") && atB T.N i x && visB T.sc x && !dbgB x && (ap.endLine == cp.line) && chkE T e y
  | .setixr a k e, .Assign [.Subscript b z _] v _ => chkE T a b && chkE T k z && chkE T e v
  | .dput d k e, .Assign [.Subscript b z _] v _ => chkE T d b && chkE T k z && chkE T e v
  | .augix i k o e, .AugAssign (.Subscript (.Name x _) z _) op v _ => atB T.N i x && visB T.sc x && !dbgB x && chkE T k z && chkE T e v && decide (o.op = op) && (o == .add || o == .sub)
  | .rem i e, .Expr (.Call (.Attribute (.Name x _) m ap) [y] [] cp) _ => decide (m = sO "remove") && atB T.N i x && visB T.sc x && !dbgB x && (ap.endLine == cp.line) && chkE T e y
  | .expr e, .Expr v _ => chkE T e v && notLc v
  | .ret e, .Return (some v) _ => chkE T e v
  | .retv i, .Return (some (.Name x _)) _ => atB T.N i x && visB T.sc x && !dbgB x
  | .retN, .Return none _ => true
  | .ife c a b, .If t x y _ => chkE T c t && chkB T a x && chkB T b y
  | .whl c b, .While t x [] _ => chkE T c t && chkB T b x
  | .loop t it b, .For tg i x [] _ => chkG T t tg && chkI T tg it i && chkB T b x
  | .brk, .Break _ => true
  | .cont, .Continue _ => true
  | .pass, .Pass _ => true
  | .bad, _ => true
  | .raise c fs es, .Raise (some (.Call (.Name x _) xs [] _)) none _ => gBlt T x c && !dbgB x && T.fns.contains c && (clsN c && decide (c ≠ "StintError")) && decide (fs = fieldsOf c) && chkA T es xs && decide (xs.length = fs.length)
  | .tryx b hs, .Try body hds [] [] _ => chkFB T b body && chkHds T hs hds && decide (hds ≠ [])
  | _, _ => false
def chkB (T : Tx) : Sxs → List Stmt → Bool
  | .cons (.frz _) ss, sts => chkB T ss sts
  | .cons (.shr _) ss, sts => chkB T ss sts
  | .nil, [] => true
  | .cons s ss, st :: sts => chkS T s st && chkB T ss sts
  | _, _ => false
end
def PostF (K : PySem.W.Frag) (E : XK) (g0 g : Gh) (r : Res (Fl × Slots)) (D : Ends) : Prop :=
  match r with
  | .ok p S => ∀ g' σ', g'.S = S → Gok K g' → Stp g0 g' → Gro g g' → SlOk K g0 g' σ' p.2 → RtR K g0 g' p.1 D σ'
  | .exc x S => ∀ g' C od, g'.S = S → Gok K g' → Stp g g' → XR K g' x C od → E C od g'.H
  | .stuck => False
def rdF (K : PySem.W.Frag) (E : L2.St → XK) (f : Slots → Sto → Res (Fl × Slots)) : TS := fun D σ H => ∃ g0 g sl, g.H = H ∧ Gok K g ∧ SlOk K g0 g σ sl ∧ Stp g0 g ∧ PostF K (E σ) g0 g (f sl g.S) D
section
variable {K : PySem.W.Frag} {E : XK} {g0 g g' : Gh} {σ : L2.St} {sl : Slots}
theorem PostF.shift {D : Ends} {r : Res (Fl × Slots)} (h : PostF K E g0 g r D) (st : Stp g g') : PostF K E g0 g' r D := by
  cases r with
  | ok p S => intro g1 σ1 e ok st1 gr1 so; exact h g1 σ1 e ok st1 (st.gro.trans gr1) so
  | exc x S => intro g1 C od e ok st1 xr; exact h g1 C od e ok (st.trans st1) xr
  | stuck => exact h
theorem PostF.bind {D : Ends} {α β : Type} {RR : Gh → Gh → α → β → Prop} {f : Res α} {k : α → Sto → Res (Fl × Slots)} {Q1 : β → Hp → Prop} (h : PostF K E g0 g (f.bind k) D)
    (hk : ∀ g1 a v, Gok K g1 → Stp g g1 → RR g g1 a v → PostF K E g0 g1 (k a g1.S) D → Q1 v g1.H) : Post K E RR g f Q1 := by
  cases f with
  | ok a S => intro g' v e ok s r; subst e; exact hk g' a v ok s r (PostF.shift h s)
  | exc x S => exact h
  | stuck => exact h
theorem PostF.next {S : Sto} {D : Ends} (h : PostF K E g0 g (.ok (.nx, sl) S) D) (e : g.S = S) (ok : Gok K g) (st : Stp g0 g) (so : SlOk K g0 g σ sl) : D.nx σ g.H :=
  h g σ e ok st (Gro.refl g) so
end
section
variable {F : Cf} {fns gls : List String} {n : Nat}
mutual
theorem sF : ∀ (y : Sx) {X : Cx} {E : L2.St → XK} (c : Ctx X F fns gls n E) (s : Stmt), chkF (tx X fns gls) y s = true → PS X s (rdF X.K E (exS F y))
  | .asg (.nm j) e, X, E, c, s, h => by
    cases s <;> first | exact nc h | skip
    rename_i ts v p
    cases ts with
    | nil => exact nc h
    | cons t ts =>
    cases ts with
    | cons _ _ => cases t <;> exact nc h
    | nil =>
    cases t <;> first | exact nc h | skip
    rename_i x px
    have h' : ((((atB X.N j x && locB X.env.scope x) && (X.fn x || lclB X.env.scope x)) && chkE (tx X fns gls) e v) && notLc v) = true := h
    rw [Bool.and_eq_true, Bool.and_eq_true, Bool.and_eq_true, Bool.and_eq_true, Bool.or_eq_true] at h'
    refine PS.imp (ps_set c.nd (at_of h'.1.1.1.1) (loc_of h'.1.1.1.2) (sE e c v h'.1.2).pe (swaps_plain h'.2) (h'.1.1.2.imp id lcl_of)) fun D σ H ⟨g0, g, sl, eH, ok, so, st, h⟩ => ?_
    subst eH
    unfold exS at h
    refine ⟨g0, g, sl, rfl, ok, so, PostF.bind h fun g1 r v ok1 st1 r1 h1 => ?_⟩
    cases e1 : asgV j r sl with
    | none => rw [e1] at h1; exact h1.elim
    | some sl' =>
      rw [e1] at h1
      exact PostF.next h1 rfl ok1 (st.trans st1) (asg_ok so st st1 r1 e1)
  | .ret e, X, E, c, s, h => by
    cases s <;> first | exact nc h | skip
    rename_i v p
    cases v with
    | none => exact nc h
    | some v =>
      refine PS.imp (ps_ret (sE e c v h).pe) fun D σ H ⟨g0, g, sl, eH, ok, so, st, h⟩ => ?_
      subst eH
      unfold exS at h
      refine ⟨g0, g, sl, rfl, ok, so, PostF.bind h fun g1 r v ok1 st1 r1 h1 => ?_⟩
      cases r with
      | own c => exact h1.elim
      | val d => exact h1 g1 σ rfl ok1 (st.trans st1) (Gro.refl _) (so.step st1) v r1
      | fresh c => exact h1 g1 σ rfl ok1 (st.trans st1) (Gro.refl _) (so.step st1) v (r1.ahead st)
  | .expr e, X, E, c, s, h => by
    cases s <;> first | exact nc h | skip
    rename_i v p
    have h' : (chkE (tx X fns gls) e v && notLc v) = true := h
    rw [Bool.and_eq_true] at h'
    refine PS.imp (ps_expr (sE e c v h'.1).pe (swaps_plain h'.2)) fun D σ H ⟨g0, g, sl, eH, ok, so, st, h⟩ => ?_
    subst eH
    unfold exS at h
    exact ⟨g0, g, sl, rfl, ok, so, PostF.bind h fun g1 r v ok1 st1 r1 h1 => PostF.next h1 rfl ok1 (st.trans st1) (so.step st1)⟩
  | .ife d a b, X, E, c, s, h => by
    cases s <;> first | exact nc h | skip
    rename_i t x y p
    have h' : ((chkE (tx X fns gls) d t && chkFB (tx X fns gls) a x) && chkFB (tx X fns gls) b y) = true := h
    rw [Bool.and_eq_true, Bool.and_eq_true] at h'
    refine PS.imp (ps_if (sE d c t h'.1.1).pt (sFB a c x h'.1.2) (sFB b c y h'.2)) fun D σ H ⟨g0, g, sl, eH, ok, so, st, h⟩ => ?_
    subst eH
    unfold exS at h
    refine ⟨g0, g, sl, rfl, ok, so, PostF.bind h fun g1 k v ok1 st1 r1 h1 => ?_⟩
    subst r1
    cases v with
    | true => exact ⟨g0, g1, sl, rfl, ok1, so.step st1, st.trans st1, h1⟩
    | false => exact ⟨g0, g1, sl, rfl, ok1, so.step st1, st.trans st1, h1⟩
  | .asg (.tup _) _, X, E, c, s, h => by cases s <;> exact nc h
  | .asgL _ _, X, E, c, s, h => by cases s <;> exact nc h
  | .aug _ _ _, X, E, c, s, h => by cases s <;> exact nc h
  | .setix _ _ _, X, E, c, s, h => by cases s <;> exact nc h
  | .app _ _, X, E, c, s, h => by cases s <;> exact nc h
  | .ins0 _ _, X, E, c, s, h => by cases s <;> exact nc h
  | .ext _ _, X, E, c, s, h => by cases s <;> exact nc h
  | .setixr _ _ _, X, E, c, s, h => by cases s <;> exact nc h
  | .augix _ _ _ _, X, E, c, s, h => by cases s <;> exact nc h
  | .rem _ _, X, E, c, s, h => by cases s <;> exact nc h
  | .dput _ _ _, X, E, c, s, h => by cases s <;> exact nc h
  | .retv _, X, E, c, s, h => by cases s <;> exact nc h
  | .retN, X, E, c, s, h => by cases s <;> exact nc h
  | .whl _ _, X, E, c, s, h => by cases s <;> exact nc h
  | .loop _ _ _, X, E, c, s, h => by cases s <;> exact nc h
  | .brk, X, E, c, s, h => by cases s <;> exact nc h
  | .cont, X, E, c, s, h => by cases s <;> exact nc h
  | .pass, X, E, c, s, h => by cases s <;> exact nc h
  | .bad, X, E, c, s, h => by cases s <;> exact nc h
  | .frz _, X, E, c, s, h => by cases s <;> exact nc h
  | .shr _, X, E, c, s, h => by cases s <;> exact nc h
  | .raise _ _ _, X, E, c, s, h => by cases s <;> exact nc h
  | .tryx _ _, X, E, c, s, h => by cases s <;> exact nc h
theorem sFB : ∀ (ys : Sxs) {X : Cx} {E : L2.St → XK} (c : Ctx X F fns gls n E) (ss : List Stmt), chkFB (tx X fns gls) ys ss = true → PSs X ss (rdF X.K E (exB F ys))
  | .nil, X, E, c, [], _ => PSs.imp pss_nil fun D σ H ⟨g0, g, sl, eH, ok, so, st, h⟩ => by
    subst eH
    unfold exB at h
    exact PostF.next h rfl ok st so
  | .nil, X, E, c, _ :: _, h => nc h
  | .cons y .nil, X, E, c, [s], h => PSs.imp (pss_cons (sF y c s h) pss_nil) fun D σ H ⟨g0, g, sl, eH, ok, so, st, h⟩ => by
    subst eH
    unfold exB at h
    refine ⟨g0, g, sl, rfl, ok, so, st, ?_⟩
    cases e1 : exS F y sl g.S with
    | stuck => rw [e1] at h; exact h
    | exc x S => rw [e1] at h; exact h
    | ok p S =>
      rw [e1, Res.bind_ok] at h
      obtain ⟨f, sl1⟩ := p
      intro g' σ' eS ok' st' gr' so'
      subst eS
      cases f with
      | nx =>
        have h' : PostF X.K (E σ) g0 g (exB F .nil sl1 g'.S) D := h
        unfold exB at h'
        exact h' g' σ' rfl ok' st' gr' so'
      | bk => exact h g' σ' rfl ok' st' gr' so'
      | ct => exact h g' σ' rfl ok' st' gr' so'
      | rt r => exact h g' σ' rfl ok' st' gr' so'
  | .cons y .nil, X, E, c, [], h => nc h
  | .cons y .nil, X, E, c, _ :: _ :: _, h => nc h
  | .cons y (.cons y2 ys), X, E, c, ss, h => by
    have key : ∃ d e t v p1 p2 st sts, y = .ife d (.cons (.ret e) .nil) .nil ∧ ss = .If t [.Return (some v) p1] [] p2 :: st :: sts ∧ ((chkE (tx X fns gls) d t && chkE (tx X fns gls) e v) && chkFB (tx X fns gls) (.cons y2 ys) (st :: sts)) = true := by
      unfold chkFB at h
      split at h
      · rename_i q; cases q
      · rename_i q; cases q
      · rename_i q; cases q; exact ⟨_, _, _, _, _, _, _, _, rfl, rfl, h⟩
      · cases h
    obtain ⟨d, e, t, v, p1, p2, s2, sts, rfl, rfl, h'⟩ := key
    rw [Bool.and_eq_true, Bool.and_eq_true] at h'
    have b2 := sFB (.cons y2 ys) c (s2 :: sts) h'.2
    refine PSs.imp (pss_cons (ps_if (sE d c t h'.1.1).pt (pss_cons (ps_ret (sE e c v h'.1.2).pe) pss_nil) pss_nil) b2) fun D σ H ⟨g0, g, sl, eH, ok, so, st, h⟩ => ?_
    subst eH
    unfold exB exS at h
    rw [Res.bind_assoc] at h
    refine ⟨g0, g, sl, rfl, ok, so, PostF.bind h fun g1 k v ok1 st1 r1 h1 => ?_⟩
    subst r1
    cases v with
    | true =>
      rw [if_pos rfl] at h1 ⊢
      unfold exB exS at h1
      rw [Res.bind_assoc, Res.bind_assoc] at h1
      refine ⟨g0, g1, sl, rfl, ok1, so.step st1, PostF.bind h1 fun g2 r v ok2 st2 r2 h2 => ?_⟩
      have st12 := (st.trans st1).trans st2
      cases r with
      | own c => exact h2.elim
      | val d => exact h2 g2 σ rfl ok2 st12 (Gro.refl _) ((so.step st1).step st2) v r2
      | fresh c => exact h2 g2 σ rfl ok2 st12 (Gro.refl _) ((so.step st1).step st2) v (r2.ahead (st.trans st1))
    | false =>
      rw [if_neg Bool.false_ne_true] at h1 ⊢
      have e0 : exB F .nil sl g1.S = .ok (.nx, sl) g1.S := by unfold exB; rfl
      rw [e0, Res.bind_ok] at h1
      exact ⟨g0, g1, sl, rfl, ok1, so.step st1, st.trans st1, h1⟩
end
end
end Px
set_option Elab.async false
set_option linter.all false
set_option maxRecDepth 100000
set_option maxHeartbeats 4000000
namespace Px
open PySem PySem.Spec PyProof.Rows L2
/-- what a def's own block knows of what flies -/
structure DefX (X : Cx) (E : XK) : Prop where
  tk : Takes X fun cls d _ H => E cls d H
  stk : X.stack = X.env :: X.outer
  fr : X.env.frame = some X.env.locals
section
variable {X : Cx} {C : Addr}
/-- X() of a class without own __init__ -/
theorem pmk0 {x : Str} {p pos : Pos} {bmB : List Value} {B newId initId : String} (F : ExcBaseFacts B newId initId bmB) (q : PySem.W.excIn X.K C bmB newId = true) (gC : X.mg x = some (.ref C)) (kC : PySem.W.keepIn X.K (.ref C) = true) (r : Raises X (.ref C)) (hg : Gl X x)
    (hdb : (x == ("__debug__" : Str)) = false) : PMk X (.Call (.Name x p) [] [] pos) (fun _ H Q => Q (.ref C) none H) := by
  intro pins s σ H Q I h
  refine wpAny_Call_Name_kw (ld_glob I hg gC ?_ hdb)
  refine PySem.W.callWith_K0 I.kIn kC ?_
  obtain ⟨bm, N, nm, qn, bs, hdct, sn, sub, ab, col, dd, k0, k1, k2, k3, k5, mN, hC, hN, hni, T⟩ := exc_obj I.kIn q
  refine wpAny_call_exc_subT F T hC hN hni (fun h' e hm => ?_) (Nat.zero_le _)
  exact mk_of I hm r h (I.hok.gone hm.new)
end
section
variable {X : Cx} {F : Cf} {fns gls : List String} {n : Nat} {E : XK}
theorem st_raise (c : Ctx X F fns gls n (kE E)) (hx : DefX X E) {cl : String} {fs : List String} {es : Exs} {x : Str} {p q pos : Pos} {xs : List Expr} (h1 : x = sO cl) (hgl : X.env.scope.names.lookup x = some .globalImplicit) (hdb : (x == ("__debug__" : Str)) = false) (hin : cl ∈ fns) (hcl : clsN cl = true) (hse : cl ≠ "StintError") (hfs : fs = fieldsOf cl)
    (ha : chkA (tx X fns gls) es xs = true) (hlen : xs.length = fs.length) : PS X (.Raise (some (.Call (.Name x p) xs [] q)) none pos) (rS X (kE E) F (.raise cl fs es)) := by
  subst h1 hfs
  obtain ⟨C, k, hm, hbare, hinit⟩ := c.xc cl hin hcl
  have rs : Raises X (.ref C) := raises_own k.base k.typeIn
  cases xs with
  | nil =>
    have hf : fieldsOf cl = [] := List.eq_nil_of_length_eq_zero hlen.symm
    have hes : es = .nil := by
      cases es with
      | nil => rfl
      | cons _ _ => exact nc ha
    subst hes
    refine PS.imp (ps_raise c.calm hx.tk (pmk0 PySem.F.excBase_ValueError (hbare hf hse) hm k.kC rs hgl hdb)) fun D σ H ⟨g0, g, sl, eH, ok, so, st, h⟩ => ?_
    subst eH
    unfold exS evA at h
    rw [Res.bind_ok, if_pos (by rw [hf]; rfl)] at h
    exact h g (.ref C) none rfl ok st ⟨C, k, rfl, by simp [hf], .inl ⟨rfl, by simp [hf]⟩⟩
  | cons e0 es0 =>
    have hf : fieldsOf cl ≠ [] := fun z => by rw [z] at hlen; cases hlen
    obtain ⟨⟨B, fI, fd, st0, eB, i1, i2, F0, b0, sc, hg0, hc0⟩, B', eB', hmB⟩ := hinit hf
    have hBB : B = B' := by
      have := eB.ns.symm.trans eB'.ns
      cases this; rfl
    subst hBB
    have F1 : FnOk X.prog X.w X.K X.mg X.base CX0 1 fI fd (("self" :: fieldsOf cl).map sO) (spO C (fieldsOf cl)) := fn_init k eB hmB F0 sc hg0 hc0 hf
    have hst := chkA_star ha
    have sa := (sA es c (e0 :: es0) ha).1
    refine PS.imp (ps_raise c.calm hx.tk (pmk_oex (CX := CX0) (ds := []) (dvs := []) k.oex i1 i2 F1 (c.room.mono (by omega)) b0 .nil pass0 hgl hm sa hdb (star_cons (hst _ List.mem_cons_self)) (star_plain fun z hz => hst z (List.mem_cons_of_mem _ hz)))) fun D σ H ⟨g0, g, sl, eH, ok, so, st, h⟩ => ?_
    subst eH
    unfold exS at h
    refine ⟨g0, g, sl, rfl, ok, so, PostS.bind st h fun g1 ds vs ok1 st1 r1 h1 => ?_⟩
    split at h1
    case isFalse => exact h1.elim
    rename_i hl
    have hv : vs.length = (fieldsOf cl).length := by rw [← r1.length]; exact hl
    refine ⟨by have := fields_le cl; omega, fun a ha1 => ⟨a, vs, by rw [List.append_nil], hv, upd_same, fun H2 d hd hda e1 e2 e3 => ?_⟩⟩
    have hd1 : g1.H d = none := by rw [upd_ne hda] at hd; exact hd
    refine ⟨rfl, d, _, e1, e2, hd1, ?_⟩
    have eH : upd (del H2 a) d (.xd (((fieldsOf cl).map sO).zip vs).reverse) = upd g1.H d (.xd (((fieldsOf cl).map sO).zip vs).reverse) := by
      funext b
      by_cases hb : b = d
      · rw [hb, upd_same, upd_same]
      · rw [upd_ne hb, upd_ne hb]
        by_cases hba : b = a
        · rw [hba, del_same, ha1]
        · rw [del_ne hba, e3 b hba hb, upd_ne hba]
    rw [eH]
    obtain ⟨k2, st2⟩ := ok1.newR hd1 (.xd (((fieldsOf cl).map sO).zip vs).reverse)
    refine h1 (g1.newR d _) (.ref C) (some d) rfl k2 (st.trans (st1.trans st2)) ⟨C, k, rfl, zip_map hl, .inr ⟨d, _, rfl, upd_same, fun f y e => ?_⟩⟩
    obtain ⟨v, w1, w2⟩ := look_rev (fields_le cl) (fields_nd hcl) r1 f y e
    exact ⟨v, w1, st2.gro.rep w2⟩
def tsu (K : PySem.W.Frag) (i : Option Nat) (s : Sus) : Addr → Value → Option Addr → TS := fun a cls d D σ H => ∃ (x : Xn) (Ca : Addr), cls = .ref Ca ∧ ClsK K x.cls Ca ∧ x.fs.map (·.1) = fieldsOf x.cls ∧ rdXS K ⟨x, a, Ca, d, i⟩ (exUs x s) D σ H
inductive HRel (K : PySem.W.Frag) : Hds → List (Value × Option Nat × (Addr → Value → Option Addr → TS)) → Prop
  | nil : HRel K .nil []
  | cons {c : String} {v : Value} {i : Option Nat} {s : Sus} {hs : Hds} {l : List (Value × Option Nat × (Addr → Value → Option Addr → TS))} (he : ∀ c' Ca, ClsK K c' Ca → PySem.W.exmOne K (.ref Ca) v = some (xIs c' c)) (r : HRel K hs l) : HRel K (.cons c i s hs) ((v, i, tsu K i s) :: l)
theorem handle_read {K : PySem.W.Frag} {E : XK} {D : Ends} {hs : Hds} {l : List (Value × Option Nat × (Addr → Value → Option Addr → TS))} (r : HRel K hs l) {x : Xn} {sl : Slots} {σ : L2.St} {g0 g g' : Gh} {C : Value} {od : Option Addr} (ok : Gok K g') (st0 : Stp g0 g') (st : Stp g g') (so : SlOk K g0 g σ sl) (xr : XR K g' x C od)
    (h : PostS K E g0 g (handle x sl g'.S hs) D) : wGen K (fun cls d _ H => E cls d H) D l C od σ g'.H := by
  induction r with
  | nil => exact h g' C od rfl ok st0 xr
  | @cons c v i s hs l he r ih =>
    unfold handle at h
    obtain ⟨Ca, k, rfl, kf, kr⟩ := id xr
    have hb := he _ _ k
    have so' := so.step st
    have no : xIs x.cls c = false → wGen K (fun cls d _ H => E cls d H) D l (.ref Ca) od σ g'.H := fun e => by
      rw [if_neg (by rw [e]; exact Bool.false_ne_true)] at h
      exact ih h
    cases i with
    | none =>
      refine ⟨_, hb, fun e a ha => ?_, no⟩
      rw [if_pos e] at h
      have h : PostS K E g0 g ((exUs x s sl g'.S).noX.bind fun p S1 => .ok (goneS none p) S1) D := h
      refine ⟨x, Ca, rfl, k, kf, g0, g', sl, rfl, ok, so', ⟨xr, fun i z => by cases z⟩, st0, ?_⟩
      cases e1 : exUs x s sl g'.S with
      | stuck => rw [e1] at h; exact h
      | exc y S => rw [e1] at h; exact h
      | ok p S2 =>
        rw [e1] at h
        intro g2 σ2 e2 ok2 st2 gr2 so2 _
        exact h g2 σ2 e2 ok2 st2 (st.gro.trans gr2) so2
    | some i =>
      refine ⟨_, hb, fun e a ha => ?_, no⟩
      rw [if_pos e] at h
      by_cases hi : okS (some i) sl = true
      · rw [if_pos hi] at h
        have hi' : i < sl.length := of_decide_eq_true hi
        refine ⟨x, Ca, rfl, k, kf, g0, g', sl.set i .emp, rfl, ok, so'.setEmp i _, ⟨xr, fun j z => ?_⟩, st0, ?_⟩
        · cases z
          exact List.getElem?_set_self (by rw [so'.len]; exact hi')
        · have h : PostS K E g0 g ((exUs x s (sl.set i .emp) g'.S).noX.bind fun p S1 => .ok (goneS (some i) p) S1) D := h
          cases e1 : exUs x s (sl.set i .emp) g'.S with
          | stuck => rw [e1] at h; exact h
          | exc y S => rw [e1] at h; exact h
          | ok p S2 =>
            rw [e1] at h
            intro g2 σ2 e2 ok2 st2 gr2 so2 _
            have q := h g2 (σ2.set i none) e2 ok2 st2 (st.gro.trans gr2) (so2.setEmp i none)
            obtain ⟨fl, sl2⟩ := p
            cases fl with
            | nx => exact q
            | bk => exact q
            | ct => exact q
            | rt r => exact q
      · rw [if_neg hi] at h
        exact h.elim
theorem hds_of (c : Ctx X F fns gls n (kE E)) : ∀ {hs : Hds} {hds : List ExceptHandler}, chkHds (tx X fns gls) hs hds = true → ∃ l, HdsG X hds l ∧ HRel X.K hs l
  | .nil, [], _ => ⟨[], .nil, .nil⟩
  | .nil, _ :: _, h => nc h
  | .cons cl i s hs, [], h => nc h
  | .cons cl i s hs, hd :: hds, h => by
    obtain ⟨ty, nm, body, pos⟩ := hd
    cases ty with
    | none => exact nc h
    | some e =>
    cases body with
    | nil => exact nc h
    | cons b body =>
    have h' : (((chkCl (tx X fns gls) cl e && chkNm (tx X fns gls) i nm) && chkSus (tx X fns gls) i s (b :: body)) && chkHds (tx X fns gls) hs hds) = true := h
    rw [Bool.and_eq_true, Bool.and_eq_true, Bool.and_eq_true] at h'
    obtain ⟨⟨⟨h1, h2⟩, h3⟩, h4⟩ := h'
    obtain ⟨l, r1, r2⟩ := hds_of c h4
    have sx : SX X fns := ⟨c.un, c.bl, c.grd, c.sys, c.xc⟩
    cases e <;> first | exact nc h1 | skip
    rename_i x np
    have h1' : ((gBlt (tx X fns gls) x cl && !dbgB x) && (cl == "ValueError" || (fns.contains cl && clsN cl))) = true := h1
    rw [Bool.and_eq_true, Bool.and_eq_true, Bool.or_eq_true, Bool.and_eq_true] at h1'
    obtain ⟨⟨g1, g2⟩, g3⟩ := h1'
    obtain ⟨rfl, hgl⟩ := gBlt_of g1
    obtain ⟨d1, _, _⟩ := dbg_of g2
    obtain ⟨v, nms, hex⟩ : ∃ v, Names X (sO cl) v ∧ ∀ c' Ca, ClsK X.K c' Ca → PySem.W.exmOne X.K (.ref Ca) v = some (xIs c' cl) := by
      by_cases hv : cl = "ValueError"
      · subst hv
        exact ⟨.type "ValueError", ⟨hgl, d1, .inr ⟨sx.bl "ValueError" (by decide), PyProof.Rows.Boot.«ValueError», by decide +kernel⟩⟩, fun c' Ca k => k.exmVE⟩
      · rcases g3 with g3 | g3
        · exact absurd (beq_iff_eq.mp g3) hv
        · obtain ⟨Dd, kd, hm, _⟩ := c.xc cl (by simpa using g3.1) g3.2
          exact ⟨.ref Dd, ⟨hgl, d1, .inl hm⟩, fun c' Ca k => k.exmOne kd⟩
    have hsu : ∀ (a : Addr) (oe : Obj) (cls : Value) (d : Option Addr) (pn : List (Addr × Obj)), Zc cls d oe → (∃ vs, oe.data = .fields vs) → PSs (X.suite a ((a, oe) :: pn)) (b :: body) (tsu X.K i s a cls d) := fun a oe cls d pn hz hf =>
      ⟨fun pins s' σ H D I ⟨y, Ca, e, k1, k2, hq⟩ => by
        subst e
        exact (sSus (U := ⟨y, a, Ca, d, i⟩) sx c.nd ⟨k1, k2, hz, hf⟩ s (b :: body) h3).run pins s' σ H D I hq⟩
    cases i with
    | none =>
      cases nm with
      | none => exact ⟨_, .one nms hsu r1, .cons hex r2⟩
      | some _ => exact nc h2
    | some i =>
      cases nm with
      | none => exact nc h2
      | some nn =>
        have h2' : (atB X.N i nn && lclB X.env.scope nn) = true := h2
        rw [Bool.and_eq_true] at h2'
        exact ⟨_, .nm c.nd (at_of h2'.1) (lcl_of h2'.2) nms hsu r1, .cons hex r2⟩
theorem st_try (c : Ctx X F fns gls n (kE E)) (hx : DefX X E) {b : Sxs} {hs : Hds} {body : List Stmt} {hds : List ExceptHandler} {pos : Pos} (h1 : chkFB (tx X fns gls) b body = true) (h2 : chkHds (tx X fns gls) hs hds = true) (hne : hds ≠ []) :
    PS X (.Try body hds [] [] pos) (rS X (kE E) F (.tryx b hs)) := by
  obtain ⟨l, r1, r2⟩ := hds_of c h2
  cases hds with
  | nil => exact absurd rfl hne
  | cons h0 hds =>
  refine PS.imp (ps_try_gen (tb := fun W => rdF X.K (WE W) (exB F b)) hx.stk hx.fr hx.tk (fun W pn xe tk _ => sFB (X := X.tr pn xe) b ⟨fun σ => passAt tk σ, c.calm, c.nd, c.room, c.grd, c.sys, c.bl, c.fn, c.xc, c.gl⟩ body h1) r1) fun D σ H ⟨g0, g, sl, eH, ok, so, st, h⟩ => ?_
  subst eH
  unfold exS at h
  refine ⟨g0, g, sl, rfl, ok, so, st, ?_⟩
  cases e1 : exB F b sl g.S with
  | stuck => rw [e1] at h; exact h
  | ok p S => rw [e1] at h; exact h
  | exc x S =>
    rw [e1] at h
    intro g' C od eS ok' st' xr
    subst eS
    exact handle_read r2 ok' (st.trans st') st' so xr h
end
end Px
set_option Elab.async false
set_option linter.all false
set_option maxRecDepth 100000
set_option maxHeartbeats 1000000
namespace Px
open PySem PySem.Spec PyProof.Rows L2
theorem sw_cell {elt : Expr} {gs : List Comprehension} {scope : Scope} {pos py : Pos} {y : Str} {l : Nat} {env : Env} (h : cellB env.scope y = true) : swapsWith (.ListComp elt gs scope pos) (some (.Name y py)) l env = pure false := by
  have ky : env.kindOf y = some .cell := by
    unfold cellB at h
    split at h
    · rename_i e
      exact e
    · cases h
  unfold swapsWith
  simp only [ky]
  have : ((some NameKind.cell : Option NameKind) == some .local) = false := rfl
  simp only [this, Bool.and_false, Bool.false_and]
theorem sole_tup {v : Expr} {es : List Expr} {k : Nat} {q : Pos} {l : Nat} {env : Env} : swapsWithSole [.Tuple es k q] v l env = pure false := by
  cases v <;> rfl
theorem sole_sub {v o i : Expr} {q : Pos} {l : Nat} {env : Env} : swapsWithSole [.Subscript o i q] v l env = pure false := by
  cases v <;> rfl
theorem stores_sub {v o i : Expr} {q : Pos} {env : Env} : swappedStores [.Subscript o i q] v env = pure none := by
  cases v <;> rfl
theorem stores_plain {v : Expr} {es : List Expr} {k : Nat} {q : Pos} {env : Env} (h : notTup v = true) : swappedStores [.Tuple es k q] v env = pure none := by
  cases v <;> first | rfl | exact nc h
theorem stores_tup {es vs : List Expr} {k k2 : Nat} {q q2 : Pos} {env : Env} (h : tupC es (.Tuple vs k2 q2) = true) : swappedStores [.Tuple es k q] (.Tuple vs k2 q2) env = pure none := by
  unfold tupC at h
  rw [Bool.or_eq_true] at h
  unfold swappedStores
  dsimp only
  rcases h with h | h
  · rw [if_pos (by rw [h]; rfl)]
  · by_cases c1 : (!(es.length == 2 || es.length == 3) || vs.length != es.length || env.blockKind != .function) = true
    · rw [if_pos c1]
    · rw [if_neg c1]
      split
      · rfl
      · split
        · rfl
        · (first | rfl | rw [if_pos h])
theorem tup_stores {es : List Expr} {v : Expr} {k : Nat} {q : Pos} {env : Env} (h : tupC es v = true) : swappedStores [.Tuple es k q] v env = pure none := by
  by_cases c : notTup v = true
  · exact stores_plain c
  · cases v <;> first | exact absurd rfl c | exact stores_tup h
theorem cel_stores {es : List Expr} {v : Expr} {k : Nat} {q : Pos} {env : Env} (h : celC env.scope es = true) : swappedStores [.Tuple es k q] v env = pure none := by
  by_cases c : notTup v = true
  · exact stores_plain c
  · cases v <;> first | exact absurd rfl c | skip
    rename_i vs k2 q2
    have lt : (es.filterMap fun
      | .Name id pos => if env.kindOf id == some .local && pos.line == (es.head?.map (·.pos.line)).getD 0 then some id else none
      | _ => none).length < es.length := by
      rw [List.length_filterMap_lt_length_iff_exists]
      unfold celC at h
      obtain ⟨e, he, h2⟩ := List.any_eq_true.mp h
      refine ⟨e, he, ?_⟩
      cases e <;> first | rfl | skip
      rename_i x px
      have h2' : (!(env.scope.names.lookup x == some .local)) = true := h2
      have kx : (env.kindOf x == some .local) = false := by
        have : env.kindOf x = env.scope.names.lookup x := rfl
        rw [this]
        simpa using h2'
      dsimp only
      rw [kx]
      rfl
    unfold swappedStores
    dsimp only
    by_cases c1 : (!(es.length == 2 || es.length == 3) || vs.length != es.length || env.blockKind != .function) = true
    · rw [if_pos c1]
    · rw [if_neg c1]
      split
      · rfl
      · split
        · rfl
        · rename_i c3
          exact absurd (by
            rw [Bool.or_eq_true]
            exact .inl (bne_iff_ne.mpr (Nat.ne_of_lt lt))) c3
theorem par_stores2 {x y : Str} {px py pt pt2 : Pos} {kt k2 : Nat} {a b : Expr} {env : Env} (hk : env.scope.kind = .function) (hx : env.scope.names.lookup x = some .local) (hy : env.scope.names.lookup y = some .local) (hl : (py.line == px.line) = true) (hn : x ≠ y)
    (hs : (starB a || starB b) = false) (h1 : [a, b].all (foldedForSure 8) = false) (h2 : [a, b].all (constantsAlone 8) = false) :
    swappedStores [.Tuple [.Name x px, .Name y py] kt pt] (.Tuple [a, b] k2 pt2) env = pure (some [x, y]) := by
  have hb : env.blockKind = .function := by unfold Env.blockKind; rw [hk]; rfl
  have kx : env.kindOf x = some .local := hx
  have ky : env.kindOf y = some .local := hy
  have hs' : ([a, b].any fun | .Starred .. => true | _ => false) = false := by
    have : ([a, b].any starB) = false := by simpa using hs
    exact this
  have hlx : (px.line == px.line) = true := by simp
  have hq : (([x, y] : List Str).eraseDups.length != ([x, y] : List Str).length) = false := by
    have : (y == x) = false := by simpa using fun z => hn z.symm
    simp [List.eraseDups_cons, this]
  have hline : py.line = px.line := by simpa using hl
  unfold swappedStores
  dsimp only
  rw [hb]
  rw [if_neg (by simp)]
  rw [if_neg (fun z => by
    have z' : ([a, b].any starB) = true := z
    simp at z'
    simp at hs
    rcases z' with z' | z'
    · rw [hs.1] at z'; cases z'
    · rw [hs.2] at z'; cases z')]
  have nyx : ¬ y = x := fun z => hn z.symm
  have h1' := h1
  have h2' := h2
  rw [← Bool.not_eq_true] at h1' h2'
  simp only [List.filterMap_cons, kx, ky, hline, List.head?_cons, Option.map_some, Option.getD_some, Expr.pos, beq_self_eq_true, Bool.and_self, if_true, List.filterMap_nil, hq]
  rw [if_neg (by simp), if_neg h1', if_neg h2']
theorem par_stores3 {x y z : Str} {px py pz pt pt2 : Pos} {kt k2 : Nat} {a b c : Expr} {env : Env} (hk : env.scope.kind = .function) (hx : env.scope.names.lookup x = some .local) (hy : env.scope.names.lookup y = some .local) (hz : env.scope.names.lookup z = some .local)
    (hl : (py.line == px.line) = true) (hl3 : (pz.line == px.line) = true) (hn : x ≠ y) (hn2 : x ≠ z) (hn3 : y ≠ z)
    (hs : (starB a || starB b || starB c) = false) (h1 : [a, b, c].all (foldedForSure 8) = false) (h2 : [a, b, c].all (constantsAlone 8) = false) :
    swappedStores [.Tuple [.Name x px, .Name y py, .Name z pz] kt pt] (.Tuple [a, b, c] k2 pt2) env = pure (some [x, y, z]) := by
  have hb : env.blockKind = .function := by unfold Env.blockKind; rw [hk]; rfl
  have kx : env.kindOf x = some .local := hx
  have ky : env.kindOf y = some .local := hy
  have kz : env.kindOf z = some .local := hz
  have hq : (([x, y, z] : List Str).eraseDups.length != ([x, y, z] : List Str).length) = false := by
    have e1 : (y == x) = false := by simpa using fun w => hn w.symm
    have e2 : (z == x) = false := by simpa using fun w => hn2 w.symm
    have e3 : (z == y) = false := by simpa using fun w => hn3 w.symm
    simp [List.eraseDups_cons, e1, e2, e3]
  have hline : py.line = px.line := by simpa using hl
  have hline3 : pz.line = px.line := by simpa using hl3
  unfold swappedStores
  dsimp only
  rw [hb]
  rw [if_neg (by simp)]
  rw [if_neg (fun w => by
    have z' : ([a, b, c].any starB) = true := w
    simp at z'
    simp at hs
    rcases z' with z' | z' | z'
    · rw [hs.1.1] at z'; cases z'
    · rw [hs.1.2] at z'; cases z'
    · rw [hs.2] at z'; cases z')]
  have h1' := h1
  have h2' := h2
  rw [← Bool.not_eq_true] at h1' h2'
  simp only [List.filterMap_cons, kx, ky, kz, hline, hline3, List.head?_cons, Option.map_some, Option.getD_some, Expr.pos, beq_self_eq_true, Bool.and_self, if_true, List.filterMap_nil, hq]
  rw [if_neg (by simp), if_neg h1', if_neg h2']
section
variable {F : Cf} {fns gls : List String} {n : Nat} {E : L2.St → XK}
/-- what a swapped store reads -/
theorem par_read {X : Cx} {ts : Tgs} {es : Exs} {D : Ends} {σ : L2.St} {H : Hp} {Q1 : List V → Hp → Prop} (h : rS X E F (.asg (.tup ts) (.tup es)) D σ H)
    (hk : ∀ g0 g1 sl ds vs sl', Gok X.K g1 → Stp g0 g1 → SlOk X.K g0 g1 σ sl → g1.Reps X.K ds vs → bindTs ts ds sl = some sl' → PostS X.K (E σ) g0 g1 (.ok (.nx, sl') g1.S) D → Q1 vs g1.H) : rdA X.K E (evA F es) σ H Q1 := by
  obtain ⟨g0, g, sl, eH, ok, so, st, h⟩ := h
  subst eH
  have e : exS F (.asg (.tup ts) (.tup es)) sl g.S = (evA F es sl g.S).bind fun ds S1 => ((if ds.length ≤ sizeLine then (.ok (.val (.tup ds)) S1 : Res Rv) else .stuck).data).bind fun d S1 => Res.opt ((bindT (.tup ts) d sl).map fun s => (.nx, s)) S1 := by
    show ((evA F es sl g.S).bind _).data.bind _ = _
    unfold Res.data
    rw [Res.bind_assoc, Res.bind_assoc]
    congr 1
    funext ds S1
    rw [Res.bind_assoc]
  rw [e] at h
  refine ⟨g0, g, sl, rfl, ok, so, PostS.bind st h fun g1 ds vs ok1 st1 r1 h1 => ?_⟩
  split at h1
  · have h2 : PostS X.K (E σ) g0 g1 (Res.opt ((bindTs ts ds sl).map fun s => (.nx, s)) g1.S) D := h1
    cases e1 : bindTs ts ds sl with
    | none => rw [e1] at h2; exact h2.elim
    | some sl' =>
      rw [e1] at h2
      exact hk g0 g1 sl ds vs sl' ok1 (st.trans st1) (so.step st1) r1 e1 h2
  · exact h1.elim
theorem ne_at {N : List Str} {i j : Nat} {x y : Str} (hi : N[i]? = some x) (hj : N[j]? = some y) (h : x ≠ y) : i ≠ j := fun z => by
  subst z
  rw [hi] at hj
  exact h (Option.some.inj hj)
theorem st_par {X : Cx} (c : Ctx X F fns gls n E) (hk : X.env.scope.kind = .function) {ts : Tgs} {es : List Expr} {v : Expr} {k : Nat} {q pos : Pos} {e : Ex} (hg : chkG (tx X fns gls) (.tup ts) (.Tuple es k q) = true) (hv : chkE (tx X fns gls) e v = true)
    (hp : parC X.env.scope es v = true) : PS X (.Assign [.Tuple es k q] v pos) (rS X E F (.asg (.tup ts) e)) := by
  unfold parC at hp
  split at hp
  · rename_i x px y py a b k2 q2
    simp only [Bool.and_eq_true, Bool.not_eq_true', decide_eq_true_eq] at hp
    obtain ⟨⟨⟨⟨⟨⟨h1, h2⟩, h3⟩, h4⟩, h5⟩, h6⟩, h7⟩ := hp
    cases e <;> first | exact nc hv | exact Bool.noConfusion (show false = true from chkP_sh (show chkP (tx X fns gls) _ _ _ = true from hv)) | skip
    rename_i es'
    have ha := (sA (E := E) es' c [a, b] hv).1
    cases ts with
    | nil => exact nc hg
    | cons t1 ts =>
    cases ts with
    | nil => cases t1 <;> simp [chkG, chkGs] at hg
    | cons t2 ts =>
    cases ts with
    | cons _ _ => cases t1 <;> cases t2 <;> simp [chkG, chkGs] at hg
    | nil =>
    cases t1 with
    | tup _ => simp [chkG, chkGs] at hg
    | nm i =>
    cases t2 with
    | tup _ => simp [chkG, chkGs] at hg
    | nm j =>
    simp only [chkG, chkGs, Bool.and_eq_true] at hg
    have hi := at_of hg.1.1.1
    have hj := at_of hg.2.1.1.1
    refine PS.imp (ps_par c.calm c.nd hi hj (ne_at hi hj h4) (lcl_of h1) (lcl_of h2) ha (par_stores2 hk (lcl_of h1) (lcl_of h2) h3 h4 h5 h6 h7) sole_tup) fun D σ H h => ?_
    refine par_read h fun g0 g1 sl ds vs sl' ok1 st1 so r1 hb h2 => ?_
    cases r1 with
    | nil => cases hb
    | cons r t =>
    cases t with
    | nil => cases hb
    | cons r' t =>
    cases t with
    | cons _ _ => cases hb
    | nil =>
    cases hb
    exact ⟨_, _, rfl, PostS.next h2 rfl ok1 st1 ((so.setVal i r).setVal j r')⟩
  · rename_i x px y py z pz a b d k2 q2
    simp only [Bool.and_eq_true, Bool.not_eq_true', decide_eq_true_eq] at hp
    obtain ⟨⟨⟨⟨⟨⟨⟨⟨⟨⟨h1, h2⟩, h2'⟩, h3⟩, h3'⟩, h4⟩, h4'⟩, h4''⟩, h5⟩, h6⟩, h7⟩ := hp
    cases e <;> first | exact nc hv | exact Bool.noConfusion (show false = true from chkP_sh (show chkP (tx X fns gls) _ _ _ = true from hv)) | skip
    rename_i es'
    have ha := (sA (E := E) es' c [a, b, d] hv).1
    cases ts with
    | nil => exact nc hg
    | cons t1 ts =>
    cases ts with
    | nil => cases t1 <;> simp [chkG, chkGs] at hg
    | cons t2 ts =>
    cases ts with
    | nil => cases t1 <;> cases t2 <;> simp [chkG, chkGs] at hg
    | cons t3 ts =>
    cases ts with
    | cons _ _ => cases t1 <;> cases t2 <;> cases t3 <;> simp [chkG, chkGs] at hg
    | nil =>
    cases t1 with
    | tup _ => simp [chkG, chkGs] at hg
    | nm i =>
    cases t2 with
    | tup _ => simp [chkG, chkGs] at hg
    | nm j =>
    cases t3 with
    | tup _ => simp [chkG, chkGs] at hg
    | nm l =>
    simp only [chkG, chkGs, Bool.and_eq_true] at hg
    have hi := at_of hg.1.1.1
    have hj := at_of hg.2.1.1.1
    have hl := at_of hg.2.2.1.1.1
    refine PS.imp (ps_par3 c.calm c.nd hi hj hl (ne_at hi hj h4) (ne_at hi hl h4') (ne_at hj hl h4'') (lcl_of h1) (lcl_of h2) (lcl_of h2') ha (par_stores3 hk (lcl_of h1) (lcl_of h2) (lcl_of h2') h3 h3' h4 h4' h4'' h5 h6 h7) sole_tup) fun D σ H h => ?_
    refine par_read h fun g0 g1 sl ds vs sl' ok1 st1 so r1 hb h2 => ?_
    cases r1 with
    | nil => cases hb
    | cons r t =>
    cases t with
    | nil => cases hb
    | cons r' t =>
    cases t with
    | nil => cases hb
    | cons r'' t =>
    cases t with
    | cons _ _ => cases hb
    | nil =>
    cases hb
    exact ⟨_, _, _, rfl, PostS.next h2 rfl ok1 st1 (((so.setVal i r).setVal j r').setVal l r'')⟩
  · cases hp
end
section
variable {F : Cf} {fns gls : List String} {n : Nat} {E : L2.St → XK}
theorem st_asgC {X : Cx} (c : Ctx X F fns gls n E) (hk : X.env.scope.kind = .function) {i : Nat} {x : Str} {px pos : Pos} {v : Expr} {y : Ex} (hi : X.N[i]? = some x) (hx : Loc X.env.scope x) (hf : X.fn x = true ∨ X.env.scope.names.lookup x = some .local)
    (hv : chkE (tx X fns gls) y v = true) (hs : asgC X.env.scope x px v = true) (hns : (notLc v || notShr y) = true) : PS X (.Assign [.Name x px] v pos) (rS X E F (.asg (.nm i) y)) := by
  by_cases hl : notLc v = true
  · exact st_asg c.nd hi hx hf (sE y c v hv).pe (swaps_plain hl)
  · have hns : notShr y = true := by
      rw [Bool.or_eq_true] at hns
      exact hns.resolve_left hl
    cases v <;> first | exact absurd rfl hl | (cases y <;> first | exact nc hns | exact nc hv | exact Bool.noConfusion (show false = true from chkP_sh (show chkP (tx X fns gls) _ _ _ = true from hv))) | skip
    rename_i e gs scope q
    unfold asgC at hs
    rw [Bool.or_eq_true] at hs
    rcases hs with hs | hs
    · exact st_asg c.nd hi hx hf (sE y c _ hv).pe (sw_cell hs)
    rw [Bool.and_eq_true, Bool.and_eq_true] at hs
    have hy := lcl_of hs.1.1
    have hsw : ∀ (elt : Expr) (gs : List Comprehension), swapsWith (.ListComp elt gs scope q) (some (.Name x px)) pos.line X.env = pure true := fun elt gs => sw_true hk hy hs.1.2 (by simpa using hs.2)
    cases y <;> first | exact nc hns | exact nc hv | exact Bool.noConfusion (show false = true from chkP_sh (show chkP (tx X fns gls) _ _ _ = true from hv)) | clear hns
    · rename_i own tg it cx elt
      cases gs with
      | nil => exact nc hv
      | cons g gs =>
      obtain ⟨t, it', ifs, as⟩ := g
      cases gs with
      | cons _ _ => exact nc hv
      | nil =>
      have h' : ((((((decide (as = 0) && blkC X.N X.env.scope scope (ownS own)) && (chkI (tx X fns gls) t it it' || chkL (tx X fns gls) it it')) && chkG ((tx X fns gls).blk scope) tg t) && subB tg.slots (own.map (·.2))) && chkE ((tx X fns gls).blk scope) elt e) && chkIf (chkE ((tx X fns gls).blk scope) cx) (chkN cx) ifs) = true := hv
      rw [Bool.and_eq_true, Bool.and_eq_true, Bool.and_eq_true, Bool.and_eq_true, Bool.and_eq_true, Bool.and_eq_true] at h'
      obtain ⟨⟨⟨⟨⟨⟨k0, k1⟩, k2⟩, k3⟩, k4⟩, k5⟩, k6⟩ := h'
      obtain rfl : as = 0 := of_decide_eq_true k0
      have hI : PI X t it' (rdIs X.K E (evI F it)) := by
        cases hk : chkI (tx X fns gls) t it it' with
        | true => exact pi_weak (sI it c t it' hk)
        | false =>
          rw [hk, Bool.false_or] at k2
          obtain ⟨y, ey, hy⟩ := sL it c it' k2
          subst ey
          exact i_look hy
      have eo : (ownS own).map (·.2) = own.map (·.2) := by simp [ownS]
      have key : PS X (.Assign [.Name x px] (.ListComp e [⟨t, it', ifs, 0⟩] scope q) pos) (tAsg (tLc (rdIs X.K E (evI F it)) (rdG X.K tg) (rdT X.K (kE noE) fun sl S => (evE F cx sl S).truth) (rdE X.K (kE noE) (evE F elt)) ((ownS own).map (·.2))) (gName i)) :=
        ps_setLc c.calm c.nd hi hy (hsw _ _) hI (blkOk_by k1) (fun s H C cl fp => sG (X := X.blk s H scope (compEnvC scope cl C X.env) fp) (fns := fns) (gls := gls) c.calm c.nd tg t k3)
          (fun s H C cl fp => ifs_of k6 fun x hx => (sE cx (X := X.blk s H scope (compEnvC scope cl C X.env) fp) (c.blk s H scope _ fp) x hx).pt)
          (fun s H C cl fp => (sE elt (X := X.blk s H scope (compEnvC scope cl C X.env) fp) (c.blk s H scope _ fp) e k5).pe) (chkIL_set k2)
      rw [eo] at key
      refine PS.imp key fun D σ H h => ?_
      refine lc_read (subB_of k4) ?_
      have h1 := asg_read h
      obtain ⟨g0, g1, sl, e1, ok, so, hq⟩ := h1
      unfold evE at hq
      exact ⟨g0, g1, sl, e1, ok, so, hq⟩
    · rename_i own tg it cx vs1 tg1 it1 cx1 elt
      cases gs with
      | nil => exact nc hv
      | cons g gs =>
      obtain ⟨t, it', ifs, as⟩ := g
      cases gs with
      | nil => exact nc hv
      | cons g1 gs =>
      obtain ⟨t1, i1, ifs1, as1⟩ := g1
      cases gs with
      | cons _ _ => exact nc hv
      | nil =>
      have h' : ((((((((((((decide (as = 0) && decide (as1 = 0)) && blkC X.N X.env.scope scope (ownS own)) && chkI (tx X fns gls) t it it') && chkG ((tx X fns gls).blk scope) tg t) && subB tg.slots (own.map (·.2))) && chkIf (chkE ((tx X fns gls).blk scope) cx) (chkN cx) ifs) &&
        subB vs1 (own.map (·.2))) && chkI ((tx X fns gls).blk scope) t1 it1 i1) && chkG ((tx X fns gls).blk scope) tg1 t1) && subB tg1.slots vs1) && chkIf (chkE ((tx X fns gls).blk scope) cx1) (chkN cx1) ifs1) && chkE ((tx X fns gls).blk scope) elt e) = true := hv
      rw [Bool.and_eq_true, Bool.and_eq_true, Bool.and_eq_true, Bool.and_eq_true, Bool.and_eq_true, Bool.and_eq_true, Bool.and_eq_true, Bool.and_eq_true, Bool.and_eq_true, Bool.and_eq_true, Bool.and_eq_true, Bool.and_eq_true] at h'
      obtain ⟨⟨⟨⟨⟨⟨⟨⟨⟨⟨⟨⟨k0, k01⟩, k1⟩, k2⟩, k3⟩, k4⟩, k6⟩, j1⟩, j2⟩, j3⟩, j4⟩, j5⟩, k5⟩ := h'
      obtain rfl : as = 0 := of_decide_eq_true k0
      obtain rfl : as1 = 0 := of_decide_eq_true k01
      have eo : (ownS own).map (·.2) = own.map (·.2) := by simp [ownS]
      have key : PS X (.Assign [.Name x px] (.ListComp e [⟨t, it', ifs, 0⟩, ⟨t1, i1, ifs1, 0⟩] scope q) pos) (tAsg (tLc2 (rdI X.K E (evI F it)) (rdG X.K tg) (rdT X.K (kE noE) fun sl S => (evE F cx sl S).truth) (rdI X.K (kE noE) (evI F it1)) (rdG X.K tg1) (rdT X.K (kE noE) fun sl S => (evE F cx1 sl S).truth) (rdE X.K (kE noE) (evE F elt)) ((ownS own).map (·.2)) vs1) (gName i)) :=
        ps_setLc2 c.calm c.nd hi hy (hsw _ _) (sI it c t it' k2) (blkOk_by k1) (by rw [eo]; exact subB_of j1) (fun s H C cl fp => sG (X := X.blk s H scope (compEnvC scope cl C X.env) fp) (fns := fns) (gls := gls) c.calm c.nd tg t k3)
          (fun s H C cl fp => ifs_of k6 fun x hx => (sE cx (X := X.blk s H scope (compEnvC scope cl C X.env) fp) (c.blk s H scope _ fp) x hx).pt)
          (fun s H C cl fp => sI it1 (X := X.blk s H scope (compEnvC scope cl C X.env) fp) (c.blk s H scope _ fp) t1 i1 j2)
          (fun s H C cl fp => sG (X := X.blk s H scope (compEnvC scope cl C X.env) fp) (fns := fns) (gls := gls) c.calm c.nd tg1 t1 j3)
          (fun s H C cl fp => ifs_of j5 fun x hx => (sE cx1 (X := X.blk s H scope (compEnvC scope cl C X.env) fp) (c.blk s H scope _ fp) x hx).pt)
          (fun s H C cl fp => (sE elt (X := X.blk s H scope (compEnvC scope cl C X.env) fp) (c.blk s H scope _ fp) e k5).pe) (chkI_set k2) (fun env x => chkI_set (env := env) j2 x)
      rw [eo] at key
      refine PS.imp key fun D σ H h => ?_
      refine lc2_read (subB_of k4) (subB_of j4) ?_
      have h1 := asg_read h
      obtain ⟨g0, g1, sl, e1, ok, so, hq⟩ := h1
      unfold evE at hq
      exact ⟨g0, g1, sl, e1, ok, so, hq⟩
end
section
variable {F : Cf} {fns gls : List String} {n : Nat} {E : XK}
mutual
theorem sS : ∀ (y : Sx) {X : Cx} (c : Ctx X F fns gls n (kE E)) (hk : X.env.scope.kind = .function) (hp : PassesOwn (model X.prog X.w) X.A X.env X.xe) (hx : DefX X E) (s : Stmt), chkS (tx X fns gls) y s = true → PS X s (rS X (kE E) F y)
  | .asg (.nm i) e, X, c, hk, hp, hx, s, h => by
    cases s <;> first | exact nc h | skip
    rename_i ts v p
    cases ts with
    | nil => exact nc h
    | cons t ts =>
    cases ts with
    | cons _ _ => cases t <;> exact nc h
    | nil =>
    cases t <;> first | exact nc h | skip
    rename_i x px
    have h' : (((((atB X.N i x && locB X.env.scope x) && (X.fn x || lclB X.env.scope x)) && chkE (tx X fns gls) e v) && asgC X.env.scope x px v) && (notLc v || notShr e)) = true := h
    rw [Bool.and_eq_true] at h'
    have hns := h'.2
    have h' := h'.1
    rw [Bool.and_eq_true, Bool.and_eq_true, Bool.and_eq_true, Bool.and_eq_true, Bool.or_eq_true] at h'
    exact st_asgC c hk (at_of h'.1.1.1.1) (loc_of h'.1.1.1.2) (h'.1.1.2.imp id lcl_of) h'.1.2 h'.2 hns
  | .asg (.tup ts') e, X, c, hk, hp, hx, s, h => by
    cases s <;> first | exact nc h | skip
    rename_i ts v p
    cases ts with
    | nil => exact nc h
    | cons t ts =>
    cases ts with
    | cons _ _ => cases t <;> exact nc h
    | nil =>
    cases t <;> first | exact nc h | skip
    rename_i es k q
    have h' : ((chkG (tx X fns gls) (.tup ts') (.Tuple es k q) && chkE (tx X fns gls) e v) && (tupC es v || parC X.env.scope es v || celC X.env.scope es)) = true := h
    rw [Bool.and_eq_true, Bool.and_eq_true, Bool.or_eq_true, Bool.or_eq_true] at h'
    rcases h'.2 with (h2 | h2) | h2
    rotate_left 2
    · exact st_tup c.calm c.nd h'.1.1 (sE e c v h'.1.2).pe sole_tup (cel_stores h2)
    · exact st_tup c.calm c.nd h'.1.1 (sE e c v h'.1.2).pe sole_tup (tup_stores h2)
    · exact st_par c hk h'.1.1 h'.1.2 h2
  | .asgL ts' e, X, c, hk, hp, hx, s, h => by
    cases s <;> first | exact nc h | skip
    rename_i ts v p
    cases ts with
    | nil => exact nc h
    | cons t ts =>
    cases ts with
    | cons _ _ => cases t <;> exact nc h
    | nil =>
    cases t <;> first | exact nc h | skip
    rename_i es k q
    have h' : ((chkGs (tx X fns gls) ts' es && chkE (tx X fns gls) e v) && notTup v) = true := h
    rw [Bool.and_eq_true, Bool.and_eq_true] at h'
    exact st_unl c.calm c.nd h'.1.1 (sE e c v h'.1.2).pe sole_tup (stores_plain h'.2)
  | .aug i o e, X, c, hk, hp, hx, s, h => by
    cases s <;> first | exact nc h | skip
    rename_i t op v p
    cases t <;> first | exact nc h | skip
    rename_i x px
    have h' : (((((atB X.N i x && locB X.env.scope x) && (X.fn x || lclB X.env.scope x)) && chkE (tx X fns gls) e v) && decide (o.op = op)) && (o == .add || o == .sub)) = true := h
    rw [Bool.and_eq_true, Bool.and_eq_true, Bool.and_eq_true, Bool.and_eq_true, Bool.and_eq_true, Bool.or_eq_true, Bool.or_eq_true] at h'
    have e1 := of_decide_eq_true h'.1.2
    subst e1
    rcases h'.2 with ho | ho
    · obtain rfl : o = .add := by simpa using ho
      exact st_aug (f := fun a b => a + b) c.nd (at_of h'.1.1.1.1.1) (loc_of h'.1.1.1.1.2) (h'.1.1.1.2.imp id lcl_of) (sE e c v h'.1.1.2).pe ip_add fun _ _ => rfl
    · obtain rfl : o = .sub := by simpa using ho
      exact st_aug (f := fun a b => a - b) c.nd (at_of h'.1.1.1.1.1) (loc_of h'.1.1.1.1.2) (h'.1.1.1.2.imp id lcl_of) (sE e c v h'.1.1.2).pe ip_sub fun _ _ => rfl
  | .setix i k e, X, c, hk, hp, hx, s, h => by
    cases s <;> first | exact nc h | skip
    rename_i ts v p
    cases ts with
    | nil => exact nc h
    | cons t ts =>
    cases ts with
    | cons _ _ => (cases t <;> first | exact nc h | (rename_i b _ _; cases b <;> exact nc h))
    | nil =>
    cases t <;> first | exact nc h | skip
    rename_i b z q
    cases b <;> first | exact nc h | skip
    rename_i x px
    have h' : ((((atB X.N i x && visB X.env.scope x) && !dbgB x) && chkE (tx X fns gls) k z) && chkE (tx X fns gls) e v) = true := h
    rw [Bool.and_eq_true, Bool.and_eq_true, Bool.and_eq_true, Bool.and_eq_true] at h'
    obtain ⟨d1, d2, _⟩ := dbg_of h'.1.1.2
    exact st_setix (fun l u s p e => by subst e; exact (chkE_slice h'.1.2).elim) (at_of h'.1.1.1.1) (vis_of h'.1.1.1.2) d1 d2 (sE k c z h'.1.2).pe (sE e c v h'.2).pe sole_sub stores_sub
  | .app i e, X, c, hk, hp, hx, s, h => by
    cases s <;> first | exact nc h | skip
    rename_i v p
    cases v <;> first | exact nc h | skip
    rename_i fx xs ks cp
    cases fx <;> first | exact nc h | skip
    rename_i o m ap
    cases o <;> first | exact nc h | skip
    rename_i x px
    cases xs with
    | nil => exact nc h
    | cons y xs =>
    cases xs with
    | cons _ _ => exact nc h
    | nil =>
    cases ks <;> first | exact nc h | skip
    have h' : (((((decide (m = sO "append") && atB X.N i x) && visB X.env.scope x) && !dbgB x) && (ap.endLine == cp.line)) && chkE (tx X fns gls) e y) = true := h
    rw [Bool.and_eq_true, Bool.and_eq_true, Bool.and_eq_true, Bool.and_eq_true, Bool.and_eq_true] at h'
    obtain ⟨d1, d2, _⟩ := dbg_of h'.1.1.2
    exact st_app (of_decide_eq_true h'.1.1.1.1.1) (at_of h'.1.1.1.1.2) (vis_of h'.1.1.1.2) d1 d2 (chkE_star h'.2) h'.1.2 (sE e c y h'.2).pe
  | .ext i e, X, c, hk, hp, hx, s, h => by
    cases s <;> first | exact nc h | skip
    rename_i v p
    cases v <;> first | exact nc h | skip
    rename_i fx xs ks cp
    cases fx <;> first | exact nc h | skip
    rename_i o m ap
    cases o <;> first | exact nc h | skip
    rename_i x px
    cases xs with
    | nil => exact nc h
    | cons y xs =>
    cases xs with
    | cons _ _ => exact nc h
    | nil =>
    cases ks <;> first | exact nc h | skip
    have h' : (((((decide (m = sO "extend") && atB X.N i x) && visB X.env.scope x) && !dbgB x) && (ap.endLine == cp.line)) && chkE (tx X fns gls) e y) = true := h
    rw [Bool.and_eq_true, Bool.and_eq_true, Bool.and_eq_true, Bool.and_eq_true, Bool.and_eq_true] at h'
    obtain ⟨d1, d2, _⟩ := dbg_of h'.1.1.2
    exact st_ext (of_decide_eq_true h'.1.1.1.1.1) (at_of h'.1.1.1.1.2) (vis_of h'.1.1.1.2) d1 d2 (chkE_star h'.2) h'.1.2 (sE e c y h'.2).pe
  | .setixr a k e, X, c, hk, hp, hx, s, h => by
    cases s <;> first | exact nc h | skip
    rename_i ts v p
    cases ts with
    | nil => exact nc h
    | cons t ts =>
    cases ts with
    | cons _ _ => (cases t <;> exact nc h)
    | nil =>
    cases t <;> first | exact nc h | skip
    rename_i b z q
    have h' : ((chkE (tx X fns gls) a b && chkE (tx X fns gls) k z) && chkE (tx X fns gls) e v) = true := h
    rw [Bool.and_eq_true, Bool.and_eq_true] at h'
    exact st_setixr (fun l u s p e => by subst e; exact (chkE_slice h'.1.2).elim) (sE a c b h'.1.1).pe (sE k c z h'.1.2).pe (sE e c v h'.2).pe sole_sub stores_sub
  | .dput d k e, X, c, hk, hp, hx, s, h => by
    cases s <;> first | exact nc h | skip
    rename_i ts v p
    cases ts with
    | nil => exact nc h
    | cons t ts =>
    cases ts with
    | cons _ _ => (cases t <;> exact nc h)
    | nil =>
    cases t <;> first | exact nc h | skip
    rename_i b z q
    have h' : ((chkE (tx X fns gls) d b && chkE (tx X fns gls) k z) && chkE (tx X fns gls) e v) = true := h
    rw [Bool.and_eq_true, Bool.and_eq_true] at h'
    have hu : X.A.units + 1 < cLine := by have := c.un; omega
    exact st_dput hu (fun l u s p e => by subst e; exact (chkE_slice h'.1.2).elim) (sE d c b h'.1.1).pe (sE k c z h'.1.2).pe (sE e c v h'.2).pe
  | .augix i k o e, X, c, hk, hp, hx, s, h => by
    cases s <;> first | exact nc h | skip
    rename_i t op v p
    cases t <;> first | exact nc h | skip
    rename_i t z q
    cases t <;> first | exact nc h | skip
    rename_i x px
    have h' : ((((((atB X.N i x && visB X.env.scope x) && !dbgB x) && chkE (tx X fns gls) k z) && chkE (tx X fns gls) e v) && decide (o.op = op)) && (o == .add || o == .sub)) = true := h
    rw [Bool.and_eq_true, Bool.and_eq_true, Bool.and_eq_true, Bool.and_eq_true, Bool.and_eq_true, Bool.and_eq_true] at h'
    obtain ⟨d1, d2, _⟩ := dbg_of h'.1.1.1.1.2
    have e1 := of_decide_eq_true h'.1.2
    subst e1
    have hz : ∀ l u s p, z ≠ .Slice l u s p := fun l u s p e => by subst e; exact (chkE_slice h'.1.1.1.2).elim
    cases o <;> first | exact absurd h'.2 (by decide) | skip
    · exact st_augix hz (at_of h'.1.1.1.1.1.1) (vis_of h'.1.1.1.1.1.2) d1 d2 (sE k c z h'.1.1.1.2).pe (sE e c v h'.1.1.2).pe ip_add fun _ _ => rfl
    · exact st_augix hz (at_of h'.1.1.1.1.1.1) (vis_of h'.1.1.1.1.1.2) d1 d2 (sE k c z h'.1.1.1.2).pe (sE e c v h'.1.1.2).pe ip_sub fun _ _ => rfl
  | .rem i e, X, c, hk, hp, hx, s, h => by
    cases s <;> first | exact nc h | skip
    rename_i v p
    cases v <;> first | exact nc h | skip
    rename_i fx xs ks cp
    cases fx <;> first | exact nc h | skip
    rename_i o m ap
    cases o <;> first | exact nc h | skip
    rename_i x px
    cases xs with
    | nil => exact nc h
    | cons y xs =>
    cases xs with
    | cons _ _ => exact nc h
    | nil =>
    cases ks <;> first | exact nc h | skip
    have h' : (((((decide (m = sO "remove") && atB X.N i x) && visB X.env.scope x) && !dbgB x) && (ap.endLine == cp.line)) && chkE (tx X fns gls) e y) = true := h
    rw [Bool.and_eq_true, Bool.and_eq_true, Bool.and_eq_true, Bool.and_eq_true, Bool.and_eq_true] at h'
    obtain ⟨d1, d2, _⟩ := dbg_of h'.1.1.2
    exact st_rem (of_decide_eq_true h'.1.1.1.1.1) (at_of h'.1.1.1.1.2) (vis_of h'.1.1.1.2) d1 d2 (chkE_star h'.2) h'.1.2 (sE e c y h'.2).pe
  | .ins0 i e, X, c, hk, hp, hx, s, h => by
    cases s <;> first | exact nc h | skip
    rename_i v p
    cases v <;> first | exact nc h | skip
    rename_i fx xs ks cp
    cases fx <;> first | exact nc h | skip
    rename_i o m ap
    cases o <;> first | exact nc h | skip
    rename_i x px
    cases xs with
    | nil => exact nc h
    | cons w xs =>
    cases w <;> first | exact nc h | skip
    rename_i cst kc pc
    cases cst <;> first | exact nc h | skip
    rename_i k
    cases xs with
    | nil => exact nc h
    | cons y xs =>
    cases xs with
    | cons _ _ => exact nc h
    | nil =>
    cases ks <;> first | exact nc h | skip
    have h' : ((((((decide (m = sO "insert") && decide (k = 0)) && atB X.N i x) && visB X.env.scope x) && !dbgB x) && (ap.endLine == cp.line)) && chkE (tx X fns gls) e y) = true := h
    rw [Bool.and_eq_true, Bool.and_eq_true, Bool.and_eq_true, Bool.and_eq_true, Bool.and_eq_true, Bool.and_eq_true] at h'
    obtain ⟨d1, d2, _⟩ := dbg_of h'.1.1.2
    obtain rfl := of_decide_eq_true h'.1.1.1.1.1.2
    exact st_ins (of_decide_eq_true h'.1.1.1.1.1.1) (at_of h'.1.1.1.1.2) (vis_of h'.1.1.1.2) d1 d2 (chkE_star h'.2) h'.1.2 (sE e c y h'.2).pe
  | .expr e, X, c, hk, hp, hx, s, h => by
    cases s <;> first | exact nc h | skip
    rename_i v p
    have h' : (chkE (tx X fns gls) e v && notLc v) = true := h
    rw [Bool.and_eq_true] at h'
    exact st_expr (sE e c v h'.1).pe (swaps_plain h'.2)
  | .ret e, X, c, hk, hp, hx, s, h => by
    cases s <;> first | exact nc h | skip
    rename_i v p
    cases v with
    | none => exact nc h
    | some v => exact st_ret (sE e c v h).pe
  | .retv i, X, c, hk, hp, hx, s, h => by
    cases s <;> first | exact nc h | skip
    rename_i v p
    cases v with
    | none => exact nc h
    | some v =>
      cases v <;> first | exact nc h | skip
      rename_i x px
      have h' : ((atB X.N i x && visB X.env.scope x) && !dbgB x) = true := h
      rw [Bool.and_eq_true, Bool.and_eq_true] at h'
      obtain ⟨d1, d2, _⟩ := dbg_of h'.2
      exact st_retv (at_of h'.1.1) (vis_of h'.1.2) d1 d2
  | .retN, X, c, hk, hp, hx, s, h => by
    cases s <;> first | exact nc h | skip
    rename_i v p
    cases v with
    | none => exact st_retN
    | some v => exact nc h
  | .ife d a b, X, c, hk, hp, hx, s, h => by
    cases s <;> first | exact nc h | skip
    rename_i t x y p
    have h' : ((chkE (tx X fns gls) d t && chkB (tx X fns gls) a x) && chkB (tx X fns gls) b y) = true := h
    rw [Bool.and_eq_true, Bool.and_eq_true] at h'
    exact st_ife (sE d c t h'.1.1).pt (sB a c hk hp hx x h'.1.2) (sB b c hk hp hx y h'.2)
  | .whl d b, X, c, hk, hp, hx, s, h => by
    cases s <;> first | exact nc h | skip
    rename_i t x y p
    cases y <;> first | exact nc h | skip
    have h' : (chkE (tx X fns gls) d t && chkB (tx X fns gls) b x) = true := h
    rw [Bool.and_eq_true] at h'
    exact st_whl hp (sE d c t h'.1).pt (sB b c hk hp hx x h'.2)
  | .loop t it b, X, c, hk, hp, hx, s, h => by
    cases s <;> first | exact nc h | skip
    rename_i tg i x y p
    cases y <;> first | exact nc h | skip
    have h' : ((chkG (tx X fns gls) t tg && chkI (tx X fns gls) tg it i) && chkB (tx X fns gls) b x) = true := h
    rw [Bool.and_eq_true, Bool.and_eq_true] at h'
    exact st_loop hp c.calm (sI it c tg i h'.1.2) (sG c.calm c.nd t tg h'.1.1) (sB b c hk hp hx x h'.2) (chkI_set h'.1.2)
  | .brk, X, c, hk, hp, hx, s, h => by cases s <;> first | exact nc h | exact st_brk
  | .cont, X, c, hk, hp, hx, s, h => by cases s <;> first | exact nc h | exact st_cont
  | .pass, X, c, hk, hp, hx, s, h => by cases s <;> first | exact nc h | exact st_pass
  | .bad, X, c, hk, hp, hx, s, h => st_bad
  | .frz _, X, c, hk, hp, hx, s, h => by cases s <;> exact nc h
  | .raise cl fs es, X, c, hk, hp, hx, s, h => by
    cases s <;> first | exact nc h | skip
    rename_i e cause p
    cases e with
    | none => exact nc h
    | some e =>
    cases e <;> first | exact nc h | skip
    rename_i fx xs ks q
    cases fx <;> first | exact nc h | skip
    rename_i x px
    cases ks <;> first | exact nc h | skip
    cases cause <;> first | exact nc h | skip
    have h' : ((((((gBlt (tx X fns gls) x cl && !dbgB x) && fns.contains cl) && (clsN cl && decide (cl ≠ "StintError"))) && decide (fs = fieldsOf cl)) && chkA (tx X fns gls) es xs) && decide (xs.length = fs.length)) = true := h
    rw [Bool.and_eq_true, Bool.and_eq_true, Bool.and_eq_true, Bool.and_eq_true, Bool.and_eq_true, Bool.and_eq_true] at h'
    obtain ⟨⟨⟨⟨⟨⟨h1, h2⟩, h3⟩, h4⟩, h5⟩, h6⟩, h7⟩ := h'
    obtain ⟨e1, e2⟩ := gBlt_of h1
    rw [Bool.and_eq_true] at h4
    exact st_raise c hx e1 e2 (dbg_of h2).1 (by simpa using h3) h4.1 (of_decide_eq_true h4.2) (of_decide_eq_true h5) h6 (of_decide_eq_true h7)
  | .tryx b hs, X, c, hk, hp, hx, s, h => by
    cases s <;> first | exact nc h | skip
    rename_i body hds orelse fin p
    cases orelse <;> first | exact nc h | skip
    cases fin <;> first | exact nc h | skip
    have h' : ((chkFB (tx X fns gls) b body && chkHds (tx X fns gls) hs hds) && decide (hds ≠ [])) = true := h
    rw [Bool.and_eq_true, Bool.and_eq_true] at h'
    exact st_try c hx h'.1.1 h'.1.2 (of_decide_eq_true h'.2)
  | .shr _, X, c, hk, hp, hx, s, h => by cases s <;> exact nc h
theorem sB : ∀ (ys : Sxs) {X : Cx} (c : Ctx X F fns gls n (kE E)) (hk : X.env.scope.kind = .function) (hp : PassesOwn (model X.prog X.w) X.A X.env X.xe) (hx : DefX X E) (ss : List Stmt), chkB (tx X fns gls) ys ss = true → PSs X ss (rB X (kE E) F ys)
  | .nil, X, c, hk, hp, hx, [], _ => b_nil
  | .nil, X, c, hk, hp, hx, _ :: _, h => nc h
  | .cons y ys, X, c, hk, hp, hx, ss, h => by
    cases y <;> first
      | exact b_frz (sB ys c hk hp hx ss h)
      | exact b_shr (sB ys c hk hp hx ss h)
      | skip
    all_goals
      cases ss with
      | nil => exact nc h
      | cons s ss =>
        have h' : (chkS (tx X fns gls) _ s && chkB (tx X fns gls) ys ss) = true := h
        rw [Bool.and_eq_true] at h'
        exact b_cons (sS _ c hk hp hx s h'.1) (sB ys c hk hp hx ss h'.2)
end
end
end Px
set_option Elab.async false
set_option linter.all false
set_option maxRecDepth 100000
set_option maxHeartbeats 1000000
namespace Px
open PySem PySem.Spec PyProof.Rows L2
theorem startS_ok {K : PySem.W.Frag} {g : Gh} {d : Fn} {ds : List D} {vs : List V} (h : g.Reps K ds vs) (hl : ds.length = d.ar) {N : List Str} (hN : N.length = d.names.length) : SlOk K g g (L2.start N vs) (startS d ds) := by
  have e1 := h.length
  refine ⟨by unfold L2.start startS; rw [List.length_append, List.length_append, List.length_map, List.length_map, List.length_replicate, List.length_replicate]; omega, fun i s e => ?_, fun i j c c' a e1 => ?_⟩
  · unfold startS at e
    unfold L2.start
    by_cases hi : i < ds.length
    · rw [List.getElem?_append_left (by simpa using hi), List.getElem?_map] at e
      cases q : ds[i]? with
      | none => rw [q] at e; cases e
      | some x =>
        rw [q] at e; cases e
        obtain ⟨v, q2, r⟩ := h.get q
        refine ⟨some v, ?_, v, rfl, r⟩
        rw [List.getElem?_append_left (by simp; omega), List.getElem?_map, q2]; rfl
    · rw [List.getElem?_append_right (by simpa using hi), List.getElem?_replicate, List.length_map] at e
      split at e
      · cases e
        refine ⟨none, ?_, trivial⟩
        rw [List.getElem?_append_right (by simp; omega), List.getElem?_replicate, List.length_map, if_pos (by omega)]
      · cases e
  · exfalso
    unfold startS at e1
    by_cases hi : i < ds.length
    · rw [List.getElem?_append_left (by simpa using hi), List.getElem?_map] at e1
      cases q : ds[i]? with
      | none => rw [q] at e1; cases e1
      | some x => rw [q] at e1; cases e1
    · rw [List.getElem?_append_right (by simpa using hi), List.getElem?_replicate] at e1
      split at e1 <;> cases e1
theorem out_ends {K : PySem.W.Frag} {E : XK} {g : Gh} {Q : VK} {r : Res (Fl × Slots)} (h : Post K E (RvR K) g (outOf r) Q) : PostS K E g g r { nx := fun _ H' => Q .non H', rt := Q } := by
  cases r with
  | ok p S =>
    intro g' σ' e ok st gr so
    obtain ⟨fl, sl⟩ := p
    cases fl with
    | nx => exact h g' .non e ok st .non
    | bk => exact h.elim
    | ct => exact h.elim
    | rt r => exact fun v r' => h g' v e ok st r'
  | exc x S => exact h
  | stuck => exact h
section
variable {P : Program} {w : World} {K : PySem.W.Frag} {mg : Str → Option Value} {base : Heap} {F : Cf} {fns gls : List String} {n : Nat}
theorem fnP_of {f : Addr} {name qual : Str} {params : Arguments} {body : List Stmt} {scope : Scope} {dV kV doc pm cdv ct oc : Value} {an od : Option Addr} {osl : Array (Option Value)} {N ps : List Str} {d : Fn}
    (lk : K.lookup f = some ⟨oc, od, .func (PySem.W.fnOf name qual params body scope dV kV doc pm an cdv ct), osl⟩) (hcd : PySem.W.codeIn K cdv qual = true) (S : FnScope N ps scope)
    (hN : N.length = d.names.length) (har : ps.length = d.ar) (hk : chkB ⟨scope, N, fns, gls, fun _ => true⟩ d.body body = true)
    (sys : ∃ m, base.Ns sysModules m) (bl : ∀ b ∈ blts, mg (sO b) = none) (fn : ∀ f ∈ fns, clsN f = false → FnAt P w K mg base n f (F.call f)) (xc : ∀ c ∈ fns, clsN c = true → ClsAt K mg c) (gl : ∀ x ∈ gls, ∃ u v, mg (sO x) = some u ∧ RelV v u ∧ ∀ d, F.glob x = some d → GRep K w d v) :
    FnP P w K mg base (n + 1) f (PySem.W.fnOf name qual params body scope dV kV doc pm an cdv ct) ps fun ds S => if ds.length = d.ar then outOf (exB F d.body (startS d ds) S) else .stuck := by
  refine ⟨fun ds S h => ?_, fun A outer s g args us vs ds Q E hr hgd e0 hb r gok rp hpost => ?_⟩
  · by_cases c : ds.length = d.ar
    · rw [c, har]
    · exact absurd (if_neg c) h
  · have hds : ds.length = d.ar := by
      by_cases c : ds.length = d.ar
      · exact c
      · rw [if_neg c] at hpost; exact hpost.elim
    rw [if_pos hds] at hpost
    have hl : vs.length = ps.length := by rw [← rp.length, hds, har]
    have KX : K.In s.heap := e0.mod.kin.keeps fun b o e => (e0.bs b o e).1
    have lim : s.heap.NoLimit := e0.mod.nolimit.keeps fun b o e => (e0.bs b o e).1
    have hkind : ∀ y ∈ ps.zip us, scope.names.lookup y.1 = some .local ∨ (scope.names.lookup y.1 = some .cell ∧ ((cellsFrom (s.heap.objs.size + 1) scope.names []).lookup y.1).isSome = true) := fun ⟨n, v⟩ hy => by
      rcases S.par n (List.of_mem_zip hy).1 with q | q
      · exact .inl q
      · exact .inr ⟨q, PySem.W.cellsFrom_some _ _ _ (.inl q)⟩
    refine codeAny_call_function hr.depth (KX _ _ lk) rfl S.co S.gen rfl (PySem.W.codeRec_of KX hcd) (hb _ _ _ _ ?_)
    refine wpAny_newFunctionEnv_cells S.kind hkind fun env he s1 x => ?_
    subst he
    refine ⟨lim.keeps x.toInCall.keep, codeAny_func ?_⟩
    have I : Inv (cxOf (L2.CX P w) P w K mg base N qual scope f cdv A outer s g.H E) [] (L2.start N vs) g.H s1 := inv_start S hr.hd e0 hl r x
    have tk : Takes (cxOf (L2.CX P w) P w K mg base N qual scope f cdv A outer s g.H E) fun cls d _ H => E cls d H := takes_of (E := E) rfl rfl rfl rfl
    have cx : Ctx (cxOf (L2.CX P w) P w K mg base N qual scope f cdv A outer s g.H E) F fns gls n (kE E) := ⟨fun σ => passAt tk σ, rfl, S.nd, hr.deeper _, hgd, sys, bl, fn, xc, gl⟩
    have hB := sB (E := E) d.body cx S.kind (passes_of rfl) ⟨tk, rfl, rfl⟩ body hk
    have hq : rB (cxOf (L2.CX P w) P w K mg base N qual scope f cdv A outer s g.H E) (kE E) F d.body { nx := fun _ H' => Q .non H', rt := Q } (L2.start N vs) g.H :=
      ⟨g, g, startS d ds, rfl, gok, startS_ok rp hds hN, Stp.refl g, out_ends hpost⟩
    refine wpAny_mono (hB.run [] s1 (L2.start N vs) g.H _ I hq) (fun fl s' hs => ?_) fun e s' hs => hs
    have fin : ∀ {σ' : L2.St} {H' : Hp} {v : V} {u : Value}, Inv (cxOf (L2.CX P w) P w K mg base N qual scope f cdv A outer s g.H E) [] σ' H' s' → RelV v u → Q v H' → CE outer P w g.H s Q u s' :=
      fun {σ' H' v u} J rv q => ⟨v, H', J.os, J.bare, J.base, J.hok, rv, q⟩
    cases fl with
    | ret u =>
      obtain ⟨v, σ', H', J, rv, q⟩ := hs
      exact fin J rv q
    | next =>
      obtain ⟨σ', H', J, q⟩ := hs
      exact fin (v := V.non) (u := Value.none) J rfl q
    | brk =>
      obtain ⟨_, _, _, q⟩ := hs
      exact False.elim q
    | cont =>
      obtain ⟨_, _, _, q⟩ := hs
      exact False.elim q
end
end Px
set_option Elab.async false
set_option linter.all false
set_option maxRecDepth 100000
set_option maxHeartbeats 1000000
namespace Px
open PySem PySem.Spec PyProof.Rows L2
/-- what the top has made of a def's text -/
def DefOk (K : PySem.W.Frag) (mg : Str → Option Value) (fns gls : List String) (f : String) (d : Fn) : Prop :=
  ∃ (a : Addr) (name qual : Str) (params : Arguments) (body : List Stmt) (scope : Scope) (kV doc pm cdv ct oc : Value) (an od : Option Addr) (osl : Array (Option Value)) (ps : List Str),
    mg (sO f) = some (.ref a) ∧ PySem.W.keepIn K (.ref a) = true ∧ Binds K (PySem.W.fnOf name qual params body scope .none kV doc pm an cdv ct) ps [] ∧
    K.lookup a = some ⟨oc, od, .func (PySem.W.fnOf name qual params body scope .none kV doc pm an cdv ct), osl⟩ ∧ PySem.W.codeIn K cdv qual = true ∧
    FnScope (d.names.map sO) ps scope ∧ ps.length = d.ar ∧ chkB ⟨scope, d.names.map sO, fns, gls, fun _ => true⟩ d.body body = true
theorem DefOk.of {K : PySem.W.Frag} {mg : Str → Option Value} {h : Heap} {fns gls : List String} {f : String} {d : Fn} (st : Stmt) (ps : List Str) {a : Addr} {kV doc pm cdv ct oc : Value} {an od : Option Addr} {osl : Array (Option Value)} {name qual : Str}
    (X : K.In h) (G : h.Ns mainGlobals mg) (h1 : PySem.W.nsIn K mainGlobals (sO f) = some (some (.ref a)))
    (h2 : K.lookup a = some ⟨oc, od, .func (PySem.W.fnOf name qual (defArgs st) (defBody st) (defScope st) .none kV doc pm an cdv ct), osl⟩) (h3 : PySem.W.codeIn K cdv qual = true) (h4 : PySem.W.keepIn K (.ref a) = true)
    (hb : ∀ us : List Value, us.length = ps.length → bindArgs (PySem.W.fnOf name qual (defArgs st) (defBody st) (defScope st) .none kV doc pm an cdv ct) ⟨us, []⟩ = pure (ps.zip us))
    (sc : FnScope (d.names.map sO) ps (defScope st)) (har : ps.length = d.ar) (hk : chkB ⟨defScope st, d.names.map sO, fns, gls, fun _ => true⟩ d.body (defBody st) = true) : DefOk K mg fns gls f d :=
  ⟨a, name, qual, _, _, _, kV, doc, pm, cdv, ct, oc, an, od, osl, ps, PySem.W.mg_of X G h1, h4, Binds.all hb, h2, h3, sc, har, hk⟩
section
variable {P : Program} {w : World} {K : PySem.W.Frag} {mg : Str → Option Value} {base : Heap} {T : String → Option Fn} {G : String → Option D} {wf : Nat} {fns gls : List String}
/-- every def of the table keeps its promise, as deep as one likes -/
theorem tower (sys : ∃ m, base.Ns sysModules m) (hT : ∀ f ∈ fns, clsN f = false → ∃ d, T f = some d ∧ DefOk K mg fns gls f d) (xc : ∀ c ∈ fns, clsN c = true → ClsAt K mg c) (bl : ∀ b ∈ blts, mg (sO b) = none) (gl : ∀ x ∈ gls, ∃ u v, mg (sO x) = some u ∧ RelV v u ∧ ∀ d, G x = some d → GRep K w d v) :
    ∀ (n : Nat), ∀ f ∈ fns, clsN f = false → FnAt P w K mg base n f (callN T G wf n f)
  | 0, f, hf, hc => by
    obtain ⟨d, _, a, name, qual, params, body, scope, kV, doc, pm, cdv, ct, oc, an, od, osl, ps, h1, h2, h3, _⟩ := hT f hf hc
    exact ⟨a, _, ps, h1, h2, h3, fun ds S h => absurd rfl h, fun _ _ _ _ _ _ _ _ _ _ _ _ _ _ _ _ _ h => h.elim⟩
  | n + 1, f, hf, hc => by
    obtain ⟨d, e, a, name, qual, params, body, scope, kV, doc, pm, cdv, ct, oc, an, od, osl, ps, h1, h2, h3, h4, h5, h6, h7, h8⟩ := hT f hf hc
    have key := fnP_of (P := P) (w := w) (base := base) (F := ⟨callN T G wf n, G, wf⟩) (n := n) (d := d) h4 h5 h6 (by rw [List.length_map]) h7 h8 sys bl (tower sys hT xc bl gl n) xc gl
    have e2 : callN T G wf (n + 1) f = fun ds S => if ds.length = d.ar then outOf (exB ⟨callN T G wf n, G, wf⟩ d.body (startS d ds) S) else .stuck := by
      funext ds S
      show (match T f with | some d => _ | none => _) = _
      rw [e]
    exact ⟨a, _, ps, h1, h2, h3, by rw [e2]; exact key⟩
end
theorem reps_ints {K : PySem.W.Frag} {sa : List Addr} {R : Hp} : ∀ ns : List Int, Reps K sa R (ns.map D.int) (ns.map V.int)
  | [] => .nil
  | _ :: r => .cons (.int _) (reps_ints r)
/-- from the caller of the law: what the plain law answers is what comes back -/
theorem px_call {P : Program} {w : World} {K : PySem.W.Frag} {mg mb : Str → Option Value} {n : Nat} {fa a : Addr} {s₁ : Shared} {vs : List Value} {ns : List Int} {φ : List D → Sto → Res Rv} (KX : K.In s₁.heap)
    (hmg : s₁.heap.Ns mainGlobals mg) (hmb : s₁.heap.Ns builtinsNs mb) (hboot : ∀ x : Str, x ≠ "__name__" → mb x = bootBuiltins x) (lim : s₁.heap.NoLimit) (nog : s₁.gens = #[])
    (ha : s₁.heap.get? a = some { cls := .type "list", data := .seq vs.toArray }) (hi : IntsAre vs ns) (hl : ns.length ≤ sizeLine) (hr : Room (n + 2) callerA)
    (hfa : mg (sO "law") = some (.ref fa)) (hsys : ∃ m, s₁.heap.Ns sysModules m) (F : ∀ base : Heap, (∃ m, base.Ns sysModules m) → FnAt P w K mg base n "law" φ) (hφ : ∃ S', φ [.scr (ns.map D.int)] [] = .ok (.val (.bl true)) S') :
    codeAny (model P w) callerA (.call (.ref fa) ⟨[.ref a], []⟩) (fun r s' => r = .ok (.ret (.bool true)) ∧ OldK s₁.heap s'.heap ∧ s'.os = s₁.os ∧ AllBare s'.gens) s₁ := by
  have rv := L2.vals_ints hi
  have hlen := hi.length
  obtain ⟨S', hS'⟩ := hφ
  have go : ∀ H : Hp, L2.Only H → SqL K H a (ns.map V.int) → HOk P w H s₁.heap → (∀ b, H b ≠ none → b = a) → (H a ≠ none → K.lookup a = none) →
      codeAny (model P w) callerA (.call (.ref fa) ⟨[.ref a], []⟩) (fun r s' => r = .ok (.ret (.bool true)) ∧ OldK s₁.heap s'.heap ∧ s'.os = s₁.os ∧ AllBare s'.gens) s₁ := by
    intro H only sq hok one free
    have old : ∀ {b : Addr} {o : Obj}, s₁.heap.get? b = some o → H b = none → (hidT s₁.heap H).get? b = some o := fun e z => hidT_get e z
    have nodict : ∀ {b : Addr} {o : Obj} {es : Array DictEntry} {ep : Nat}, s₁.heap.get? b = some o → o.data = .dict es ep → H b = none := by
      intro b o es ep e ed
      cases hb : H b with
      | none => rfl
      | some u =>
        obtain rfl : b = a := one b (by rw [hb]; simp)
        rw [ha] at e
        cases e
        cases (show Data.seq vs.toArray _ = Data.dict es ep from ed)
    have nss : ∀ {b : Addr} {m : Str → Option Value}, s₁.heap.Ns b m → (hidT s₁.heap H).Ns b m := by
      rintro b m ⟨o, es, ep, e, ed, r⟩
      exact ⟨o, es, ep, old e (nodict e ed), ed, r⟩
    have inb : K.In (hidT s₁.heap H) := by
      intro b o e
      refine old (KX b o e) ?_
      cases hb : H b with
      | none => rfl
      | some u =>
        obtain rfl : b = a := one b (by rw [hb]; simp)
        rw [free (by rw [hb]; simp)] at e
        cases e
    have hM : Mod K mg (hidT s₁.heap H) := ⟨inb, nss hmg, ⟨mb, nss hmb, hboot⟩, let ⟨mc, q1, q2⟩ := lim; ⟨mc, nss q1, q2⟩⟩
    have e0 : Env0 P w K mg (hidT s₁.heap H) callerA [] s₁ H :=
      ⟨rfl, hM, fun b o e => of_hidT e, Nat.le_of_eq (hidT_size _ _), trivial, fun b hb => absurd (show b ∈ ([] : List Addr) from hb) (by simp), hok, .of_eq nog⟩
    obtain ⟨fa', fd, ps, k1, k2, k3, k4⟩ := F _ (let ⟨m, q⟩ := hsys; ⟨m, nss q⟩)
    obtain rfl : fa' = fa := by
      rw [hfa] at k1
      cases k1
      rfl
    have one1 : 1 = ps.length := k4.len [.scr (ns.map D.int)] [] (by rw [hS']; exact fun z => nomatch z)
    have bd : BindsTo s₁ fd ⟨[Value.ref a], []⟩ (ps.zip [Value.ref a]) := k3 s₁ [.ref a] KX one1
    let g : Gh := ⟨H, H, [], []⟩
    have gok : Gok K g := ⟨fun _ _ e => e, rfl, List.nodup_nil, fun i b c e => by cases e⟩
    have gr : g.Reps K [.scr (ns.map D.int)] [.ref a] := .cons (.scr sq (by rw [List.length_map]; exact hl) (reps_ints ns)) .nil
    refine codeAny_mono (k4.run callerA [] s₁ g ⟨[.ref a], []⟩ [.ref a] [.ref a] _ (fun v _ => v = V.bl true) (fun _ _ _ => False) hr rfl e0 bd (.cons rfl .nil) gok gr ?_) fun r s' h => ?_
    · show Post K _ (RvR K) g (φ [.scr (ns.map D.int)] []) _
      rw [hS']
      intro g' v _ _ _ q
      cases (show Rep K g'.sa g'.R (.bl true) v from q)
      rfl
    · cases r with
      | error e => exact (let ⟨_, _, _, _, _, _, _, _, _, _, _, _, hE⟩ := h; (show False from hE).elim)
      | ok fl =>
        cases fl with
        | next => exact h.elim
        | brk => exact h.elim
        | cont => exact h.elim
        | ret u =>
          obtain ⟨v, H', os, bare, un, hok', ru, rfl⟩ := h
          obtain rfl : u = Value.bool true := ru
          refine ⟨rfl, OldK.of_keep fun b o e => ?_, os, bare⟩
          cases hb : H b with
          | none => exact un.keep b o e hb (by intro z; exact absurd (show b ∈ ([] : List Addr) from z) (by simp)) (by simp)
          | some u =>
            rcases only b with z | ⟨ob, xs, z⟩
            · rw [hb] at z
              cases z
            · obtain ⟨e1, _⟩ := hok b _ z
              obtain ⟨e2, _⟩ := hok' b _ (un.frzs b ob _ z)
              rw [e] at e1
              cases e1
              exact e2
  cases hk : K.lookup a with
  | some o =>
    have e := KX a o hk
    rw [ha] at e
    cases e
    refine go (fun _ => none) (fun _ => .inl rfl) (.inr ⟨_, vs.toArray, _, hk, rfl, rfl, rfl, by rw [List.size_toArray, hlen]; exact hl, by simpa using rv⟩) (fun b u z => nomatch (show (none : Option HO) = some u from z)) (fun b z => absurd rfl z) fun z => absurd rfl z
  | none =>
    let H1 : Hp := fun b => if b = a then some (.frz { cls := .type "list", data := .seq vs.toArray } (.lst (ns.map V.int))) else none
    have at_a : H1 a = some (.frz { cls := .type "list", data := .seq vs.toArray } (.lst (ns.map V.int))) := if_pos rfl
    have off : ∀ {b}, b ≠ a → H1 b = none := fun hb => if_neg hb
    refine go H1 (fun b => ?_) (.inl (.inr ⟨_, at_a⟩)) (fun b u z => ?_) (fun b z => ?_) fun _ => hk
    · by_cases hb : b = a
      · subst hb
        exact .inr ⟨_, _, at_a⟩
      · exact .inl (off hb)
    · by_cases hb : b = a
      · subst hb
        rw [at_a] at z
        cases z
        exact ⟨ha, by rw [List.length_map]; exact hl, vs, _, rv, ha⟩
      · rw [off hb] at z
        cases z
    · by_cases hb : b = a
      · exact hb
      · exact absurd (off hb) z
/-- a law, by its plain law -/
theorem walk_px {l : PySem.W.OpenLaw} {n k : Nat} {q : Program} {loose : List Str} {XP : (Str → Option Value) → Heap → Prop} {YP : World → Heap → Prop} {d : DefRec} {K : Params → PySem.W.Frag} {φ : List D → Sto → Res Rv}
    (hn : l.most = some n) (hn2 : n ≤ sizeLine) (hdf : d.params.defaults = []) (hd : d.name = sO "law") (hr : Room (k + 2) callerA) (hY : ∀ (w : World) (h : Heap), YP w h → (K w.params).In h)
    (hi : importsNone q = true) (F : ∀ (w : World) (mg : Str → Option Value) (h : Heap), (K w.params).In h → h.Ns mainGlobals mg → ∀ base : Heap, (∃ m, base.Ns sysModules m) → FnAt l.prog w (K w.params) mg base k "law" φ)
    (hφ : ∀ ns : List Int, ns.length ≤ n → (∀ z ∈ ns, Builtin.Int.intBits z ≤ 1048576) → ∃ S', φ [.scr (ns.map D.int)] [] = .ok (.val (.bl true)) S') :
    PySem.W.WalkO q loose XP YP l.row.toRowW d [] (fun f vs => PySem.call f vs) := by
  refine Att.attach_callB hn hdf fun w s₀ s₁ mg mb fa o pm cd doc a vs ns G Y ho _ hcd hmg hobj hints hlen hbits hg => ?_
  rw [hd] at hmg
  exact px_call (hY w _ Y) G.T.g G.T.b G.T.builtins G.T.nolimit hg hobj hints (Nat.le_trans hlen hn2) hr hmg (let ⟨m, z, _⟩ := (G.T.seer hi).mods; ⟨m, z⟩) (fun base sy => F w mg _ (hY w _ Y) G.T.g base sy) (hφ ns hlen hbits)
end Px
set_option Elab.async false
set_option linter.all false
set_option maxRecDepth 100000
set_option maxHeartbeats 1000000
namespace Px
open PySem PySem.Spec PyProof.Rows L2
theorem clsK_se {K : PySem.W.Frag} {C : Addr} {q : Str} {N : Addr} {bs : List Value} {sn : List Str} {sub : List Value} {ab : Bool} {col : Option Bool} {dd : Option Addr} {k0 k1 k2 k3 k5 : Option Value}
    (ns : PySem.W.nsIn K mainGlobals "StintError" = some (some (.ref C))) (xl : K.lookup C = some (excClassObj "StintError" q C N bs [.type "ValueError", .type "Exception", .type "BaseException", .type "object"] true sn sub ab col dd k0 k1 k2 k3 k5 "ValueError.__new__"))
    (sa : PySem.W.findIn K (.ref C) "__setattr__" = some (some (.builtin "object.__setattr__"))) (ga : PySem.W.findIn K (.ref C) "__getattribute__" = some (some (.builtin "BaseException.__getattribute__"))) (gg : PySem.W.findIn K (.ref C) "__getattr__" = some none)
    (kC : PySem.W.keepIn K (.ref C) = true) (ac : PySem.W.findIn K (.ref C) "__class__" = some (some (.builtin "object.__class__"))) (hn : PySem.W.specialIn K (.builtin "object.__class__") "__get__" = some (some (.builtin "getset_descriptor.__get__"))) (ht : PySem.W.takesIn K (.builtin "object.__class__") = some true) : ClsK K "StintError" C :=
  ⟨by decide, ns, ⟨q, N, bs, _, sn, sub, ab, col, dd, k0, k1, k2, k3, k5, xl, .inl ⟨rfl, rfl⟩⟩, sa, ga, gg, kC, ac, hn, ht, fun f hf => by cases hf⟩
theorem clsK_of {K : PySem.W.Frag} {c : String} {B C : Addr} {q : Str} {N : Addr} {bs : List Value} {sn : List Str} {sub : List Value} {ab : Bool} {col : Option Bool} {dd : Option Addr} {k0 k1 k2 k3 k5 : Option Value} (hc : clsN c = true) (hd : c ≠ "StintError") (kB : ClsK K "StintError" B)
    (ns : PySem.W.nsIn K mainGlobals (sO c) = some (some (.ref C))) (xl : K.lookup C = some (excClassObj (sO c) q C N bs [.ref B, .type "ValueError", .type "Exception", .type "BaseException", .type "object"] true sn sub ab col dd k0 k1 k2 k3 k5 "ValueError.__new__"))
    (sa : PySem.W.findIn K (.ref C) "__setattr__" = some (some (.builtin "object.__setattr__"))) (ga : PySem.W.findIn K (.ref C) "__getattribute__" = some (some (.builtin "BaseException.__getattribute__"))) (gg : PySem.W.findIn K (.ref C) "__getattr__" = some none)
    (kC : PySem.W.keepIn K (.ref C) = true) (ac : PySem.W.findIn K (.ref C) "__class__" = some (some (.builtin "object.__class__"))) (fs : ∀ f ∈ fieldsOf c, PySem.W.findIn K (.ref C) (sO f) = some none) : ClsK K c C := by
  refine ⟨hc, ns, ⟨q, N, bs, _, sn, sub, ab, col, dd, k0, k1, k2, k3, k5, xl, .inr ⟨hd, B, rfl, kB.ns, ?_⟩⟩, sa, ga, gg, kC, ac, kB.hn, kB.ht, fs⟩
  obtain ⟨cd, bm, h1, h2, _⟩ := kB.clsIn
  rw [h1]
  exact congrArg some h2
theorem clsAt_bare {K : PySem.W.Frag} {mg : Str → Option Value} {h : Heap} {c : String} {C : Addr} (X : K.In h) (G : h.Ns mainGlobals mg) (k : ClsK K c C) (hf : fieldsOf c = [])
    (ex : PySem.W.excIn K C [.type "ValueError", .type "Exception", .type "BaseException", .type "object"] "ValueError.__new__" = true) : ClsAt K mg c :=
  ⟨C, k, PySem.W.mg_of X G k.ns, fun _ _ => ex, fun z => absurd hf z⟩
theorem clsAt_se {K : PySem.W.Frag} {mg : Str → Option Value} {h : Heap} {C : Addr} (X : K.In h) (G : h.Ns mainGlobals mg) (k : ClsK K "StintError" C) : ClsAt K mg "StintError" :=
  ⟨C, k, PySem.W.mg_of X G k.ns, fun _ z => absurd rfl z, fun z => absurd rfl z⟩
theorem clsAt_init {K : PySem.W.Frag} {mg : Str → Option Value} {h : Heap} {c : String} {B C fI : Addr} (st : Stmt) {kV doc pm cdv ct oc : Value} {an od : Option Addr} {osl : Array (Option Value)} (X : K.In h) (G : h.Ns mainGlobals mg) (k : ClsK K c C) (kB : ErrC K B) (hf : fieldsOf c ≠ [])
    (a1 : PySem.W.findIn K (.ref C) "__init__" = some (some (.ref fI))) (t1 : PySem.W.typeIn K (.ref fI) = some (.type "function"))
    (l1 : K.lookup fI = some ⟨oc, od, .func (PySem.W.fnOf "__init__" (sO (c ++ ".__init__")) (defArgs st) (defBody st) (defScope st) .none kV doc pm an cdv ct), osl⟩) (c1 : PySem.W.codeIn K cdv (sO (c ++ ".__init__")) = true) (k1 : PySem.W.keepIn K (.ref fI) = true)
    (hb : ∀ us : List Value, us.length = (("self" :: fieldsOf c).map sO).length → bindArgs (PySem.W.fnOf "__init__" (sO (c ++ ".__init__")) (defArgs st) (defBody st) (defScope st) .none kV doc pm an cdv ct) ⟨us, []⟩ = pure ((("self" :: fieldsOf c).map sO).zip us))
    (sc : FnScope (("self" :: fieldsOf c).map sO) (("self" :: fieldsOf c).map sO) (defScope st)) (hg : gloB (defScope st) (sO "StintError") = true) (hc : chkInit (fieldsOf c) (defBody st) = true) : ClsAt K mg c :=
  ⟨C, k, PySem.W.mg_of X G k.ns, fun z => absurd z hf, fun _ => ⟨⟨B, fI, _, st, kB, a1, t1, fun_mk l1 c1 k1, .all hb, sc, hg, hc⟩, B, kB, PySem.W.mg_of X G kB.ns⟩⟩
end Px
set_option Elab.async false
set_option linter.all false
set_option maxRecDepth 100000
set_option maxHeartbeats 1000000
namespace Px
open PySem L2
@[simp] theorem gS0 {α : Type} (x0 : α) (l : List α) : (x0 :: l)[0]? = some x0 := rfl
@[simp] theorem sS0 {α : Type} (x0 y : α) (l : List α) : (x0 :: l).set 0 y = y :: l := rfl
@[simp] theorem gS1 {α : Type} (x0 x1 : α) (l : List α) : (x0 :: x1 :: l)[1]? = some x1 := rfl
@[simp] theorem sS1 {α : Type} (x0 x1 y : α) (l : List α) : (x0 :: x1 :: l).set 1 y = x0 :: y :: l := rfl
@[simp] theorem gS2 {α : Type} (x0 x1 x2 : α) (l : List α) : (x0 :: x1 :: x2 :: l)[2]? = some x2 := rfl
@[simp] theorem sS2 {α : Type} (x0 x1 x2 y : α) (l : List α) : (x0 :: x1 :: x2 :: l).set 2 y = x0 :: x1 :: y :: l := rfl
@[simp] theorem gS3 {α : Type} (x0 x1 x2 x3 : α) (l : List α) : (x0 :: x1 :: x2 :: x3 :: l)[3]? = some x3 := rfl
@[simp] theorem sS3 {α : Type} (x0 x1 x2 x3 y : α) (l : List α) : (x0 :: x1 :: x2 :: x3 :: l).set 3 y = x0 :: x1 :: x2 :: y :: l := rfl
@[simp] theorem gS4 {α : Type} (x0 x1 x2 x3 x4 : α) (l : List α) : (x0 :: x1 :: x2 :: x3 :: x4 :: l)[4]? = some x4 := rfl
@[simp] theorem sS4 {α : Type} (x0 x1 x2 x3 x4 y : α) (l : List α) : (x0 :: x1 :: x2 :: x3 :: x4 :: l).set 4 y = x0 :: x1 :: x2 :: x3 :: y :: l := rfl
@[simp] theorem gS5 {α : Type} (x0 x1 x2 x3 x4 x5 : α) (l : List α) : (x0 :: x1 :: x2 :: x3 :: x4 :: x5 :: l)[5]? = some x5 := rfl
@[simp] theorem sS5 {α : Type} (x0 x1 x2 x3 x4 x5 y : α) (l : List α) : (x0 :: x1 :: x2 :: x3 :: x4 :: x5 :: l).set 5 y = x0 :: x1 :: x2 :: x3 :: x4 :: y :: l := rfl
@[simp] theorem gS6 {α : Type} (x0 x1 x2 x3 x4 x5 x6 : α) (l : List α) : (x0 :: x1 :: x2 :: x3 :: x4 :: x5 :: x6 :: l)[6]? = some x6 := rfl
@[simp] theorem sS6 {α : Type} (x0 x1 x2 x3 x4 x5 x6 y : α) (l : List α) : (x0 :: x1 :: x2 :: x3 :: x4 :: x5 :: x6 :: l).set 6 y = x0 :: x1 :: x2 :: x3 :: x4 :: x5 :: y :: l := rfl
@[simp] theorem gS7 {α : Type} (x0 x1 x2 x3 x4 x5 x6 x7 : α) (l : List α) : (x0 :: x1 :: x2 :: x3 :: x4 :: x5 :: x6 :: x7 :: l)[7]? = some x7 := rfl
@[simp] theorem sS7 {α : Type} (x0 x1 x2 x3 x4 x5 x6 x7 y : α) (l : List α) : (x0 :: x1 :: x2 :: x3 :: x4 :: x5 :: x6 :: x7 :: l).set 7 y = x0 :: x1 :: x2 :: x3 :: x4 :: x5 :: x6 :: y :: l := rfl
@[simp] theorem gS8 {α : Type} (x0 x1 x2 x3 x4 x5 x6 x7 x8 : α) (l : List α) : (x0 :: x1 :: x2 :: x3 :: x4 :: x5 :: x6 :: x7 :: x8 :: l)[8]? = some x8 := rfl
@[simp] theorem sS8 {α : Type} (x0 x1 x2 x3 x4 x5 x6 x7 x8 y : α) (l : List α) : (x0 :: x1 :: x2 :: x3 :: x4 :: x5 :: x6 :: x7 :: x8 :: l).set 8 y = x0 :: x1 :: x2 :: x3 :: x4 :: x5 :: x6 :: x7 :: y :: l := rfl
@[simp] theorem gS9 {α : Type} (x0 x1 x2 x3 x4 x5 x6 x7 x8 x9 : α) (l : List α) : (x0 :: x1 :: x2 :: x3 :: x4 :: x5 :: x6 :: x7 :: x8 :: x9 :: l)[9]? = some x9 := rfl
@[simp] theorem sS9 {α : Type} (x0 x1 x2 x3 x4 x5 x6 x7 x8 x9 y : α) (l : List α) : (x0 :: x1 :: x2 :: x3 :: x4 :: x5 :: x6 :: x7 :: x8 :: x9 :: l).set 9 y = x0 :: x1 :: x2 :: x3 :: x4 :: x5 :: x6 :: x7 :: x8 :: y :: l := rfl
@[simp] theorem gS10 {α : Type} (x0 x1 x2 x3 x4 x5 x6 x7 x8 x9 x10 : α) (l : List α) : (x0 :: x1 :: x2 :: x3 :: x4 :: x5 :: x6 :: x7 :: x8 :: x9 :: x10 :: l)[10]? = some x10 := rfl
@[simp] theorem sS10 {α : Type} (x0 x1 x2 x3 x4 x5 x6 x7 x8 x9 x10 y : α) (l : List α) : (x0 :: x1 :: x2 :: x3 :: x4 :: x5 :: x6 :: x7 :: x8 :: x9 :: x10 :: l).set 10 y = x0 :: x1 :: x2 :: x3 :: x4 :: x5 :: x6 :: x7 :: x8 :: x9 :: y :: l := rfl
@[simp] theorem gS11 {α : Type} (x0 x1 x2 x3 x4 x5 x6 x7 x8 x9 x10 x11 : α) (l : List α) : (x0 :: x1 :: x2 :: x3 :: x4 :: x5 :: x6 :: x7 :: x8 :: x9 :: x10 :: x11 :: l)[11]? = some x11 := rfl
@[simp] theorem sS11 {α : Type} (x0 x1 x2 x3 x4 x5 x6 x7 x8 x9 x10 x11 y : α) (l : List α) : (x0 :: x1 :: x2 :: x3 :: x4 :: x5 :: x6 :: x7 :: x8 :: x9 :: x10 :: x11 :: l).set 11 y = x0 :: x1 :: x2 :: x3 :: x4 :: x5 :: x6 :: x7 :: x8 :: x9 :: x10 :: y :: l := rfl
@[simp] theorem gS12 {α : Type} (x0 x1 x2 x3 x4 x5 x6 x7 x8 x9 x10 x11 x12 : α) (l : List α) : (x0 :: x1 :: x2 :: x3 :: x4 :: x5 :: x6 :: x7 :: x8 :: x9 :: x10 :: x11 :: x12 :: l)[12]? = some x12 := rfl
@[simp] theorem sS12 {α : Type} (x0 x1 x2 x3 x4 x5 x6 x7 x8 x9 x10 x11 x12 y : α) (l : List α) : (x0 :: x1 :: x2 :: x3 :: x4 :: x5 :: x6 :: x7 :: x8 :: x9 :: x10 :: x11 :: x12 :: l).set 12 y = x0 :: x1 :: x2 :: x3 :: x4 :: x5 :: x6 :: x7 :: x8 :: x9 :: x10 :: x11 :: y :: l := rfl
@[simp] theorem gS13 {α : Type} (x0 x1 x2 x3 x4 x5 x6 x7 x8 x9 x10 x11 x12 x13 : α) (l : List α) : (x0 :: x1 :: x2 :: x3 :: x4 :: x5 :: x6 :: x7 :: x8 :: x9 :: x10 :: x11 :: x12 :: x13 :: l)[13]? = some x13 := rfl
@[simp] theorem sS13 {α : Type} (x0 x1 x2 x3 x4 x5 x6 x7 x8 x9 x10 x11 x12 x13 y : α) (l : List α) : (x0 :: x1 :: x2 :: x3 :: x4 :: x5 :: x6 :: x7 :: x8 :: x9 :: x10 :: x11 :: x12 :: x13 :: l).set 13 y = x0 :: x1 :: x2 :: x3 :: x4 :: x5 :: x6 :: x7 :: x8 :: x9 :: x10 :: x11 :: x12 :: y :: l := rfl
@[simp] theorem sz0 : (0 ≤ sizeLine) = True := eq_true (by unfold sizeLine; decide)
@[simp] theorem sz1 : (1 ≤ sizeLine) = True := eq_true (by unfold sizeLine; decide)
@[simp] theorem sz2 : (2 ≤ sizeLine) = True := eq_true (by unfold sizeLine; decide)
@[simp] theorem sz3 : (3 ≤ sizeLine) = True := eq_true (by unfold sizeLine; decide)
@[simp] theorem sz4 : (4 ≤ sizeLine) = True := eq_true (by unfold sizeLine; decide)
@[simp] theorem sz5 : (5 ≤ sizeLine) = True := eq_true (by unfold sizeLine; decide)
@[simp] theorem sz6 : (6 ≤ sizeLine) = True := eq_true (by unfold sizeLine; decide)
@[simp] theorem sz7 : (7 ≤ sizeLine) = True := eq_true (by unfold sizeLine; decide)
@[simp] theorem sz8 : (8 ≤ sizeLine) = True := eq_true (by unfold sizeLine; decide)
@[simp] theorem sz9 : (9 ≤ sizeLine) = True := eq_true (by unfold sizeLine; decide)
@[simp] theorem sz10 : (10 ≤ sizeLine) = True := eq_true (by unfold sizeLine; decide)
@[simp] theorem sz11 : (11 ≤ sizeLine) = True := eq_true (by unfold sizeLine; decide)
@[simp] theorem sz12 : (12 ≤ sizeLine) = True := eq_true (by unfold sizeLine; decide)
section
variable (F : Cf) (sl : Slots) (S : Sto)
@[simp] theorem ev_var (i : Nat) : evE F (.var i) sl S = match sl[i]? with
    | some (.val d) => .ok (.val d) S
    | some (.own c) => .ok (.own c) S
    | _ => .stuck := rfl
@[simp] theorem ev_int (z : Int) : evE F (.int z) sl S = .ok (.val (.int z)) S := rfl
@[simp] theorem ev_bl (b : Bool) : evE F (.bl b) sl S = .ok (.val (.bl b)) S := rfl
@[simp] theorem ev_non : evE F .non sl S = .ok (.val .non) S := rfl
@[simp] theorem ev_nop : evE F .nop sl S = .ok (.val (.bl true)) S := rfl
@[simp] theorem ev_str (s : String) : evE F (.str s) sl S = .ok (.val (.str (Str.ofString s))) S := rfl
@[simp] theorem ev_bin (o : Bop) (a b : Ex) : evE F (.bin o a b) sl S = (evE F a sl S).bind fun x S1 => (evE F b sl S1).bind fun y S2 => Res.opt (opBin o x y) S2 := rfl
@[simp] theorem ev_cmp (o : Cop) (a b : Ex) : evE F (.cmp o a b) sl S = (evE F a sl S).bind fun x S1 => (evE F b sl S1).bind fun y S2 => Res.opt ((opCmp o x y).map fun k => .val (.bl k)) S2 := rfl
@[simp] theorem ev_cmp2 (o o' : Cop) (a b c : Ex) : evE F (.cmp2 o o' a b c) sl S = (evE F a sl S).bind fun x S1 => (evE F b sl S1).bind fun y S2 => (Res.opt (opCmp o x y) S2).bind fun k S3 =>
      if k then (evE F c sl S3).bind fun z S4 => Res.opt ((opCmp o' y z).map fun k => .val (.bl k)) S4 else .ok (.val (.bl false)) S3 := rfl
@[simp] theorem ev_and (a b : Ex) : evE F (.and a b) sl S = (evE F a sl S).bind fun x S1 => (Res.opt x.look.truth S1).bind fun k S2 => if k then evE F b sl S2 else .ok x S2 := rfl
@[simp] theorem ev_or (a b : Ex) : evE F (.or a b) sl S = (evE F a sl S).bind fun x S1 => (Res.opt x.look.truth S1).bind fun k S2 => if k then .ok x S2 else evE F b sl S2 := rfl
@[simp] theorem ev_not (a : Ex) : evE F (.not a) sl S = (evE F a sl S).bind fun x S1 => (Res.opt x.look.truth S1).bind fun k S2 => .ok (.val (.bl (!k))) S2 := rfl
@[simp] theorem ev_neg (a : Ex) : evE F (.neg a) sl S = (evE F a sl S).bind fun x S1 => match x.look with | .int i => .ok (.val (.int (-i))) S1 | _ => .stuck := rfl
@[simp] theorem ev_ife (c a b : Ex) : evE F (.ife c a b) sl S = (evE F c sl S).truth.bind fun k S1 => if k then evE F a sl S1 else evE F b sl S1 := rfl
@[simp] theorem ev_tup (es : Exs) : evE F (.tup es) sl S = (evA F es sl S).bind fun ds S1 => if ds.length ≤ sizeLine then .ok (.val (.tup ds)) S1 else .stuck := rfl
@[simp] theorem ev_list (es : Exs) : evE F (.list es) sl S = (evA F es sl S).bind fun ds S1 => if ds.length ≤ sizeLine then .ok (.fresh (.lst ds)) S1 else .stuck := rfl
@[simp] theorem ev_call (f : String) (es : Exs) : evE F (.call f es) sl S = (evA F es sl S).bind fun ds S1 => F.call f ds S1 := rfl
@[simp] theorem ev_bi (b : Bi) (es : Exs) : evE F (.bi b es) sl S = (evR F es sl S).bind fun rs S1 => Res.opt (opBi b rs) S1 := rfl
@[simp] theorem ev_isin (e : Ex) (o : Bool) (ts : List Ty) : evE F (.isin e o ts) sl S = (evE F e sl S).bind fun x S1 => if isDic x.look S1 then .stuck else .ok (.val (.bl (isIn x.look ts))) S1 := rfl
@[simp] theorem ev_ix (a i : Ex) : evE F (.ix a i) sl S = (evE F a sl S).bind fun x S1 => (evE F i sl S1).bind fun y S2 => Res.opt (opIx x y) S2 := rfl
@[simp] theorem ev_sl (a : Ex) (lo hi : Exo) : evE F (.sl a lo hi) sl S = (evE F a sl S).bind fun x S1 => (evP F lo sl S1).bind fun l S2 => (evP F hi sl S2).bind fun h S3 => Res.opt (opSl x l h) S3 := rfl
@[simp] theorem ev_op (o : Op) (es : Exs) : evE F (.op o es) sl S = (evR F es sl S).bind fun rs S1 => Res.opt (opX o rs) S1 := by rw [evE]
@[simp] theorem ev_rev (a : Ex) : evE F (.rev a) sl S = (evE F a sl S).bind fun x S1 => Res.opt (opRev x) S1 := rfl
@[simp] theorem ev_sset (e : Ex) : evE F (.sset e) sl S = (evE F e sl S).bind fun x S1 => match x.look with
    | .lst xs => match dInts xs with
      | some ns => if ns.length < 4000 ∧ (ssetI ns).length < 64 then .ok (.fresh (.lst ((ssetI ns).map D.int))) S1 else .stuck
      | none => .stuck
    | _ => .stuck := rfl
@[simp] theorem ev_lrng (e : Ex) : evE F (.lrng e) sl S = (evE F e sl S).int?.bind fun i S1 => if 0 ≤ i ∧ i ≤ 16777216 then .ok (.fresh (.lst (rngD 0 i.toNat))) S1 else .stuck := rfl
@[simp] theorem ev_lenum (e : Ex) : evE F (.lenum e) sl S = lenumR (evE F e sl S) := by rw [evE]
@[simp] theorem ev_dnew1 (z : Int) (b : Bool) : evE F (.dnew1 z b) sl S = .ok (.val (.ref S.length)) (S ++ [.dic [(.inl z, .bl b)]]) := by rw [evE]
@[simp] theorem ev_dkeys (e : Ex) : evE F (.dkeys e) sl S = (evE F e sl S).bind fun r S1 => Res.opt ((keysD r.look S1).map fun l => .fresh (.lst l)) S1 := by rw [evE]
@[simp] theorem ev_dfrom (e : Ex) : evE F (.dfrom e) sl S = (evE F e sl S).data.bind fun d S1 => dfromR d S1 := by rw [evE]
@[simp] theorem ev_mke (c : String) (fs : List String) (es : Exs) : evE F (.mke c fs es) sl S = (evA F es sl S).bind fun ds S1 => mkeR c fs ds S1 := by rw [evE]
@[simp] theorem ev_fldr (e : Ex) (f : String) : evE F (.fldr e f) sl S = (evE F e sl S).bind fun r S1 => Res.opt (((errAt r.look S1).bind fun x => x.fs.lookup f).map .val) S1 := by rw [evE]
@[simp] theorem ev_isxr (e : Ex) (c : String) : evE F (.isxr e c) sl S = (evE F e sl S).bind fun r S1 => Res.opt ((errAt r.look S1).map fun x => .val (.bl (xIs x.cls c))) S1 := by rw [evE]
@[simp] theorem ea_nil : evA F .nil sl S = .ok [] S := rfl
@[simp] theorem ea_cons (e : Ex) (es : Exs) : evA F (.cons e es) sl S = (evE F e sl S).data.bind fun d S1 => (evA F es sl S1).bind fun ds S2 => .ok (d :: ds) S2 := rfl
@[simp] theorem er_nil : evR F .nil sl S = .ok [] S := rfl
@[simp] theorem er_cons (e : Ex) (es : Exs) : evR F (.cons e es) sl S = (evE F e sl S).bind fun d S1 => (evR F es sl S1).bind fun ds S2 => .ok (d :: ds) S2 := rfl
@[simp] theorem ep_no : evP F .no sl S = .ok none S := rfl
@[simp] theorem ep_yes (e : Ex) : evP F (.yes e) sl S = (evE F e sl S).int?.bind fun i S1 => .ok (some i) S1 := rfl
@[simp] theorem ei_val (e : Ex) : evI F (.val e) sl S = (evE F e sl S).data.bind fun d S1 => Res.opt d.seq S1 := rfl
@[simp] theorem ei_rng1 (a : Ex) : evI F (.rng1 a) sl S = (evE F a sl S).int?.bind fun i S1 => if small62 i then .ok (rngD 0 i.toNat) S1 else .stuck := rfl
@[simp] theorem ei_rngd (a b : Ex) : evI F (.rngd a b) sl S = (evE F a sl S).int?.bind fun i S1 => (evE F b sl S1).int?.bind fun j S2 => if small62 i && small62 j then .ok (dnD i (i - j).toNat) S2 else .stuck := by rw [evI]
@[simp] theorem ev_dic (ks : List (String × Int)) : evE F (.dic ks) sl S = .ok (.val (.dic (ks.map fun p => (.inr (Str.ofString p.1), p.2)))) S := by rw [evE]
@[simp] theorem ev_lenr (a : Ex) : evE F (.lenr a) sl S = (evE F a sl S).bind fun x S1 => match x.lookS S1 with
    | .lst xs => .ok (.val (.int xs.length)) S1
    | _ => .stuck := by rw [evE] <;> rfl
@[simp] theorem ev_tupr (a : Ex) : evE F (.tupr a) sl S = (evE F a sl S).bind fun x S1 => match x.lookS S1 with
    | .lst xs => .ok (.val (.tup xs)) S1
    | _ => .stuck := by rw [evE] <;> rfl
@[simp] theorem ei_rng2 (a b : Ex) : evI F (.rng2 a b) sl S = (evE F a sl S).int?.bind fun i S1 => (evE F b sl S1).int?.bind fun j S2 => if small62 i && small62 j then .ok (rngD i (j - i).toNat) S2 else .stuck := rfl
@[simp] theorem ei_zip (a b : Ex) : evI F (.zip a b) sl S = (evE F a sl S).data.bind fun x S1 => (evE F b sl S1).data.bind fun y S2 => match x, y with
    | .tup xs, .tup ys => .ok (zipD xs ys) S2
    | .lst xs, .lst ys => .ok (zipD xs ys) S2
    | .lst xs, .tup ys => .ok (zipD xs ys) S2
    | _, _ => .stuck := rfl
@[simp] theorem ei_look (e : Ex) : evI F (.look e) sl S = (evE F e sl S).bind fun r S1 => Res.opt r.look.seq S1 := rfl
@[simp] theorem ei_enum (e : Ex) : evI F (.enum e) sl S = (evE F e sl S).data.bind fun d S1 => Res.opt (d.seq.map enumD) S1 := rfl
@[simp] theorem eb_nil : exB F .nil sl S = .ok (.nx, sl) S := rfl
/-- what follows a statement -/
def thenB (ss : Sxs) (p : Fl × Slots) (S1 : Sto) : Res (Fl × Slots) := match p.1 with
    | .nx => exB F ss p.2 S1
    | f => .ok (f, p.2) S1
@[simp] theorem eb_cons' (s : Sx) (ss : Sxs) : exB F (.cons s ss) sl S = (exS F s sl S).bind (thenB F ss) := rfl
@[simp] theorem tb_nx (ss : Sxs) : thenB F ss (.nx, sl) S = exB F ss sl S := rfl
@[simp] theorem tb_rt (ss : Sxs) (r : Rv) : thenB F ss (.rt r, sl) S = .ok (.rt r, sl) S := rfl
@[simp] theorem tb_bk (ss : Sxs) : thenB F ss (.bk, sl) S = .ok (.bk, sl) S := rfl
@[simp] theorem tb_ct (ss : Sxs) : thenB F ss (.ct, sl) S = .ok (.ct, sl) S := rfl
@[simp] theorem es_asg (i : Nat) (e : Ex) : exS F (.asg (.nm i) e) sl S = (evE F e sl S).bind fun r S1 => Res.opt ((asgV i r sl).map fun s => (.nx, s)) S1 := rfl
@[simp] theorem es_asgT (ts : Tgs) (e : Ex) : exS F (.asg (.tup ts) e) sl S = (evE F e sl S).data.bind fun d S1 => Res.opt ((bindT (.tup ts) d sl).map fun s => (.nx, s)) S1 := rfl
@[simp] theorem es_asgL (ts : Tgs) (e : Ex) : exS F (.asgL ts e) sl S = (evE F e sl S).bind fun r S1 => match listOf r S1 with
    | some xs => Res.opt ((bindTs ts xs sl).map fun s => (.nx, s)) S1
    | none => .stuck := rfl
@[simp] theorem es_aug (i : Nat) (o : Bop) (e : Ex) : exS F (.aug i o e) sl S = match sl[i]? with
    | some (.val (.int a)) => (evE F e sl S).bind fun r S1 => match r.look with
      | .int b => Res.opt ((opBin o (.val (.int a)) (.val (.int b))).bind fun r => (asgV i r sl).map fun s => (.nx, s)) S1
      | _ => .stuck
    | _ => .stuck := rfl
@[simp] theorem es_setix (i : Nat) (k e : Ex) : exS F (.setix i k e) sl S = (evE F e sl S).data.bind fun d S1 => if lstAt i sl S1 then (evE F k sl S1).int?.bind fun k S2 => match chg i (setD · k d) sl S2 with
    | some (sl', S3) => .ok (.nx, sl') S3
    | none => .stuck
    else .stuck := rfl
@[simp] theorem es_app (i : Nat) (e : Ex) : exS F (.app i e) sl S = if lstAt i sl S then (evE F e sl S).data.bind fun d S1 => match chg i (appD · d) sl S1 with
    | some (sl', S3) => .ok (.nx, sl') S3
    | none => .stuck
    else .stuck := rfl
@[simp] theorem es_ins0 (i : Nat) (e : Ex) : exS F (.ins0 i e) sl S = if lstAt i sl S then (evE F e sl S).data.bind fun d S1 => match chg i (insD · d) sl S1 with
    | some (sl', S3) => .ok (.nx, sl') S3
    | none => .stuck
    else .stuck := rfl
@[simp] theorem es_expr (e : Ex) : exS F (.expr e) sl S = (evE F e sl S).bind fun _ S1 => .ok (.nx, sl) S1 := rfl
@[simp] theorem es_ret (e : Ex) : exS F (.ret e) sl S = (evE F e sl S).bind fun r S1 => match r with
    | .own _ => .stuck
    | r => .ok (.rt r, sl) S1 := rfl
@[simp] theorem es_retv (i : Nat) : exS F (.retv i) sl S = match sl[i]? with
    | some (.val d) => .ok (.rt (.val d), sl) S
    | some (.own c) => .ok (.rt (.fresh c), sl) S
    | _ => .stuck := rfl
@[simp] theorem es_retN : exS F .retN sl S = .ok (.rt (.val .non), sl) S := rfl
@[simp] theorem es_ife (c : Ex) (a b : Sxs) : exS F (.ife c a b) sl S = (evE F c sl S).truth.bind fun k S1 => if k then exB F a sl S1 else exB F b sl S1 := rfl
@[simp] theorem es_whl (c : Ex) (b : Sxs) : exS F (.whl c b) sl S = whlN (fun sl S => (evE F c sl S).truth) (exB F b) F.wf sl S := rfl
@[simp] theorem es_loop (t : Tg) (it : Itx) (b : Sxs) : exS F (.loop t it b) sl S = (evI F it sl S).bind fun items S1 => loopL t (exB F b) items sl S1 := rfl
@[simp] theorem es_brk : exS F .brk sl S = .ok (.bk, sl) S := rfl
@[simp] theorem es_cont : exS F .cont sl S = .ok (.ct, sl) S := rfl
@[simp] theorem es_bad : exS F .bad sl S = .stuck := rfl
@[simp] theorem es_pass : exS F .pass sl S = .ok (.nx, sl) S := rfl
@[simp] theorem es_frz (i : Nat) : exS F (.frz i) sl S = match sl[i]? with
    | some (.own c) => .ok (.nx, sl.set i (.val c.frz)) S
    | some (.val _) => .ok (.nx, sl) S
    | _ => .stuck := rfl
@[simp] theorem es_shr (i : Nat) : exS F (.shr i) sl S = match sl[i]? with
    | some (.own c) => .ok (.nx, sl.set i (.val (.ref S.length))) (S ++ [c])
    | _ => .stuck := rfl
end
@[simp] theorem truth_ok (a : Rv) (S : Sto) : (Res.ok a S).truth = Res.opt a.look.truth S := rfl
@[simp] theorem data_ok (a : Rv) (S : Sto) : (Res.ok a S).data = Res.opt a.toD S := rfl
@[simp] theorem int_ok (i : Int) (S : Sto) : (Res.ok (.val (.int i)) S).int? = .ok i S := rfl
@[simp] theorem look_val (d : D) : (Rv.val d).look = d := rfl
@[simp] theorem look_fresh (c : Cn) : (Rv.fresh c).look = c.frz := rfl
@[simp] theorem look_own (c : Cn) : (Rv.own c).look = c.frz := rfl
@[simp] theorem frz_lst (xs : List D) : (Cn.lst xs).frz = .lst xs := rfl
@[simp] theorem toD_val (d : D) : (Rv.val d).toD = some d := rfl
@[simp] theorem toD_fresh (c : Cn) : (Rv.fresh c).toD = some c.frz := rfl
@[simp] theorem tr_non : D.truth .non = some false := rfl
@[simp] theorem tr_bl (b : Bool) : D.truth (.bl b) = some b := rfl
@[simp] theorem tr_int (i : Int) : D.truth (.int i) = some (i != 0) := rfl
@[simp] theorem tr_tup (xs : List D) : D.truth (.tup xs) = some (!xs.isEmpty) := rfl
@[simp] theorem tr_lst (xs : List D) : D.truth (.lst xs) = some (!xs.isEmpty) := rfl
@[simp] theorem ob_look (o : Bop) (a b : Rv) : opBin o a b = opBinD o a.look b.look := rfl
@[simp] theorem ob_add (i j : Int) : opBinD .add (.int i) (.int j) = some (.val (.int (i + j))) := rfl
@[simp] theorem ob_sub (i j : Int) : opBinD .sub (.int i) (.int j) = some (.val (.int (i - j))) := rfl
@[simp] theorem ob_addT (x y : List D) : opBinD .add (.tup x) (.tup y) = if x.length + y.length ≤ sizeLine then some (.val (.tup (x ++ y))) else none := rfl
@[simp] theorem ob_addL (x y : List D) : opBinD .add (.lst x) (.lst y) = if x.length + y.length ≤ sizeLine then some (.fresh (.lst (x ++ y))) else none := rfl
@[simp] theorem ob_mod (i j : Int) : opBinD .mod (.int i) (.int j) = if 0 < j then some (.val (.int (i % j))) else none := rfl
@[simp] theorem ob_fdiv (i j : Int) : opBinD .fdiv (.int i) (.int j) = if 0 < j ∧ j.natAbs.log2 < 9000 then some (.val (.int (i / j))) else none := rfl
theorem ob_mul (i j : Int) : opBinD .mul (.int i) (.int j) = if i.natAbs.log2 + j.natAbs.log2 < 100000000 then some (.val (.int (i * j))) else none := rfl
theorem ob_mulT (x : List D) (j : Int) : opBinD .mul (.tup x) (.int j) = if -1000 ≤ j ∧ j ≤ 1000 ∧ x.length ≤ 1000 then some (.val (.tup (List.replicate j.toNat x).flatten)) else none := rfl
theorem ob_pow (i j : Int) : opBinD .pow (.int i) (.int j) = if 0 ≤ j ∧ j ≤ 1000000 ∧ i.natAbs < 2 ^ 64 then some (.val (.int (i ^ j.toNat))) else none := rfl
@[simp] theorem oc_look (o : Cop) (a b : Rv) : opCmp o a b = opCmpD o a.look b.look := rfl
@[simp] theorem oc_lt (i j : Int) : opCmpD .lt (.int i) (.int j) = some (decide (i < j)) := rfl
@[simp] theorem oc_le (i j : Int) : opCmpD .le (.int i) (.int j) = some (decide (i ≤ j)) := rfl
@[simp] theorem oc_gt (i j : Int) : opCmpD .gt (.int i) (.int j) = some (decide (j < i)) := rfl
@[simp] theorem oc_ge (i j : Int) : opCmpD .ge (.int i) (.int j) = some (decide (j ≤ i)) := rfl
@[simp] theorem oc_isN (a : D) : opCmpD .isN a .non = some a.isNon := by cases a <;> rfl
@[simp] theorem oc_notN (a : D) : opCmpD .notN a .non = some (!a.isNon) := by cases a <;> rfl
@[simp] theorem oc_eq (a b : D) : opCmpD .eq a b = eqD a b := by cases a <;> cases b <;> rfl
@[simp] theorem oc_ne (a b : D) : opCmpD .ne a b = (eqD a b).map (!·) := by cases a <;> cases b <;> rfl
@[simp] theorem in_non : D.isNon .non = true := rfl
@[simp] theorem in_int (i : Int) : D.isNon (.int i) = false := rfl
@[simp] theorem in_tup (i : List D) : D.isNon (.tup i) = false := rfl
@[simp] theorem in_lst (i : List D) : D.isNon (.lst i) = false := rfl
@[simp] theorem in_bl (i : Bool) : D.isNon (.bl i) = false := rfl
@[simp] theorem in_str (i : Str) : D.isNon (.str i) = false := rfl
@[simp] theorem oi_look (a b : Rv) : opIx a b = opIxD a.look b.look := rfl
@[simp] theorem oi_tup (xs : List D) (i : Int) : opIxD (.tup xs) (.int i) = (atI xs i).map .val := rfl
@[simp] theorem oi_lst (xs : List D) (i : Int) : opIxD (.lst xs) (.int i) = (atI xs i).map .val := rfl
@[simp] theorem os_look (a : Rv) (l h : Option Int) : opSl a l h = opSlD a.look l h := rfl
@[simp] theorem os_tup (xs : List D) (l h : Option Int) : opSlD (.tup xs) l h = some (.val (.tup (slc xs l h))) := rfl
@[simp] theorem os_lst (xs : List D) (l h : Option Int) : opSlD (.lst xs) l h = some (.fresh (.lst (slc xs l h))) := rfl
@[simp] theorem os_scr (xs : List D) (l h : Option Int) : opSlD (.scr xs) l h = some (.fresh (.lst (slc xs l h))) := rfl
@[simp] theorem or_look (a : Rv) : opRev a = opRevD a.look := rfl
@[simp] theorem or_tup (xs : List D) : opRevD (.tup xs) = some (.val (.tup xs.reverse)) := rfl
@[simp] theorem or_lst (xs : List D) : opRevD (.lst xs) = some (.fresh (.lst xs.reverse)) := rfl
@[simp] theorem bi_lenT (xs : List D) : opBi .len [.val (.tup xs)] = some (.val (.int xs.length)) := rfl
@[simp] theorem bi_lenL (xs : List D) : opBi .len [.val (.lst xs)] = some (.val (.int xs.length)) := rfl
@[simp] theorem bi_lenS (xs : List D) : opBi .len [.val (.scr xs)] = some (.val (.int xs.length)) := rfl
@[simp] theorem bi_lenO (xs : List D) : opBi .len [.own (.lst xs)] = some (.val (.int xs.length)) := rfl
@[simp] theorem bi_lenF (xs : List D) : opBi .len [.fresh (.lst xs)] = some (.val (.int xs.length)) := rfl
@[simp] theorem bi_abs (i : Int) : opBi .abs [.val (.int i)] = some (.val (.int (if i < 0 then -i else i))) := rfl
@[simp] theorem bi_max2 (i j : Int) : opBi .max2 [.val (.int i), .val (.int j)] = some (.val (.int (if j > i then j else i))) := rfl
@[simp] theorem bi_min2 (i j : Int) : opBi .min2 [.val (.int i), .val (.int j)] = some (.val (.int (if j < i then j else i))) := rfl
@[simp] theorem bi_tupT (xs : List D) : opBi .tuple [.val (.tup xs)] = some (.val (.tup xs)) := rfl
@[simp] theorem bi_tupF (xs : List D) : opBi .tuple [.fresh (.lst xs)] = some (.val (.tup xs)) := rfl
@[simp] theorem bi_tupO (xs : List D) : opBi .tuple [.own (.lst xs)] = some (.val (.tup xs)) := rfl
@[simp] theorem bi_tupL (xs : List D) : opBi .tuple [.val (.lst xs)] = some (.val (.tup xs)) := rfl
@[simp] theorem sq_tup (xs : List D) : D.seq (.tup xs) = some xs := rfl
@[simp] theorem sq_lst (xs : List D) : D.seq (.lst xs) = some xs := rfl
@[simp] theorem asg_val (i : Nat) (d : D) (sl : Slots) : asgV i (.val d) sl = some (sl.set i (.val d)) := rfl
@[simp] theorem asg_fresh (i : Nat) (d : Cn) (sl : Slots) : asgV i (.fresh d) sl = some (sl.set i (.own d)) := rfl
@[simp] theorem bt_nm (i : Nat) (d : D) (sl : Slots) : bindT (.nm i) d sl = some (sl.set i (.val d)) := rfl
@[simp] theorem bt_tup (ts : Tgs) (xs : List D) (sl : Slots) : bindT (.tup ts) (.tup xs) sl = bindTs ts xs sl := rfl
@[simp] theorem bts_nil (sl : Slots) : bindTs .nil [] sl = some sl := rfl
@[simp] theorem bts_cons (t : Tg) (ts : Tgs) (x : D) (xs : List D) (sl : Slots) : bindTs (.cons t ts) (x :: xs) sl = match bindT t x sl with
    | some sl' => bindTs ts xs sl'
    | none => none := rfl
@[simp] theorem lo_ref (i : Nat) (S : Sto) : listOf (.val (.ref i)) S = match S[i]? with
    | some (.lst xs) => some xs
    | _ => none := rfl
@[simp] theorem isdic_non (S : Sto) : isDic .non S = false := rfl
@[simp] theorem isdic_bl (b : Bool) (S : Sto) : isDic (.bl b) S = false := rfl
@[simp] theorem isdic_int (i : Int) (S : Sto) : isDic (.int i) S = false := rfl
@[simp] theorem isdic_str (i : Str) (S : Sto) : isDic (.str i) S = false := rfl
@[simp] theorem isdic_tup (i : List D) (S : Sto) : isDic (.tup i) S = false := rfl
@[simp] theorem isdic_lst (i : List D) (S : Sto) : isDic (.lst i) S = false := rfl
@[simp] theorem isdic_scr (i : List D) (S : Sto) : isDic (.scr i) S = false := rfl
@[simp] theorem isdic_dic (i : List (Key × Int)) (S : Sto) : isDic (.dic i) S = false := rfl
@[simp] theorem isdic_ref (i : Nat) (S : Sto) : isDic (.ref i) S = match S[i]? with
    | some (.dic _) => true
    | some (.dit _) => true
    | some (.err _) => true
    | _ => false := rfl
theorem call_eq {T : String → Option Fn} {G : String → Option D} {wf n : Nat} {f : String} {d : Fn} (h : T f = some d) {as : List D} {S : Sto} (hl : as.length = d.ar) :
    callN T G wf (n + 1) f as S = outOf (exB ⟨callN T G wf n, G, wf⟩ d.body (as.map .val ++ List.replicate (d.names.length - d.ar) .emp) S) := by
  show (match T f with | some d => _ | none => _) = _
  rw [h]
  show (if as.length = d.ar then _ else _) = _
  rw [if_pos hl]
  rfl
@[simp] theorem out_rt (r : Rv) (sl : Slots) (S : Sto) : outOf (.ok (.rt r, sl) S) = .ok r S := rfl
@[simp] theorem out_nx (sl : Slots) (S : Sto) : outOf (.ok (.nx, sl) S) = .ok (.val .non) S := rfl
/-- a frame's slots at the entry, small numbers of them -/
@[simp] theorem rep0 {α : Type} (a : α) : List.replicate 0 a = [] := rfl
@[simp] theorem rep1 {α : Type} (a : α) : List.replicate 1 a = [a] := rfl
@[simp] theorem rep2 {α : Type} (a : α) : List.replicate 2 a = [a, a] := rfl
@[simp] theorem rep3 {α : Type} (a : α) : List.replicate 3 a = [a, a, a] := rfl
@[simp] theorem rep4 {α : Type} (a : α) : List.replicate 4 a = [a, a, a, a] := rfl
@[simp] theorem rep5 {α : Type} (a : α) : List.replicate 5 a = [a, a, a, a, a] := rfl
@[simp] theorem rep6 {α : Type} (a : α) : List.replicate 6 a = [a, a, a, a, a, a] := rfl
@[simp] theorem rep7 {α : Type} (a : α) : List.replicate 7 a = [a, a, a, a, a, a, a] := rfl
@[simp] theorem rep8 {α : Type} (a : α) : List.replicate 8 a = [a, a, a, a, a, a, a, a] := rfl
@[simp] theorem rep9 {α : Type} (a : α) : List.replicate 9 a = [a, a, a, a, a, a, a, a, a] := rfl
@[simp] theorem rep10 {α : Type} (a : α) : List.replicate 10 a = [a, a, a, a, a, a, a, a, a, a] := rfl
@[simp] theorem rep11 {α : Type} (a : α) : List.replicate 11 a = [a, a, a, a, a, a, a, a, a, a, a] := rfl
@[simp] theorem rep12 {α : Type} (a : α) : List.replicate 12 a = [a, a, a, a, a, a, a, a, a, a, a, a] := rfl
@[simp] theorem rep13 {α : Type} (a : α) : List.replicate 13 a = [a, a, a, a, a, a, a, a, a, a, a, a, a] := rfl
@[simp] theorem rep14 {α : Type} (a : α) : List.replicate 14 a = [a, a, a, a, a, a, a, a, a, a, a, a, a, a] := rfl
@[simp] theorem rep15 {α : Type} (a : α) : List.replicate 15 a = [a, a, a, a, a, a, a, a, a, a, a, a, a, a, a] := rfl
@[simp] theorem rep16 {α : Type} (a : α) : List.replicate 16 a = [a, a, a, a, a, a, a, a, a, a, a, a, a, a, a, a] := rfl
@[simp] theorem rep17 {α : Type} (a : α) : List.replicate 17 a = [a, a, a, a, a, a, a, a, a, a, a, a, a, a, a, a, a] := rfl
@[simp] theorem rep18 {α : Type} (a : α) : List.replicate 18 a = [a, a, a, a, a, a, a, a, a, a, a, a, a, a, a, a, a, a] := rfl
@[simp] theorem rep19 {α : Type} (a : α) : List.replicate 19 a = [a, a, a, a, a, a, a, a, a, a, a, a, a, a, a, a, a, a, a] := rfl
@[simp] theorem rep20 {α : Type} (a : α) : List.replicate 20 a = [a, a, a, a, a, a, a, a, a, a, a, a, a, a, a, a, a, a, a, a] := rfl
@[simp] theorem rep21 {α : Type} (a : α) : List.replicate 21 a = [a, a, a, a, a, a, a, a, a, a, a, a, a, a, a, a, a, a, a, a, a] := rfl
@[simp] theorem rep22 {α : Type} (a : α) : List.replicate 22 a = [a, a, a, a, a, a, a, a, a, a, a, a, a, a, a, a, a, a, a, a, a, a] := rfl
@[simp] theorem rep23 {α : Type} (a : α) : List.replicate 23 a = [a, a, a, a, a, a, a, a, a, a, a, a, a, a, a, a, a, a, a, a, a, a, a] := rfl
@[simp] theorem rep24 {α : Type} (a : α) : List.replicate 24 a = [a, a, a, a, a, a, a, a, a, a, a, a, a, a, a, a, a, a, a, a, a, a, a, a] := rfl
end Px
set_option Elab.async false
set_option linter.all false
set_option maxRecDepth 100000
set_option maxHeartbeats 1000000
namespace Px
open PySem L2
@[simp] theorem gS14 {α : Type} (x0 x1 x2 x3 x4 x5 x6 x7 x8 x9 x10 x11 x12 x13 x14 : α) (l : List α) : (x0 :: x1 :: x2 :: x3 :: x4 :: x5 :: x6 :: x7 :: x8 :: x9 :: x10 :: x11 :: x12 :: x13 :: x14 :: l)[14]? = some x14 := rfl
@[simp] theorem sS14 {α : Type} (x0 x1 x2 x3 x4 x5 x6 x7 x8 x9 x10 x11 x12 x13 x14 y : α) (l : List α) : (x0 :: x1 :: x2 :: x3 :: x4 :: x5 :: x6 :: x7 :: x8 :: x9 :: x10 :: x11 :: x12 :: x13 :: x14 :: l).set 14 y = x0 :: x1 :: x2 :: x3 :: x4 :: x5 :: x6 :: x7 :: x8 :: x9 :: x10 :: x11 :: x12 :: x13 :: y :: l := rfl
@[simp] theorem gS15 {α : Type} (x0 x1 x2 x3 x4 x5 x6 x7 x8 x9 x10 x11 x12 x13 x14 x15 : α) (l : List α) : (x0 :: x1 :: x2 :: x3 :: x4 :: x5 :: x6 :: x7 :: x8 :: x9 :: x10 :: x11 :: x12 :: x13 :: x14 :: x15 :: l)[15]? = some x15 := rfl
@[simp] theorem sS15 {α : Type} (x0 x1 x2 x3 x4 x5 x6 x7 x8 x9 x10 x11 x12 x13 x14 x15 y : α) (l : List α) : (x0 :: x1 :: x2 :: x3 :: x4 :: x5 :: x6 :: x7 :: x8 :: x9 :: x10 :: x11 :: x12 :: x13 :: x14 :: x15 :: l).set 15 y = x0 :: x1 :: x2 :: x3 :: x4 :: x5 :: x6 :: x7 :: x8 :: x9 :: x10 :: x11 :: x12 :: x13 :: x14 :: y :: l := rfl
@[simp] theorem gS16 {α : Type} (x0 x1 x2 x3 x4 x5 x6 x7 x8 x9 x10 x11 x12 x13 x14 x15 x16 : α) (l : List α) : (x0 :: x1 :: x2 :: x3 :: x4 :: x5 :: x6 :: x7 :: x8 :: x9 :: x10 :: x11 :: x12 :: x13 :: x14 :: x15 :: x16 :: l)[16]? = some x16 := rfl
@[simp] theorem sS16 {α : Type} (x0 x1 x2 x3 x4 x5 x6 x7 x8 x9 x10 x11 x12 x13 x14 x15 x16 y : α) (l : List α) : (x0 :: x1 :: x2 :: x3 :: x4 :: x5 :: x6 :: x7 :: x8 :: x9 :: x10 :: x11 :: x12 :: x13 :: x14 :: x15 :: x16 :: l).set 16 y = x0 :: x1 :: x2 :: x3 :: x4 :: x5 :: x6 :: x7 :: x8 :: x9 :: x10 :: x11 :: x12 :: x13 :: x14 :: x15 :: y :: l := rfl
@[simp] theorem gS17 {α : Type} (x0 x1 x2 x3 x4 x5 x6 x7 x8 x9 x10 x11 x12 x13 x14 x15 x16 x17 : α) (l : List α) : (x0 :: x1 :: x2 :: x3 :: x4 :: x5 :: x6 :: x7 :: x8 :: x9 :: x10 :: x11 :: x12 :: x13 :: x14 :: x15 :: x16 :: x17 :: l)[17]? = some x17 := rfl
@[simp] theorem sS17 {α : Type} (x0 x1 x2 x3 x4 x5 x6 x7 x8 x9 x10 x11 x12 x13 x14 x15 x16 x17 y : α) (l : List α) : (x0 :: x1 :: x2 :: x3 :: x4 :: x5 :: x6 :: x7 :: x8 :: x9 :: x10 :: x11 :: x12 :: x13 :: x14 :: x15 :: x16 :: x17 :: l).set 17 y = x0 :: x1 :: x2 :: x3 :: x4 :: x5 :: x6 :: x7 :: x8 :: x9 :: x10 :: x11 :: x12 :: x13 :: x14 :: x15 :: x16 :: y :: l := rfl
@[simp] theorem gS18 {α : Type} (x0 x1 x2 x3 x4 x5 x6 x7 x8 x9 x10 x11 x12 x13 x14 x15 x16 x17 x18 : α) (l : List α) : (x0 :: x1 :: x2 :: x3 :: x4 :: x5 :: x6 :: x7 :: x8 :: x9 :: x10 :: x11 :: x12 :: x13 :: x14 :: x15 :: x16 :: x17 :: x18 :: l)[18]? = some x18 := rfl
@[simp] theorem sS18 {α : Type} (x0 x1 x2 x3 x4 x5 x6 x7 x8 x9 x10 x11 x12 x13 x14 x15 x16 x17 x18 y : α) (l : List α) : (x0 :: x1 :: x2 :: x3 :: x4 :: x5 :: x6 :: x7 :: x8 :: x9 :: x10 :: x11 :: x12 :: x13 :: x14 :: x15 :: x16 :: x17 :: x18 :: l).set 18 y = x0 :: x1 :: x2 :: x3 :: x4 :: x5 :: x6 :: x7 :: x8 :: x9 :: x10 :: x11 :: x12 :: x13 :: x14 :: x15 :: x16 :: x17 :: y :: l := rfl
@[simp] theorem gS19 {α : Type} (x0 x1 x2 x3 x4 x5 x6 x7 x8 x9 x10 x11 x12 x13 x14 x15 x16 x17 x18 x19 : α) (l : List α) : (x0 :: x1 :: x2 :: x3 :: x4 :: x5 :: x6 :: x7 :: x8 :: x9 :: x10 :: x11 :: x12 :: x13 :: x14 :: x15 :: x16 :: x17 :: x18 :: x19 :: l)[19]? = some x19 := rfl
@[simp] theorem sS19 {α : Type} (x0 x1 x2 x3 x4 x5 x6 x7 x8 x9 x10 x11 x12 x13 x14 x15 x16 x17 x18 x19 y : α) (l : List α) : (x0 :: x1 :: x2 :: x3 :: x4 :: x5 :: x6 :: x7 :: x8 :: x9 :: x10 :: x11 :: x12 :: x13 :: x14 :: x15 :: x16 :: x17 :: x18 :: x19 :: l).set 19 y = x0 :: x1 :: x2 :: x3 :: x4 :: x5 :: x6 :: x7 :: x8 :: x9 :: x10 :: x11 :: x12 :: x13 :: x14 :: x15 :: x16 :: x17 :: x18 :: y :: l := rfl
@[simp] theorem gS20 {α : Type} (x0 x1 x2 x3 x4 x5 x6 x7 x8 x9 x10 x11 x12 x13 x14 x15 x16 x17 x18 x19 x20 : α) (l : List α) : (x0 :: x1 :: x2 :: x3 :: x4 :: x5 :: x6 :: x7 :: x8 :: x9 :: x10 :: x11 :: x12 :: x13 :: x14 :: x15 :: x16 :: x17 :: x18 :: x19 :: x20 :: l)[20]? = some x20 := rfl
@[simp] theorem sS20 {α : Type} (x0 x1 x2 x3 x4 x5 x6 x7 x8 x9 x10 x11 x12 x13 x14 x15 x16 x17 x18 x19 x20 y : α) (l : List α) : (x0 :: x1 :: x2 :: x3 :: x4 :: x5 :: x6 :: x7 :: x8 :: x9 :: x10 :: x11 :: x12 :: x13 :: x14 :: x15 :: x16 :: x17 :: x18 :: x19 :: x20 :: l).set 20 y = x0 :: x1 :: x2 :: x3 :: x4 :: x5 :: x6 :: x7 :: x8 :: x9 :: x10 :: x11 :: x12 :: x13 :: x14 :: x15 :: x16 :: x17 :: x18 :: x19 :: y :: l := rfl
@[simp] theorem gS21 {α : Type} (x0 x1 x2 x3 x4 x5 x6 x7 x8 x9 x10 x11 x12 x13 x14 x15 x16 x17 x18 x19 x20 x21 : α) (l : List α) : (x0 :: x1 :: x2 :: x3 :: x4 :: x5 :: x6 :: x7 :: x8 :: x9 :: x10 :: x11 :: x12 :: x13 :: x14 :: x15 :: x16 :: x17 :: x18 :: x19 :: x20 :: x21 :: l)[21]? = some x21 := rfl
@[simp] theorem sS21 {α : Type} (x0 x1 x2 x3 x4 x5 x6 x7 x8 x9 x10 x11 x12 x13 x14 x15 x16 x17 x18 x19 x20 x21 y : α) (l : List α) : (x0 :: x1 :: x2 :: x3 :: x4 :: x5 :: x6 :: x7 :: x8 :: x9 :: x10 :: x11 :: x12 :: x13 :: x14 :: x15 :: x16 :: x17 :: x18 :: x19 :: x20 :: x21 :: l).set 21 y = x0 :: x1 :: x2 :: x3 :: x4 :: x5 :: x6 :: x7 :: x8 :: x9 :: x10 :: x11 :: x12 :: x13 :: x14 :: x15 :: x16 :: x17 :: x18 :: x19 :: x20 :: y :: l := rfl
@[simp] theorem gS22 {α : Type} (x0 x1 x2 x3 x4 x5 x6 x7 x8 x9 x10 x11 x12 x13 x14 x15 x16 x17 x18 x19 x20 x21 x22 : α) (l : List α) : (x0 :: x1 :: x2 :: x3 :: x4 :: x5 :: x6 :: x7 :: x8 :: x9 :: x10 :: x11 :: x12 :: x13 :: x14 :: x15 :: x16 :: x17 :: x18 :: x19 :: x20 :: x21 :: x22 :: l)[22]? = some x22 := rfl
@[simp] theorem sS22 {α : Type} (x0 x1 x2 x3 x4 x5 x6 x7 x8 x9 x10 x11 x12 x13 x14 x15 x16 x17 x18 x19 x20 x21 x22 y : α) (l : List α) : (x0 :: x1 :: x2 :: x3 :: x4 :: x5 :: x6 :: x7 :: x8 :: x9 :: x10 :: x11 :: x12 :: x13 :: x14 :: x15 :: x16 :: x17 :: x18 :: x19 :: x20 :: x21 :: x22 :: l).set 22 y = x0 :: x1 :: x2 :: x3 :: x4 :: x5 :: x6 :: x7 :: x8 :: x9 :: x10 :: x11 :: x12 :: x13 :: x14 :: x15 :: x16 :: x17 :: x18 :: x19 :: x20 :: x21 :: y :: l := rfl
@[simp] theorem gS23 {α : Type} (x0 x1 x2 x3 x4 x5 x6 x7 x8 x9 x10 x11 x12 x13 x14 x15 x16 x17 x18 x19 x20 x21 x22 x23 : α) (l : List α) : (x0 :: x1 :: x2 :: x3 :: x4 :: x5 :: x6 :: x7 :: x8 :: x9 :: x10 :: x11 :: x12 :: x13 :: x14 :: x15 :: x16 :: x17 :: x18 :: x19 :: x20 :: x21 :: x22 :: x23 :: l)[23]? = some x23 := rfl
@[simp] theorem sS23 {α : Type} (x0 x1 x2 x3 x4 x5 x6 x7 x8 x9 x10 x11 x12 x13 x14 x15 x16 x17 x18 x19 x20 x21 x22 x23 y : α) (l : List α) : (x0 :: x1 :: x2 :: x3 :: x4 :: x5 :: x6 :: x7 :: x8 :: x9 :: x10 :: x11 :: x12 :: x13 :: x14 :: x15 :: x16 :: x17 :: x18 :: x19 :: x20 :: x21 :: x22 :: x23 :: l).set 23 y = x0 :: x1 :: x2 :: x3 :: x4 :: x5 :: x6 :: x7 :: x8 :: x9 :: x10 :: x11 :: x12 :: x13 :: x14 :: x15 :: x16 :: x17 :: x18 :: x19 :: x20 :: x21 :: x22 :: y :: l := rfl
@[simp] theorem gS24 {α : Type} (x0 x1 x2 x3 x4 x5 x6 x7 x8 x9 x10 x11 x12 x13 x14 x15 x16 x17 x18 x19 x20 x21 x22 x23 x24 : α) (l : List α) : (x0 :: x1 :: x2 :: x3 :: x4 :: x5 :: x6 :: x7 :: x8 :: x9 :: x10 :: x11 :: x12 :: x13 :: x14 :: x15 :: x16 :: x17 :: x18 :: x19 :: x20 :: x21 :: x22 :: x23 :: x24 :: l)[24]? = some x24 := rfl
@[simp] theorem sS24 {α : Type} (x0 x1 x2 x3 x4 x5 x6 x7 x8 x9 x10 x11 x12 x13 x14 x15 x16 x17 x18 x19 x20 x21 x22 x23 x24 y : α) (l : List α) : (x0 :: x1 :: x2 :: x3 :: x4 :: x5 :: x6 :: x7 :: x8 :: x9 :: x10 :: x11 :: x12 :: x13 :: x14 :: x15 :: x16 :: x17 :: x18 :: x19 :: x20 :: x21 :: x22 :: x23 :: x24 :: l).set 24 y = x0 :: x1 :: x2 :: x3 :: x4 :: x5 :: x6 :: x7 :: x8 :: x9 :: x10 :: x11 :: x12 :: x13 :: x14 :: x15 :: x16 :: x17 :: x18 :: x19 :: x20 :: x21 :: x22 :: x23 :: y :: l := rfl
@[simp] theorem gS25 {α : Type} (x0 x1 x2 x3 x4 x5 x6 x7 x8 x9 x10 x11 x12 x13 x14 x15 x16 x17 x18 x19 x20 x21 x22 x23 x24 x25 : α) (l : List α) : (x0 :: x1 :: x2 :: x3 :: x4 :: x5 :: x6 :: x7 :: x8 :: x9 :: x10 :: x11 :: x12 :: x13 :: x14 :: x15 :: x16 :: x17 :: x18 :: x19 :: x20 :: x21 :: x22 :: x23 :: x24 :: x25 :: l)[25]? = some x25 := rfl
@[simp] theorem sS25 {α : Type} (x0 x1 x2 x3 x4 x5 x6 x7 x8 x9 x10 x11 x12 x13 x14 x15 x16 x17 x18 x19 x20 x21 x22 x23 x24 x25 y : α) (l : List α) : (x0 :: x1 :: x2 :: x3 :: x4 :: x5 :: x6 :: x7 :: x8 :: x9 :: x10 :: x11 :: x12 :: x13 :: x14 :: x15 :: x16 :: x17 :: x18 :: x19 :: x20 :: x21 :: x22 :: x23 :: x24 :: x25 :: l).set 25 y = x0 :: x1 :: x2 :: x3 :: x4 :: x5 :: x6 :: x7 :: x8 :: x9 :: x10 :: x11 :: x12 :: x13 :: x14 :: x15 :: x16 :: x17 :: x18 :: x19 :: x20 :: x21 :: x22 :: x23 :: x24 :: y :: l := rfl
@[simp] theorem gS26 {α : Type} (x0 x1 x2 x3 x4 x5 x6 x7 x8 x9 x10 x11 x12 x13 x14 x15 x16 x17 x18 x19 x20 x21 x22 x23 x24 x25 x26 : α) (l : List α) : (x0 :: x1 :: x2 :: x3 :: x4 :: x5 :: x6 :: x7 :: x8 :: x9 :: x10 :: x11 :: x12 :: x13 :: x14 :: x15 :: x16 :: x17 :: x18 :: x19 :: x20 :: x21 :: x22 :: x23 :: x24 :: x25 :: x26 :: l)[26]? = some x26 := rfl
@[simp] theorem sS26 {α : Type} (x0 x1 x2 x3 x4 x5 x6 x7 x8 x9 x10 x11 x12 x13 x14 x15 x16 x17 x18 x19 x20 x21 x22 x23 x24 x25 x26 y : α) (l : List α) : (x0 :: x1 :: x2 :: x3 :: x4 :: x5 :: x6 :: x7 :: x8 :: x9 :: x10 :: x11 :: x12 :: x13 :: x14 :: x15 :: x16 :: x17 :: x18 :: x19 :: x20 :: x21 :: x22 :: x23 :: x24 :: x25 :: x26 :: l).set 26 y = x0 :: x1 :: x2 :: x3 :: x4 :: x5 :: x6 :: x7 :: x8 :: x9 :: x10 :: x11 :: x12 :: x13 :: x14 :: x15 :: x16 :: x17 :: x18 :: x19 :: x20 :: x21 :: x22 :: x23 :: x24 :: x25 :: y :: l := rfl
@[simp] theorem gS27 {α : Type} (x0 x1 x2 x3 x4 x5 x6 x7 x8 x9 x10 x11 x12 x13 x14 x15 x16 x17 x18 x19 x20 x21 x22 x23 x24 x25 x26 x27 : α) (l : List α) : (x0 :: x1 :: x2 :: x3 :: x4 :: x5 :: x6 :: x7 :: x8 :: x9 :: x10 :: x11 :: x12 :: x13 :: x14 :: x15 :: x16 :: x17 :: x18 :: x19 :: x20 :: x21 :: x22 :: x23 :: x24 :: x25 :: x26 :: x27 :: l)[27]? = some x27 := rfl
@[simp] theorem sS27 {α : Type} (x0 x1 x2 x3 x4 x5 x6 x7 x8 x9 x10 x11 x12 x13 x14 x15 x16 x17 x18 x19 x20 x21 x22 x23 x24 x25 x26 x27 y : α) (l : List α) : (x0 :: x1 :: x2 :: x3 :: x4 :: x5 :: x6 :: x7 :: x8 :: x9 :: x10 :: x11 :: x12 :: x13 :: x14 :: x15 :: x16 :: x17 :: x18 :: x19 :: x20 :: x21 :: x22 :: x23 :: x24 :: x25 :: x26 :: x27 :: l).set 27 y = x0 :: x1 :: x2 :: x3 :: x4 :: x5 :: x6 :: x7 :: x8 :: x9 :: x10 :: x11 :: x12 :: x13 :: x14 :: x15 :: x16 :: x17 :: x18 :: x19 :: x20 :: x21 :: x22 :: x23 :: x24 :: x25 :: x26 :: y :: l := rfl
section
variable (F : Cf) (sl : Slots) (S : Sto)
@[simp] theorem ev_glob (x : String) : evE F (.glob x) sl S = Res.opt ((globD (F.glob x)).map .val) S := rfl
@[simp] theorem ev_ghas (neg : Bool) (k : Ex) (g : String) : evE F (.ghas neg k g) sl S = (evE F k sl S).bind fun x S1 => Res.opt ((hasD neg x.look (dicG (F.glob g))).map fun b => .val (.bl b)) S1 := rfl
@[simp] theorem ev_gat (g : String) (k : Ex) : evE F (.gat g k) sl S = (evE F k sl S).bind fun x S1 => Res.opt ((atD x.look (dicG (F.glob g))).map .val) S1 := rfl
@[simp] theorem ev_ixr (a i : Ex) : evE F (.ixr a i) sl S = (evE F a sl S).bind fun x S1 => (evE F i sl S1).bind fun y S2 => Res.opt (opIxD (x.lookS S2) (y.lookS S2)) S2 := rfl
@[simp] theorem ev_cmpr (o : Cop) (a b : Ex) : evE F (.cmpr o a b) sl S = (evE F a sl S).bind fun x S1 => (evE F b sl S1).bind fun y S2 => Res.opt ((opCmpD o (x.lookS S2) (y.lookS S2)).map fun k => .val (.bl k)) S2 := rfl
@[simp] theorem ev_dnew : evE F .dnew sl S = .ok (.val (.ref S.length)) (S ++ [.dic []]) := rfl
@[simp] theorem ev_dhas (neg : Bool) (k d : Ex) : evE F (.dhas neg k d) sl S = (evE F k sl S).bind fun x S1 => (evE F d sl S1).bind fun y S2 => Res.opt ((hasX neg x.look y.look S2).map fun b => .val (.bl b)) S2 := rfl
@[simp] theorem ev_dat (d k : Ex) : evE F (.dat d k) sl S = (evE F d sl S).bind fun y S1 => (evE F k sl S1).bind fun x S2 => Res.opt ((atX x.look y.look S2).map .val) S2 := rfl
@[simp] theorem ev_dget (d k z : Ex) : evE F (.dget d k z) sl S = (evE F d sl S).bind fun y S1 => if isDicX y.look S1 then (evE F k sl S1).bind fun x S2 => (evE F z sl S2).data.bind fun w S3 => Res.opt ((getX x.look w y.look S3).map .val) S3
    else .stuck := rfl
@[simp] theorem es_rem (i : Nat) (e : Ex) : exS F (.rem i e) sl S = if lstAt i sl S then (evE F e sl S).data.bind fun d S1 => match chg i (remD · d) sl S1 with
    | some (sl', S3) => .ok (.nx, sl') S3
    | none => .stuck
    else .stuck := rfl
@[simp] theorem es_dput (d k e : Ex) : exS F (.dput d k e) sl S = (evE F e sl S).data.bind fun w S1 => (evE F d sl S1).bind fun y S2 => (evE F k sl S2).bind fun x S3 => match kOf x.look, dicAt y S3 with
    | some κ, some (j, kvs) => if kvs.length < sizeLine then .ok (.nx, sl) (S3.set j (.dic (putD kvs κ w))) else .stuck
    | _, _ => .stuck := rfl
@[simp] theorem es_augix (i : Nat) (k : Ex) (o : Bop) (e : Ex) : exS F (.augix i k o e) sl S = if lstAt i sl S then (evE F k sl S).int?.bind fun k S1 => match (listAt i sl S1).bind fun xs => ixD xs k with
      | some (.int a) => (evE F e sl S1).int?.bind fun b S2 => match opBin o (.val (.int a)) (.val (.int b)) with
        | some (.val d) => match chg i (setD · k d) sl S2 with
          | some (sl', S3) => .ok (.nx, sl') S3
          | none => .stuck
        | _ => .stuck
      | _ => .stuck
    else .stuck := rfl
@[simp] theorem ev_shr (e : Ex) : evE F (.shr e) sl S = (evE F e sl S).bind fun r S1 => match r with
    | .fresh c => .ok (.val (.ref S1.length)) (S1 ++ [c])
    | _ => .stuck := rfl
@[simp] theorem ev_popr (a : Ex) (k : Exo) : evE F (.popr a k) sl S = (evE F a sl S).bind fun x S1 => if (refAt x S1).isSome then (evP F k sl S1).bind fun k S2 => match refAt x S2 with
    | some (j, xs) => match popD xs k with
      | some (d, ys) => .ok (.val d) (S2.set j (.lst ys))
      | none => .stuck
    | none => .stuck
    else .stuck := rfl
@[simp] theorem ev_appr (a e : Ex) : evE F (.appr a e) sl S = (evE F a sl S).bind fun x S1 => if (refAt x S1).isSome then (evE F e sl S1).data.bind fun d S2 => match refAt x S2 with
    | some (j, xs) => if xs.length < sizeLine then .ok (.val .non) (S2.set j (.lst (xs ++ [d]))) else .stuck
    | none => .stuck
    else .stuck := rfl
@[simp] theorem es_ext (i : Nat) (e : Ex) : exS F (.ext i e) sl S = if lstAt i sl S then (evE F e sl S).bind fun r S1 => match r.look.seq with
      | some ys => match chg i (extD · ys) sl S1 with
        | some (sl', S3) => .ok (.nx, sl') S3
        | none => .stuck
      | none => .stuck
    else .stuck := rfl
@[simp] theorem es_setixr (a k e : Ex) : exS F (.setixr a k e) sl S = (evE F e sl S).data.bind fun d S1 => (evE F a sl S1).bind fun x S2 => (evE F k sl S2).int?.bind fun k S3 => match refAt x S3 with
    | some (j, xs) => match setD xs k d with
      | some ys => .ok (.nx, sl) (S3.set j (.lst ys))
      | none => .stuck
    | none => .stuck := rfl
end
@[simp] theorem lookS_eq (r : Rv) (S : Sto) : r.lookS S = r.look.lookS S := rfl
@[simp] theorem lkS_int (i : Int) (S : Sto) : D.lookS S (.int i) = .int i := rfl
@[simp] theorem lkS_lst (i : List D) (S : Sto) : D.lookS S (.lst i) = .lst i := rfl
@[simp] theorem lkS_tup (i : List D) (S : Sto) : D.lookS S (.tup i) = .tup i := rfl
@[simp] theorem lkS_non (S : Sto) : D.lookS S .non = .non := rfl
@[simp] theorem lkS_bl (b : Bool) (S : Sto) : D.lookS S (.bl b) = .bl b := rfl
@[simp] theorem lkS_ref (i : Nat) (S : Sto) : D.lookS S (.ref i) = match S[i]? with
    | some (.lst xs) => .lst xs
    | _ => .ref i := rfl
@[simp] theorem isRef_ref (i : Nat) : (Rv.val (.ref i)).isRef = true := rfl
@[simp] theorem refAt_ref (i : Nat) (S : Sto) : refAt (.val (.ref i)) S = match S[i]? with
    | some (.lst xs) => some (i, xs)
    | _ => none := rfl
@[simp] theorem dicAt_ref (i : Nat) (S : Sto) : dicAt (.val (.ref i)) S = match S[i]? with
    | some (.dic xs) => some (i, xs)
    | _ => none := rfl
@[simp] theorem dicOf_ref (i : Nat) (S : Sto) : dicOfD (.ref i) S = match S[i]? with
    | some (.dic xs) => some xs
    | _ => none := rfl
@[simp] theorem tdicOf_ref (i : Nat) (S : Sto) : tdicOf (.ref i) S = match S[i]? with
    | some (.dit xs) => some xs
    | _ => none := rfl
@[simp] theorem tdicOf_dic (l : List (Key × Int)) (S : Sto) : tdicOf (.dic l) S = none := rfl
@[simp] theorem hasX_is (neg : Bool) (k d : D) (S : Sto) : hasX neg k d S = match tdicOf d S with
    | some kvs => (kTo k).map fun κ => xor neg (valT kvs κ).isSome
    | none => hasD neg k (dicOfD d S) := rfl
@[simp] theorem atX_is (k d : D) (S : Sto) : atX k d S = match tdicOf d S with
    | some kvs => (kTo k).bind fun κ => valT kvs κ
    | none => atD k (dicOfD d S) := rfl
@[simp] theorem getX_is (k z d : D) (S : Sto) : getX k z d S = match tdicOf d S with
    | some kvs => (kTo k).map fun κ => (valT kvs κ).getD z
    | none => getD2 k z (dicOfD d S) := rfl
@[simp] theorem isDicX_is (d : D) (S : Sto) : isDicX d S = ((tdicOf d S).isSome || (dicOfD d S).isSome) := rfl
@[simp] theorem dicOf_dic (l : List (Key × Int)) (S : Sto) : dicOfD (.dic l) S = some (l.map fun p => (p.1, .int p.2)) := rfl
@[simp] theorem globD_int (i : Int) : globD (some (.int i)) = some (.int i) := rfl
@[simp] theorem globD_str (i : Str) : globD (some (.str i)) = some (.str i) := rfl
@[simp] theorem globD_tup (i : List D) : globD (some (.tup i)) = some (.tup i) := rfl
@[simp] theorem globD_bl (i : Bool) : globD (some (.bl i)) = some (.bl i) := rfl
@[simp] theorem dicG_dic (l : List (Key × Int)) : dicG (some (.dic l)) = some (l.map fun p => (p.1, .int p.2)) := rfl
@[simp] theorem kOf_int (i : Int) : kOf (.int i) = some (.inl i) := rfl
@[simp] theorem kOf_str (i : Str) : kOf (.str i) = some (.inr i) := rfl
@[simp] theorem oc_isB (a b : Bool) : opCmpD .isB (.bl a) (.bl b) = some (decide (a = b)) := rfl
@[simp] theorem oc_notB (a b : Bool) : opCmpD .notB (.bl a) (.bl b) = some (!decide (a = b)) := rfl
@[simp] theorem oc_inL (a : D) (ys : List D) : opCmpD .inn a (.lst ys) = inD a ys := by cases a <;> rfl
@[simp] theorem oc_inT (a : D) (ys : List D) : opCmpD .inn a (.tup ys) = inD a ys := by cases a <;> rfl
@[simp] theorem oc_ninL (a : D) (ys : List D) : opCmpD .nin a (.lst ys) = (inD a ys).map (!·) := by cases a <;> rfl
@[simp] theorem oc_ninT (a : D) (ys : List D) : opCmpD .nin a (.tup ys) = (inD a ys).map (!·) := by cases a <;> rfl
@[simp] theorem bi_intI (i : Int) : opBi .int [.val (.int i)] = some (.val (.int i)) := rfl
@[simp] theorem bi_boolI (i : Int) : opBi .bool [.val (.int i)] = some (.val (.bl (i != 0))) := rfl
@[simp] theorem bi_boolB (k : Bool) : opBi .bool [.val (.bl k)] = some (.val (.bl k)) := rfl
@[simp] theorem bi_intB (k : Bool) : opBi .int [.val (.bl k)] = some (.val (.int (if k then 1 else 0))) := rfl
@[simp] theorem bi_sortV (xs : List D) : opBi .sorted [.val (.lst xs)] = (sortD xs).map fun ys => .fresh (.lst ys) := rfl
@[simp] theorem bi_sortT (xs : List D) : opBi .sorted [.val (.tup xs)] = (dPairs xs).map fun ps => .fresh (.lst ((ps.mergeSort leP).map fun p => .tup [.int p.1, .int p.2])) := rfl
@[simp] theorem bi_sortF (xs : List D) : opBi .sorted [.fresh (.lst xs)] = (sortD xs).map fun ys => .fresh (.lst ys) := rfl
@[simp] theorem bi_sortO (xs : List D) : opBi .sorted [.own (.lst xs)] = (sortD xs).map fun ys => .fresh (.lst ys) := rfl
end Px
set_option Elab.async false
set_option linter.all false
set_option maxRecDepth 100000
set_option maxHeartbeats 1000000
namespace Px
open PySem L2
section
variable {F : Cf} {sl : Slots} {S : Sto} {x : Xn}
@[simp] theorem es_raise (c : String) (fs : List String) (es : Exs) : exS F (.raise c fs es) sl S = (evA F es sl S).bind fun ds S1 => if ds.length = fs.length then .exc ⟨c, fs.zip ds⟩ S1 else .stuck := rfl
/-- the clauses, where something has flown -/
def catchB (sl : Slots) (hs : Hds) (r : Res (Fl × Slots)) : Res (Fl × Slots) := match r with
  | .exc x S1 => handle x sl S1 hs
  | r => r
@[simp] theorem es_tryx (b : Sxs) (hs : Hds) : exS F (.tryx b hs) sl S = catchB sl hs (exB F b sl S) := rfl
@[simp] theorem catch_ok (hs : Hds) (p : Fl × Slots) : catchB sl hs (.ok p S) = .ok p S := rfl
@[simp] theorem catch_exc (hs : Hds) : catchB sl hs (.exc x S) = handle x sl S hs := rfl
@[simp] theorem hd_nil : handle x sl S .nil = .exc x S := rfl
theorem hd_cons (c : String) (i : Option Nat) (s : Sus) (hs : Hds) : handle x sl S (.cons c i s hs) = if xIs x.cls c then (if okS i sl then (exUs x s (fitS i sl) S).noX.bind fun p S1 => .ok (goneS i p) S1 else .stuck) else handle x sl S hs := rfl
@[simp] theorem hd_0 (c : String) (s : Sus) (hs : Hds) : handle x sl S (.cons c none s hs) = if xIs x.cls c then (exUs x s sl S).noX else handle x sl S hs := by
  rw [hd_cons]
  congr 1
  show (if true = true then _ else _) = _
  rw [if_pos rfl]
  show ((exUs x s sl S).noX.bind fun p S1 => .ok p S1) = _
  cases (exUs x s sl S).noX <;> rfl
@[simp] theorem hd_1 (c : String) (i : Nat) (s : Sus) (hs : Hds) : handle x sl S (.cons c (some i) s hs) = if xIs x.cls c then (if i < sl.length then (exUs x s (sl.set i .emp) S).noX.bind fun p S1 => .ok (p.1, p.2.set i .emp) S1 else .stuck) else handle x sl S hs := by
  rw [hd_cons]
  congr 1
  show (if decide (i < sl.length) = true then _ else _) = _
  by_cases h : i < sl.length
  · rw [if_pos (decide_eq_true h), if_pos h]; rfl
  · rw [if_neg (by simpa using h), if_neg h]
@[simp] theorem eu_var (i : Nat) : evU x (.var i) sl S = match sl[i]? with
    | some (.val d) => .ok (.val d) S
    | _ => .stuck := rfl
@[simp] theorem eu_int (z : Int) : evU x (.int z) sl S = .ok (.val (.int z)) S := rfl
@[simp] theorem eu_bl (b : Bool) : evU x (.bl b) sl S = .ok (.val (.bl b)) S := rfl
@[simp] theorem eu_non : evU x .non sl S = .ok (.val .non) S := rfl
@[simp] theorem eu_str (s : String) : evU x (.str s) sl S = .ok (.val (.str (Str.ofString s))) S := rfl
@[simp] theorem eu_tup (es : Sues) : evU x (.tup es) sl S = (evUs x es sl S).bind fun ds S1 => if ds.length ≤ sizeLine then .ok (.val (.tup ds)) S1 else .stuck := rfl
@[simp] theorem eu_list (es : Sues) : evU x (.list es) sl S = (evUs x es sl S).bind fun ds S1 => if ds.length ≤ sizeLine then .ok (.fresh (.lst ds)) S1 else .stuck := rfl
@[simp] theorem eu_fld (f : String) : evU x (.fld f) sl S = Res.opt ((x.fs.lookup f).map .val) S := rfl
@[simp] theorem eu_isx (cs : List String) (o : Bool) : evU x (.isx cs o) sl S = .ok (.val (.bl (cs.any fun d => xIs x.cls d))) S := rfl
@[simp] theorem eu_cmp (o : Cop) (a b : Su) : evU x (.cmp o a b) sl S = (evU x a sl S).bind fun u S1 => (evU x b sl S1).bind fun v S2 => Res.opt ((opCmp o u v).map fun k => .val (.bl k)) S2 := rfl
@[simp] theorem eu_and (a b : Su) : evU x (.and a b) sl S = (evU x a sl S).bind fun u S1 => (Res.opt u.look.truth S1).bind fun k S2 => if k then evU x b sl S2 else .ok u S2 := rfl
@[simp] theorem eu_or (a b : Su) : evU x (.or a b) sl S = (evU x a sl S).bind fun u S1 => (Res.opt u.look.truth S1).bind fun k S2 => if k then .ok u S2 else evU x b sl S2 := rfl
@[simp] theorem eu_not (a : Su) : evU x (.not a) sl S = (evU x a sl S).bind fun u S1 => (Res.opt u.look.truth S1).bind fun k S2 => .ok (.val (.bl (!k))) S2 := rfl
@[simp] theorem eu_bi (b : Bi) (a : Su) : evU x (.bi b a) sl S = (evU x a sl S).bind fun u S1 => Res.opt (opBi b [u]) S1 := rfl
@[simp] theorem eu_ix (a i : Su) : evU x (.ix a i) sl S = (evU x a sl S).bind fun u S1 => (evU x i sl S1).bind fun v S2 => Res.opt (opIx u v) S2 := rfl
@[simp] theorem eu_bin (o : Bop) (a b : Su) : evU x (.bin o a b) sl S = (evU x a sl S).bind fun u S1 => (evU x b sl S1).bind fun v S2 => Res.opt (opBin o u v) S2 := rfl
@[simp] theorem eus_nil : evUs x .nil sl S = .ok [] S := rfl
@[simp] theorem eus_cons (e : Su) (es : Sues) : evUs x (.cons e es) sl S = (evU x e sl S).data.bind fun d S1 => (evUs x es sl S1).bind fun ds S2 => .ok (d :: ds) S2 := rfl
@[simp] theorem xu_asg (i : Nat) (e : Su) : exU x (.asg i e) sl S = (evU x e sl S).bind fun r S1 => Res.opt ((asgV i r sl).map fun s => (.nx, s)) S1 := rfl
@[simp] theorem xu_ret (e : Su) : exU x (.ret e) sl S = (evU x e sl S).bind fun r S1 => match r with
    | .own _ => .stuck
    | r => .ok (.rt r, sl) S1 := rfl
@[simp] theorem xu_ife (c : Su) (a b : Sus) : exU x (.ife c a b) sl S = (evU x c sl S).truth.bind fun k S1 => if k then exUs x a sl S1 else exUs x b sl S1 := rfl
@[simp] theorem xu_pass : exU x .pass sl S = .ok (.nx, sl) S := rfl
def thenU (x : Xn) (ss : Sus) (p : Fl × Slots) (S1 : Sto) : Res (Fl × Slots) := match p.1 with
    | .nx => exUs x ss p.2 S1
    | f => .ok (f, p.2) S1
@[simp] theorem xus_nil : exUs x .nil sl S = .ok (.nx, sl) S := rfl
@[simp] theorem xus_cons (s : Ss) (ss : Sus) : exUs x (.cons s ss) sl S = (exU x s sl S).bind (thenU x ss) := rfl
@[simp] theorem tu_nx (ss : Sus) : thenU x ss (.nx, sl) S = exUs x ss sl S := rfl
@[simp] theorem tu_rt (ss : Sus) (r : Rv) : thenU x ss (.rt r, sl) S = .ok (.rt r, sl) S := rfl
end
end Px
set_option linter.all false
namespace Px.L
open PySem L2
def ir_take : Fn := ⟨2, ["_law_stream_here", "_law_below", "_law_cells", "_law_begun", "_law_left", "_law_blend"], (.cons (.asgL (.cons (.nm 2) (.cons (.nm 3) (.cons (.nm 4) (.cons (.nm 5) .nil)))) (.var 0))
 (.cons (.ife (.and (.cmp .eq (.var 4) (.int 0)) (.cmp .lt (.var 3) (.bi .len (.cons (.var 2) .nil))))
 (.cons (.setix 0 (.int 1) (.bin .add (.var 3) (.int 1)))
 (.cons (.ife (.cmp .ge (.ix (.var 2) (.var 3)) (.bin .pow (.int 10) (.int 18)))
 (.cons (.asg (.nm 4) (.ix (.var 2) (.var 3)))
 .nil)
 (.cons (.asg (.nm 5) (.bin .add (.var 5) (.bin .mod (.ix (.var 2) (.var 3)) (.int 2147483629))))
 (.cons (.frz 5)
 .nil)))
 .nil))
 .nil)
 (.cons (.ife (.cmp .gt (.var 4) (.int 0))
 (.cons (.setix 0 (.int 2) (.bin .fdiv (.var 4) (.var 1)))
 (.cons (.ret (.bin .mod (.var 4) (.var 1)))
 .nil))
 .nil)
 (.cons (.asg (.nm 5) (.bin .mod (.bin .add (.bin .mul (.var 5) (.int 48271)) (.int 30011)) (.int 2147483647)))
 (.cons (.frz 5)
 (.cons (.setix 0 (.int 3) (.var 5))
 (.cons (.ret (.bin .mod (.bin .fdiv (.bin .mod (.bin .mul (.var 5) (.var 5)) (.int 2147483629)) (.int 16)) (.var 1)))
 .nil)))))))⟩
def ir_number : Fn := ⟨1, ["_law_stream_here", "_law_way"], (.cons (.asg (.nm 1) (.call "_law_take" (.cons (.var 0) (.cons (.int 16) .nil))))
 (.cons (.frz 1)
 (.cons (.ife (.cmp .eq (.var 1) (.int 0))
 (.cons (.ret (.int 0))
 .nil)
 .nil)
 (.cons (.ife (.cmp .lt (.var 1) (.int 12))
 (.cons (.ret (.call "_law_take" (.cons (.var 0) (.cons (.int 10) .nil))))
 .nil)
 .nil)
 (.cons (.ife (.cmp .lt (.var 1) (.int 15))
 (.cons (.ret (.call "_law_take" (.cons (.var 0) (.cons (.int 41) .nil))))
 .nil)
 .nil)
 (.cons (.ret (.bin .add (.ix (.list (.cons (.bin .pow (.int 10) (.int 9)) (.cons (.bin .pow (.int 10) (.int 12)) (.cons (.bin .pow (.int 10) (.int 18)) (.cons (.bin .pow (.int 10) (.int 39)) .nil))))) (.call "_law_take" (.cons (.var 0) (.cons (.int 4) .nil)))) (.call "_law_take" (.cons (.var 0) (.cons (.int 3) .nil)))))
 .nil))))))⟩
def ir_pair : Fn := ⟨1, ["_law_stream_here", "_law_need"], (.cons (.ife (.cmp .eq (.call "_law_take" (.cons (.var 0) (.cons (.int 4) .nil))) (.int 0))
 (.cons (.ret (.tup (.cons (.call "_law_number" (.cons (.var 0) .nil)) (.cons (.call "_law_number" (.cons (.var 0) .nil)) .nil))))
 .nil)
 .nil)
 (.cons (.asg (.nm 1) (.call "_law_take" (.cons (.var 0) (.cons (.int 12) .nil))))
 (.cons (.frz 1)
 (.cons (.ret (.tup (.cons (.var 1) (.cons (.bi .max2 (.cons (.int 0) (.cons (.bin .sub (.bin .add (.var 1) (.call "_law_take" (.cons (.var 0) (.cons (.int 9) .nil)))) (.int 4)) .nil))) .nil))))
 .nil))))⟩
def b_row_0 : Sxs := (.cons (.app 2 (.call "_law_pair" (.cons (.var 0) .nil)))
 (.cons (.ife (.cmp .eq (.call "_law_take" (.cons (.var 0) (.cons (.int 5) .nil))) (.int 0))
 (.cons (.setix 2 (.var 3) (.ix (.var 2) (.call "_law_take" (.cons (.var 0) (.cons (.bin .add (.var 3) (.int 1)) .nil)))))
 .nil)
 .nil)
 .nil))
def ir_row : Fn := ⟨2, ["_law_stream_here", "_law_most", "_law_found", "_law_k"], (.cons (.asg (.nm 2) (.list .nil))
 (.cons (.loop (.nm 3) (.rng1 (.call "_law_take" (.cons (.var 0) (.cons (.bin .add (.var 1) (.int 1)) .nil)))) b_row_0)
 (.cons (.ret (.bi .tuple (.cons (.var 2) .nil)))
 .nil)))⟩
def c_alike_0 : Ex := .comp [("_law_k", 2)] (.nm 2) (.rng1 (.bi .len (.cons (.var 1) .nil))) (.not (.call "_law_alike" (.cons (.ix (.var 0) (.var 2)) (.cons (.ix (.var 1) (.var 2)) .nil)))) (.var 2)
def ir_alike : Fn := ⟨2, ["_law_found", "_law_due", "_law_k"], (.cons (.ife (.isin (.var 1) true [.tuple])
 (.cons (.ife (.or (.not (.isin (.var 0) true [.tuple])) (.cmp .ne (.bi .len (.cons (.var 0) .nil)) (.bi .len (.cons (.var 1) .nil))))
 (.cons (.ret (.bl false))
 .nil)
 .nil)
 (.cons (.ret (.cmp .eq c_alike_0 (.list .nil)))
 .nil))
 .nil)
 (.cons (.ife (.cmp .isN (.var 1) .non)
 (.cons (.ret (.cmp .isN (.var 0) .non))
 .nil)
 .nil)
 (.cons (.ife (.isin (.var 1) true [.bool])
 (.cons (.ret (.and (.isin (.var 0) true [.bool]) (.cmp .eq (.var 0) (.var 1))))
 .nil)
 .nil)
 (.cons (.ife (.isin (.var 1) true [.str])
 (.cons (.ret (.and (.isin (.var 0) true [.str]) (.cmp .eq (.var 0) (.var 1))))
 .nil)
 .nil)
 (.cons (.ret (.and (.isin (.var 0) true [.int]) (.and (.not (.isin (.var 0) true [.bool])) (.cmp .eq (.var 0) (.var 1)))))
 .nil)))))⟩
end Px.L
set_option linter.all false
namespace Px.M
open PySem L2
def b_next_0 : Sxs := (.cons (.asg (.nm 2) (.ixr (.ixr (.var 0) (.int 0)) (.int 0)))
 (.cons (.ife (.cmp .gt (.var 2) (.int 0))
 (.cons (.setixr (.ixr (.var 0) (.int 0)) (.int 0) (.bin .fdiv (.var 2) (.var 1)))
 (.cons (.ret (.bin .mod (.var 2) (.var 1)))
 .nil))
 .nil)
 (.cons (.expr (.popr (.ixr (.var 0) (.int 0)) (.yes (.int 0))))
 .nil)))
def ir_next : Fn := ⟨2, ["_law_deck_here", "_law_many", "_law_cell"], (.cons (.whl (.cmpr .ne (.ixr (.var 0) (.int 0)) (.list .nil)) b_next_0)
 (.cons (.setix 0 (.int 2) (.bin .add (.ixr (.var 0) (.int 2)) (.int 1)))
 (.cons (.asg (.nm 2) (.ixr (.ixr (.var 0) (.int 1)) (.bin .mod (.ixr (.var 0) (.int 2)) (.bi .len (.cons (.ixr (.var 0) (.int 1)) .nil)))))
 (.cons (.setix 0 (.int 3) (.bin .mod (.bin .add (.bin .add (.bin .mul (.ixr (.var 0) (.int 3)) (.int 48271)) (.bin .mod (.var 2) (.int 2147483629))) (.bin .mul (.int 30011) (.ixr (.var 0) (.int 2)))) (.int 2147483647)))
 (.cons (.ret (.bin .mod (.bin .fdiv (.bin .mod (.bin .mul (.ixr (.var 0) (.int 3)) (.ixr (.var 0) (.int 3))) (.int 2147483629)) (.int 16)) (.var 1)))
 .nil)))))⟩
def ir_number : Fn := ⟨1, ["_law_deck_here", "_law_way"], (.cons (.asg (.nm 1) (.call "_law_next" (.cons (.var 0) (.cons (.int 14) .nil))))
 (.cons (.frz 1)
 (.cons (.ife (.cmp .eq (.var 1) (.int 0))
 (.cons (.ret (.bin .sub (.bin .pow (.int 10) (.int 12)) (.call "_law_next" (.cons (.var 0) (.cons (.int 3) .nil)))))
 .nil)
 .nil)
 (.cons (.ret (.call "_law_next" (.cons (.var 0) (.cons (.ix (.list (.cons (.int 1) (.cons (.int 3) (.cons (.int 6) (.cons (.int 10) .nil))))) (.bin .mod (.var 1) (.int 4))) .nil))))
 .nil))))⟩
def b_path_0 : Sxs := (.cons (.asg (.nm 5) (.bi .max2 (.cons (.int 0) (.cons (.bin .add (.var 3) (.call "_law_next" (.cons (.var 0) (.cons (.ix (.list (.cons (.int 3) (.cons (.int 8) (.cons (.int 20) .nil)))) (.call "_law_next" (.cons (.var 0) (.cons (.int 3) .nil)))) .nil)))) .nil))))
 (.cons (.asg (.nm 6) (.bi .max2 (.cons (.int 0) (.cons (.bin .sub (.bin .add (.var 5) (.call "_law_next" (.cons (.var 0) (.cons (.int 9) .nil)))) (.int 4)) .nil))))
 (.cons (.app 2 (.tup (.cons (.var 5) (.cons (.var 6) .nil))))
 (.cons (.asg (.nm 3) (.bin .sub (.bin .add (.var 3) (.var 6)) (.var 5)))
 (.cons (.frz 3)
 .nil)))))
def ir_path : Fn := ⟨2, ["_law_deck_here", "_law_most", "_law_found", "_law_at", "_law_k", "_law_need", "_law_leave"], (.cons (.asg (.nm 2) (.list .nil))
 (.cons (.asg (.nm 3) (.int 0))
 (.cons (.loop (.nm 4) (.rng1 (.call "_law_next" (.cons (.var 0) (.cons (.bin .add (.var 1) (.int 1)) .nil)))) b_path_0)
 (.cons (.ret (.bi .tuple (.cons (.var 2) .nil)))
 .nil))))⟩
def b_row_0 : Sxs := (.cons (.app 4 (.tup (.cons (.call "_law_number" (.cons (.var 0) .nil)) (.cons (.call "_law_number" (.cons (.var 0) .nil)) .nil))))
 .nil)
def ir_row : Fn := ⟨2, ["_law_deck_here", "_law_most", "_law_way", "_law_row_here", "_law_found", "_law_k"], (.cons (.asg (.nm 2) (.call "_law_next" (.cons (.var 0) (.cons (.int 3) .nil))))
 (.cons (.frz 2)
 (.cons (.ife (.cmp .eq (.var 2) (.int 0))
 (.cons (.ret (.call "_law_path" (.cons (.var 0) (.cons (.var 1) .nil))))
 .nil)
 .nil)
 (.cons (.ife (.cmp .eq (.var 2) (.int 1))
 (.cons (.asg (.nm 3) (.call "_law_path" (.cons (.var 0) (.cons (.bin .fdiv (.var 1) (.int 2)) .nil))))
 (.cons (.frz 3)
 (.cons (.ret (.bin .add (.var 3) (.var 3)))
 .nil)))
 .nil)
 (.cons (.asg (.nm 4) (.list .nil))
 (.cons (.loop (.nm 5) (.rng1 (.call "_law_next" (.cons (.var 0) (.cons (.bin .add (.var 1) (.int 1)) .nil)))) b_row_0)
 (.cons (.ret (.bi .tuple (.cons (.var 4) .nil)))
 .nil)))))))⟩
end Px.M
set_option Elab.async false
set_option linter.all false
set_option maxRecDepth 100000
set_option maxHeartbeats 1000000
namespace Px
open PySem L2
theorem eqD_int (i j : Int) : eqD (.int i) (.int j) = some (i == j) := by
  simp [eqD, D.toP, SeqAt.shaped, PyData.canLay0, PyData.depth, PyData.eqv]
theorem at0 {α : Type} (x : α) (l : List α) : atI (x :: l) 0 = some x := by simp [atI, ixN]
theorem at1 {α : Type} (x y : α) (l : List α) : atI (x :: y :: l) 1 = some y := by
  simp only [atI, ixN, List.length_cons]
  rw [if_pos (by omega), if_pos (by omega)]; rfl
theorem at2 {α : Type} (x y z : α) (l : List α) : atI (x :: y :: z :: l) 2 = some z := by
  simp only [atI, ixN, List.length_cons]
  rw [if_pos (by omega), if_pos (by omega)]; rfl
theorem at3 {α : Type} (x y z u : α) (l : List α) : atI (x :: y :: z :: u :: l) 3 = some u := by
  simp only [atI, ixN, List.length_cons]
  rw [if_pos (by omega), if_pos (by omega)]; rfl
theorem at_in {α : Type} {l : List α} {i : Int} (h0 : 0 ≤ i) (h1 : i < l.length) : ∃ x, l[i.toNat]? = some x ∧ atI l i = some x := by
  have hi : i.toNat < l.length := by omega
  refine ⟨l[i.toNat], List.getElem?_eq_getElem hi, ?_⟩
  simp only [atI, ixN]
  rw [if_pos h0, if_pos h1]
  exact List.getElem?_eq_getElem hi
theorem log2_lt {n k : Nat} (h : n < 2 ^ (k + 1)) : n.log2 ≤ k := by
  by_cases h0 : n = 0
  · subst h0; simp
  · have := (Nat.log2_lt h0).mpr h
    omega
theorem mul_small {i j : Int} (hi : i.natAbs < 2 ^ 250) (hj : j.natAbs < 2 ^ 250) : opBinD .mul (.int i) (.int j) = some (.val (.int (i * j))) := by
  rw [ob_mul, if_pos]
  have a := log2_lt (k := 249) hi
  have b := log2_lt (k := 249) hj
  omega
/-- the drawing's state -/
def StOk (S : Sto) : Prop := ∃ (cs : List Int) (b l bl : Int), S = [.lst [.lst (cs.map .int), .int b, .int l, .int bl]] ∧ (∀ c ∈ cs, 0 ≤ c) ∧ 0 ≤ b ∧ 0 ≤ l ∧ 0 ≤ bl ∧ bl < 2147483647
theorem StOk.mk {cs : List Int} {b l bl : Int} (h1 : ∀ c ∈ cs, 0 ≤ c) (h2 : 0 ≤ b) (h3 : 0 ≤ l) (h4 : 0 ≤ bl) (h5 : bl < 2147483647) : StOk [.lst [.lst (cs.map .int), .int b, .int l, .int bl]] := ⟨cs, b, l, bl, rfl, h1, h2, h3, h4, h5⟩
namespace L
variable {T : String → Option Fn} {G : String → Option D} {wf : Nat}
theorem take_ok (hT : T "_law_take" = some ir_take) {S : Sto} (h : StOk S) {m : Int} (h0 : 0 < m) (h1 : m ≤ 2 ^ 62) (n : Nat) :
    ∃ k S', callN T G wf (n + 1) "_law_take" [.ref 0, .int m] S = .ok (.val (.int k)) S' ∧ 0 ≤ k ∧ k < m ∧ StOk S' := by
  obtain ⟨cs, b, l, bl, rfl, hc, hb, hl, hbl, hbl2⟩ := h
  have hm : m.natAbs.log2 < 9000 := by
    have := log2_lt (n := m.natAbs) (k := 62) (by omega)
    omega
  rw [call_eq hT rfl]
  unfold ir_take
  have big : ∀ {x : Int}, 0 ≤ x → x < 2 ^ 40 → x.natAbs < 2 ^ 250 := fun h1 h2 => by omega
  have tail : ∀ x : Int, 0 ≤ x → x < 2 ^ 40 → opBinD .mul (.int x) (.int 48271) = some (.val (.int (x * 48271))) := fun x h1 h2 => mul_small (big h1 h2) (by omega)
  have fin : ∀ x : Int, 0 ≤ (x * 48271 + 30011) % 2147483647 ∧ (x * 48271 + 30011) % 2147483647 < 2147483647 := fun x => ⟨Int.emod_nonneg _ (by omega), Int.emod_lt_of_pos _ (by omega)⟩
  have tail2 : ∀ x : Int, opBinD .mul (.int ((x * 48271 + 30011) % 2147483647)) (.int ((x * 48271 + 30011) % 2147483647)) = some (.val (.int ((x * 48271 + 30011) % 2147483647 * ((x * 48271 + 30011) % 2147483647)))) := fun x => by
    obtain ⟨p, q⟩ := fin x
    exact mul_small (big p (by omega)) (big p (by omega))
  have modm : ∀ x : Int, 0 ≤ x % m ∧ x % m < m := fun x => ⟨Int.emod_nonneg _ (by omega), Int.emod_lt_of_pos _ h0⟩
  have l16 : Nat.log2 16 < 9000 := by decide
  by_cases c1 : l = 0 ∧ b < cs.length
  · obtain ⟨rfl, c1⟩ := c1
    have hbl' : b < (cs.map D.int).length := by simpa using c1
    obtain ⟨d, e1, e2⟩ := at_in hb hbl'
    rw [List.getElem?_map] at e1
    obtain ⟨x, e3, rfl⟩ := Option.map_eq_some_iff.mp e1
    have hx : 0 ≤ x := hc x (List.mem_of_getElem? e3)
    by_cases c2 : 1000000000000000000 ≤ x
    · have hx0 : 0 < x := by omega
      simp [eqD_int, setD, ixN, lstAt, chg, c1, e2, ob_pow, c2, hx0, hm, h0]
      exact ⟨_, _, ⟨rfl, rfl⟩, (modm _).1, (modm _).2, StOk.mk hc (by omega) (Int.ediv_nonneg hx (by omega)) hbl hbl2⟩
    · have y0 : 0 ≤ x % 2147483629 := Int.emod_nonneg _ (by omega)
      have y1 : x % 2147483629 < 2147483629 := Int.emod_lt_of_pos _ (by omega)
      simp [eqD_int, setD, ixN, lstAt, chg, c1, e2, ob_pow, c2, hm, h0, tail (bl + x % 2147483629) (by omega) (by omega), tail2, l16]
      exact ⟨_, _, ⟨rfl, rfl⟩, (modm _).1, (modm _).2, StOk.mk hc (by omega) (by omega) (fin _).1 (fin _).2⟩
  · by_cases c3 : 0 < l
    · have c4 : ¬ l = 0 := by omega
      simp [eqD_int, setD, ixN, lstAt, chg, c4, c3, hm, h0]
      exact ⟨_, _, ⟨rfl, rfl⟩, (modm _).1, (modm _).2, StOk.mk hc hb (Int.ediv_nonneg hl (by omega)) hbl hbl2⟩
    · obtain rfl : l = 0 := by omega
      have c5 : ¬ b < cs.length := fun z => c1 ⟨rfl, z⟩
      simp [eqD_int, setD, ixN, lstAt, chg, c5, hm, h0, tail bl hbl (by omega), tail2, l16]
      exact ⟨_, _, ⟨rfl, rfl⟩, (modm _).1, (modm _).2, StOk.mk hc hb (by omega) (fin _).1 (fin _).2⟩
/-- a number that is drawn -/
def NumOk (k : Int) : Prop := 0 ≤ k ∧ k < 10 ^ 40
theorem number_ok (hT : T "_law_take" = some ir_take) (hN : T "_law_number" = some ir_number) {S : Sto} (h : StOk S) (n : Nat) :
    ∃ k S', callN T G wf (n + 2) "_law_number" [.ref 0] S = .ok (.val (.int k)) S' ∧ NumOk k ∧ StOk S' := by
  rw [call_eq hN rfl]
  unfold ir_number
  obtain ⟨w, S1, e1, w0, w1, h1⟩ := take_ok (G := G) (wf := wf) hT h (m := 16) (by decide) (by decide) n
  by_cases c1 : w = 0
  · subst c1
    simp [e1, eqD_int]
    exact ⟨_, _, ⟨rfl, rfl⟩, ⟨by omega, by omega⟩, h1⟩
  by_cases c2 : w < 12
  · obtain ⟨k, S2, e2, k0, k1, h2⟩ := take_ok (G := G) (wf := wf) hT h1 (m := 10) (by decide) (by decide) n
    simp [e1, eqD_int, c1, c2, e2]
    exact ⟨_, _, ⟨rfl, rfl⟩, ⟨by omega, by omega⟩, h2⟩
  by_cases c3 : w < 15
  · obtain ⟨k, S2, e2, k0, k1, h2⟩ := take_ok (G := G) (wf := wf) hT h1 (m := 41) (by decide) (by decide) n
    simp [e1, eqD_int, c1, c2, c3, e2]
    exact ⟨_, _, ⟨rfl, rfl⟩, ⟨by omega, by omega⟩, h2⟩
  obtain ⟨k, S2, e2, k0, k1, h2⟩ := take_ok (G := G) (wf := wf) hT h1 (m := 4) (by decide) (by decide) n
  obtain ⟨j, S3, e3, j0, j1, h3⟩ := take_ok (G := G) (wf := wf) hT h2 (m := 3) (by decide) (by decide) n
  have hk : k = 0 ∨ k = 1 ∨ k = 2 ∨ k = 3 := by omega
  rcases hk with rfl | rfl | rfl | rfl <;> simp [e1, eqD_int, c1, c2, c3, e2, e3, ob_pow, at0, at1, at2, at3, sizeLine] <;> exact ⟨_, _, ⟨rfl, rfl⟩, ⟨by omega, by omega⟩, h3⟩
/-- a pair as data -/
def pD (p : Int × Int) : D := .tup [.int p.1, .int p.2]
def PairOk (p : Int × Int) : Prop := NumOk p.1 ∧ NumOk p.2
theorem pair_ok (hT : T "_law_take" = some ir_take) (hN : T "_law_number" = some ir_number) (hP : T "_law_pair" = some ir_pair) {S : Sto} (h : StOk S) (n : Nat) :
    ∃ p S', callN T G wf (n + 3) "_law_pair" [.ref 0] S = .ok (.val (pD p)) S' ∧ PairOk p ∧ StOk S' := by
  rw [call_eq hP rfl]
  unfold ir_pair
  obtain ⟨w, S1, e1, w0, w1, h1⟩ := take_ok (G := G) (wf := wf) hT h (m := 4) (by decide) (by decide) (n + 1)
  by_cases c1 : w = 0
  · subst c1
    obtain ⟨a, S2, e2, a1, h2⟩ := number_ok (G := G) (wf := wf) hT hN h1 n
    obtain ⟨b, S3, e3, b1, h3⟩ := number_ok (G := G) (wf := wf) hT hN h2 n
    simp [e1, eqD_int, e2, e3, sizeLine]
    exact ⟨a, b, _, ⟨rfl, rfl⟩, ⟨a1, b1⟩, h3⟩
  · obtain ⟨a, S2, e2, a0, a1, h2⟩ := take_ok (G := G) (wf := wf) hT h1 (m := 12) (by decide) (by decide) (n + 1)
    obtain ⟨b, S3, e3, b0, b1, h3⟩ := take_ok (G := G) (wf := wf) hT h2 (m := 9) (by decide) (by decide) (n + 1)
    simp [e1, eqD_int, c1, e2, e3, sizeLine]
    have q : NumOk (if 4 < a + b then a + b - 4 else 0) := by
      unfold NumOk
      split <;> omega
    exact ⟨_, _, _, ⟨rfl, rfl⟩, ⟨⟨a0, by show a < _; omega⟩, q⟩, h3⟩
end L
end Px
set_option Elab.async false
set_option linter.all false
set_option maxRecDepth 100000
set_option maxHeartbeats 1000000
namespace Px
open PySem L2
/-- a for loop that never leaves early, by an invariant -/
theorem loop_inv {t : Tg} {b : Slots → Sto → Res (Fl × Slots)} (I : Nat → Slots → Sto → Prop) : ∀ (items : List D) (k : Nat) (sl : Slots) (S : Sto), I k sl S →
    (∀ i x sl S, items[i]? = some x → I (k + i) sl S → ∃ sl1 sl2 S2, bindT t x sl = some sl1 ∧ b sl1 S = .ok (.nx, sl2) S2 ∧ I (k + i + 1) sl2 S2) →
    ∃ sl' S', loopL t b items sl S = .ok (.nx, sl') S' ∧ I (k + items.length) sl' S'
  | [], k, sl, S, h, _ => ⟨sl, S, rfl, h⟩
  | x :: xs, k, sl, S, h, step => by
    obtain ⟨sl1, sl2, S2, e1, e2, h2⟩ := step 0 x sl S rfl h
    obtain ⟨sl', S', e3, h3⟩ := loop_inv I xs (k + 1) sl2 S2 h2 fun i y sl S hy hI => by
      have q := step (i + 1) y sl S (by simpa using hy)
      rw [show k + 1 + i = k + (i + 1) by omega] at hI ⊢
      exact q hI
    refine ⟨sl', S', ?_, by rw [List.length_cons]; rw [show k + 1 + xs.length = k + (xs.length + 1) by omega] at h3; exact h3⟩
    unfold loopL
    rw [e1]
    show (b sl1 S).bind _ = _
    rw [e2]
    exact e3
theorem loop_inv0 {t : Tg} {b : Slots → Sto → Res (Fl × Slots)} (I : Nat → Slots → Sto → Prop) {items : List D} {sl : Slots} {S : Sto} (h : I 0 sl S)
    (step : ∀ i x sl S, items[i]? = some x → I i sl S → ∃ sl1 sl2 S2, bindT t x sl = some sl1 ∧ b sl1 S = .ok (.nx, sl2) S2 ∧ I (i + 1) sl2 S2) :
    ∃ sl' S', loopL t b items sl S = .ok (.nx, sl') S' ∧ I items.length sl' S' := by
  have q := loop_inv (t := t) (b := b) I items 0 sl S h fun i x sl S e hI => by
    rw [Nat.zero_add] at hI ⊢
    exact step i x sl S e hI
  rw [Nat.zero_add] at q
  exact q
theorem rng_len (lo : Int) (n : Nat) : (rngD lo n).length = n := by simp [rngD]
theorem rng_get {lo : Int} {n i : Nat} {x : D} (h : (rngD lo n)[i]? = some x) : x = .int (lo + (i : Int)) ∧ i < n := by
  unfold rngD at h
  rw [List.getElem?_map] at h
  obtain ⟨j, e, rfl⟩ := Option.map_eq_some_iff.mp h
  obtain ⟨hi, e⟩ := List.getElem?_eq_some_iff.mp e
  rw [List.getElem_range] at e
  rw [List.length_range] at hi
  exact ⟨by rw [e], hi⟩
theorem ixN_in {n : Nat} {i : Int} (h0 : 0 ≤ i) (h1 : i < n) : ixN n i = some i.toNat := by
  unfold ixN
  rw [if_pos h0, if_pos h1]
theorem small_of {i : Int} (h0 : 0 ≤ i) (h1 : i < 2 ^ 62) : small62 i = true := by
  unfold small62
  rw [Bool.and_eq_true]
  exact ⟨decide_eq_true (by omega), decide_eq_true h1⟩
theorem at_map {α : Type} {f : α → D} {l : List α} {i : Int} (h0 : 0 ≤ i) (h1 : i < l.length) : ∃ x ∈ l, l[i.toNat]? = some x ∧ atI (l.map f) i = some (f x) := by
  obtain ⟨d, e1, e2⟩ := at_in (l := l.map f) h0 (by simpa using h1)
  rw [List.getElem?_map] at e1
  obtain ⟨x, e3, rfl⟩ := Option.map_eq_some_iff.mp e1
  exact ⟨x, List.mem_of_getElem? e3, e3, e2⟩
namespace L
variable {T : String → Option Fn} {G : String → Option D} {wf : Nat}
def RowOk (ps : List (Int × Int)) : Prop := ∀ p ∈ ps, PairOk p
theorem row_step (hT : T "_law_take" = some ir_take) (hN : T "_law_number" = some ir_number) (hP : T "_law_pair" = some ir_pair) {S : Sto} (hS : StOk S) {m : Int} {i : Nat} (hi : i ≤ 10000) {ps : List (Int × Int)} (hps : RowOk ps) (hl : ps.length = i) {x : Slot} (n : Nat) :
    ∃ sl1 sl2 S2, bindT (.nm 3) (.int i) [.val (.ref 0), .val (.int m), .own (.lst (ps.map pD)), x] = some sl1 ∧ exB ⟨callN T G wf (n + 3), G, wf⟩ b_row_0 sl1 S = .ok (.nx, sl2) S2 ∧
      ∃ (ps : List (Int × Int)) (x : Slot), sl2 = [.val (.ref 0), .val (.int m), .own (.lst (ps.map pD)), x] ∧ RowOk ps ∧ ps.length = i + 1 ∧ StOk S2 := by
  obtain ⟨p, S2, e2, hp, h2⟩ := pair_ok (G := G) (wf := wf) hT hN hP hS n
  obtain ⟨w, S3, e3, w0, w1, h3⟩ := take_ok (G := G) (wf := wf) hT h2 (m := 5) (by decide) (by decide) (n + 2)
  have hps' : RowOk (ps ++ [p]) := fun q hq => by
    rcases List.mem_append.mp hq with hq | hq
    · exact hps q hq
    · rw [List.mem_singleton] at hq; subst hq; exact hp
  have el : (ps ++ [p]).length = i + 1 := by rw [List.length_append, hl]; rfl
  have eapp : ps.map pD ++ [pD p] = (ps ++ [p]).map pD := by rw [List.map_append]; rfl
  have hsz : ps.length < 16777216 := by omega
  by_cases c : w = 0
  · subst c
    obtain ⟨j, S4, e4, j0, j1, h4⟩ := take_ok (G := G) (wf := wf) hT h3 (m := (i : Int) + 1) (by omega) (by omega) (n + 2)
    obtain ⟨q, hq, _, e5⟩ := at_map (f := pD) (l := ps ++ [p]) j0 (by rw [el]; omega)
    have e6 := ixN_in (n := (ps ++ [p]).length) (i := (i : Int)) (by omega) (by rw [el]; omega)
    refine ⟨_, [.val (.ref 0), .val (.int m), .own (.lst (((ps ++ [p]).set i q).map pD)), .val (.int i)], S4, rfl, ?_, (ps ++ [p]).set i q, _, rfl, fun z hz => ?_, by rw [List.length_set]; exact el, h4⟩
    · unfold b_row_0
      rw [List.map_append] at e5
      rw [List.length_append] at e6
      simp at e5 e6
      simp [e2, e3, eqD_int, e4, e5, e6, lstAt, chg, setD, appD, hsz, sizeLine]
    · rcases List.mem_or_eq_of_mem_set hz with hz | rfl
      · exact hps' z hz
      · exact hps' z hq
  · refine ⟨_, [.val (.ref 0), .val (.int m), .own (.lst ((ps ++ [p]).map pD)), .val (.int i)], S3, rfl, ?_, (ps ++ [p]), _, rfl, hps', el, h3⟩
    unfold b_row_0
    simp [e3, eqD_int, lstAt, chg, setD, appD, e2, c, hsz, sizeLine]
theorem row_ok (hT : T "_law_take" = some ir_take) (hN : T "_law_number" = some ir_number) (hP : T "_law_pair" = some ir_pair) (hR : T "_law_row" = some ir_row) {S : Sto} (h : StOk S) {m : Int} (m0 : 0 ≤ m) (m1 : m ≤ 10000) (n : Nat) :
    ∃ ps S', callN T G wf (n + 4) "_law_row" [.ref 0, .int m] S = .ok (.val (.tup (ps.map pD))) S' ∧ RowOk ps ∧ (ps.length : Int) ≤ m ∧ StOk S' := by
  rw [call_eq hR rfl]
  unfold ir_row
  obtain ⟨k, S1, e1, k0, k1, h1⟩ := take_ok (G := G) (wf := wf) hT h (m := m + 1) (by omega) (by omega) (n + 2)
  have sk : small62 k = true := small_of k0 (by omega)
  obtain ⟨sl', S', e2, ps, x, rfl, hps, hl, h2⟩ := loop_inv0 (t := .nm 3) (b := exB ⟨callN T G wf (n + 3), G, wf⟩ b_row_0) (items := rngD 0 k.toNat) (sl := [.val (.ref 0), .val (.int m), .own (.lst []), .emp]) (S := S1)
    (fun i sl S => ∃ (ps : List (Int × Int)) (x : Slot), sl = [.val (.ref 0), .val (.int m), .own (.lst (ps.map pD)), x] ∧ RowOk ps ∧ ps.length = i ∧ StOk S) ⟨[], .emp, rfl, (fun p hp => nomatch hp), rfl, h1⟩ (by
      rintro i y sl S hy ⟨ps, x, rfl, hps, hl, hS⟩
      obtain ⟨rfl, hi⟩ := rng_get hy
      rw [Int.zero_add]
      exact row_step hT hN hP hS (by omega) hps hl n)
  rw [rng_len] at hl
  simp [e1, sk, sizeLine, e2]
  exact ⟨ps, ⟨_, ⟨rfl, rfl⟩, hps, by omega, h2⟩⟩
end L
section
variable {F : Cf} {own : List (String × Nat)} {tg : Tg} {it : Itx} {c elt : Ex} {sl : Slots} {S S1 : Sto} {items : List D}
theorem compL_filter {f : D → List D → Sto → Res (List D)} (p : D → Bool) (g : D → D) : ∀ (items acc : List D), acc.length + items.length ≤ sizeLine → (∀ x ∈ items, ∀ acc, f x acc S = if p x then addL acc (g x) S else .ok acc S) →
    compL f items acc S = .ok (acc ++ (items.filter p).map g) S
  | [], acc, _, _ => by simp [compL]
  | x :: xs, acc, hl, h => by
    rw [List.length_cons] at hl
    unfold compL
    rw [h x List.mem_cons_self]
    cases e : p x with
    | true =>
      rw [if_pos rfl]
      unfold addL
      rw [if_pos (by omega), Res.bind_ok, compL_filter p g xs _ (by rw [List.length_append]; simp; omega) fun y hy => h y (List.mem_cons_of_mem _ hy)]
      simp [e]
    | false =>
      rw [if_neg (by simp), Res.bind_ok, compL_filter p g xs _ (by omega) fun y hy => h y (List.mem_cons_of_mem _ hy)]
      simp [e]
theorem ev_comp_filter (p : D → Bool) (g : D → D) (hi : evI F it sl S = .ok items S1) (hn : items.length ≤ sizeLine)
    (h : ∀ x ∈ items, ∃ sl2, bindT tg x (wipeS sl (own.map (·.2))) = some sl2 ∧ evE F c sl2 S1 = .ok (.val (.bl (p x))) S1 ∧ (p x = true → (evE F elt sl2 S1).data = .ok (g x) S1)) :
    evE F (.comp own tg it c elt) sl S = .ok (.fresh (.lst ((items.filter p).map g))) S1 := by
  unfold evE
  rw [hi, Res.bind_ok, compL_filter p g items [] (by simpa using hn) fun x hx acc => ?_]
  · rfl
  · obtain ⟨sl2, e1, e2, e3⟩ := h x hx
    rw [e1]
    show (evE F c sl2 S1).truth.bind _ = _
    rw [e2]
    show (if p x = true then _ else _) = _
    cases e : p x with
    | true =>
      rw [if_pos rfl, if_pos rfl, e3 e]
      rfl
    | false => rw [if_neg (by simp), if_neg (by simp)]
theorem ev_comp_none (hi : evI F it sl S = .ok items S1) (hn : items.length ≤ sizeLine) (h : ∀ x ∈ items, ∃ sl2, bindT tg x (wipeS sl (own.map (·.2))) = some sl2 ∧ evE F c sl2 S1 = .ok (.val (.bl false)) S1) :
    evE F (.comp own tg it c elt) sl S = .ok (.fresh (.lst [])) S1 := by
  rw [ev_comp_filter (fun _ => false) id hi hn fun x hx => ?_]
  · simp
  · obtain ⟨sl2, e1, e2⟩ := h x hx
    exact ⟨sl2, e1, e2, fun z => nomatch z⟩
theorem ev_comp_map (g : D → D) (hi : evI F it sl S = .ok items S1) (hn : items.length ≤ sizeLine)
    (h : ∀ x ∈ items, ∃ sl2, bindT tg x (wipeS sl (own.map (·.2))) = some sl2 ∧ evE F c sl2 S1 = .ok (.val (.bl true)) S1 ∧ (evE F elt sl2 S1).data = .ok (g x) S1) :
    evE F (.comp own tg it c elt) sl S = .ok (.fresh (.lst (items.map g))) S1 := by
  rw [ev_comp_filter (fun _ => true) g hi hn fun x hx => ?_]
  · rw [List.filter_eq_self.mpr fun _ _ => rfl]
  · obtain ⟨sl2, e1, e2, e3⟩ := h x hx
    exact ⟨sl2, e1, e2, fun _ => e3⟩
end
@[simp] theorem wipe_nil (sl : Slots) : wipeS sl [] = sl := rfl
@[simp] theorem wipe_cons (sl : Slots) (v : Nat) (vs : List Nat) : wipeS sl (v :: vs) = (wipeS sl vs).set v .emp := rfl
@[simp] theorem hide_nil : hideS [] = [] := rfl
@[simp] theorem hide_val (d : D) (l : Slots) : hideS (.val d :: l) = .val d :: hideS l := rfl
@[simp] theorem hide_emp (l : Slots) : hideS (.emp :: l) = .emp :: hideS l := rfl
@[simp] theorem hide_own (c : Cn) (l : Slots) : hideS (.own c :: l) = .emp :: hideS l := rfl
theorem eqD_nil : eqD (.lst []) (.lst []) = some true := by
  simp [eqD, D.toP, D.toPs, SeqAt.shaped, PyData.canLay0, PyData.canLayAll0, PyData.depth, PyData.depthAll, PyData.eqv, PyData.eqvAll]
@[simp] theorem isin_tt (xs : List D) : isIn (.tup xs) [.tuple] = true := rfl
@[simp] theorem isin_it (i : Int) : isIn (.int i) [.tuple] = false := rfl
@[simp] theorem isin_ib (i : Int) : isIn (.int i) [.bool] = false := rfl
@[simp] theorem isin_is (i : Int) : isIn (.int i) [.str] = false := rfl
@[simp] theorem isin_ii (i : Int) : isIn (.int i) [.int] = true := rfl
@[simp] theorem isin_nt : isIn .non [.tuple] = false := rfl
@[simp] theorem isin_ni : isIn .non [.int] = false := rfl
@[simp] theorem isin_nb : isIn .non [.bool] = false := rfl
@[simp] theorem isin_bt (b : Bool) : isIn (.bl b) [.tuple] = false := rfl
@[simp] theorem isin_bb (b : Bool) : isIn (.bl b) [.bool] = true := rfl
@[simp] theorem isin_bi (b : Bool) : isIn (.bl b) [.int] = true := rfl
@[simp] theorem isin_tb (xs : List D) : isIn (.tup xs) [.bool] = false := rfl
@[simp] theorem isin_ti (xs : List D) : isIn (.tup xs) [.int] = false := rfl
@[simp] theorem isin_ts (xs : List D) : isIn (.tup xs) [.str] = false := rfl
namespace L
variable {T : String → Option Fn} {G : String → Option D} {wf : Nat}
/-- the law's comparison finds d like itself -/
def Al (T : String → Option Fn) (G : String → Option D) (wf n : Nat) (d : D) : Prop := ∀ S, callN T G wf n "_law_alike" [d, d] S = .ok (.val (.bl true)) S
theorem al_int (hA : T "_law_alike" = some ir_alike) (n : Nat) (i : Int) : Al T G wf (n + 1) (.int i) := fun S => by
  rw [call_eq hA rfl]
  unfold ir_alike
  simp [eqD_int]
theorem al_tup (hA : T "_law_alike" = some ir_alike) (n : Nat) {xs : List D} (h : ∀ x ∈ xs, Al T G wf n x) (hl : xs.length ≤ sizeLine) : Al T G wf (n + 1) (.tup xs) := fun S => by
  rw [call_eq hA rfl]
  have hl' : xs.length ≤ 16777216 := by simpa [sizeLine] using hl
  have key : evE ⟨callN T G wf n, G, wf⟩ c_alike_0 [.val (.tup xs), .val (.tup xs), .emp] S = .ok (.fresh (.lst [])) S := by
    unfold c_alike_0
    refine ev_comp_none (items := rngD 0 xs.length) ?_ (by rw [rng_len]; exact hl) fun x hx => ?_
    · simp -implicitDefEqProofs [small_of (i := (xs.length : Int)) (by omega) (by omega)]
    · obtain ⟨i, hi⟩ := List.getElem?_of_mem hx
      obtain ⟨rfl, hi⟩ := rng_get hi
      obtain ⟨d, e1, e2⟩ := at_in (l := xs) (i := 0 + (i : Int)) (by omega) (by omega)
      refine ⟨_, rfl, ?_⟩
      have e3 := h d (List.mem_of_getElem? e1) S
      simp at e2
      simp -implicitDefEqProofs [e2, e3]
  unfold ir_alike
  simp -implicitDefEqProofs [eqD_int, key, eqD_nil]
end L
end Px
set_option Elab.async false
set_option linter.all false
set_option maxRecDepth 100000
set_option maxHeartbeats 1000000
namespace Px
open PySem L2 L
theorem char_lt (c : Char) : c.toNat < 0x110000 := by
  have h : c.val.toNat.isValidChar := c.valid
  show c.val.toNat < 0x110000
  rcases h with h | ⟨_, h⟩
  · omega
  · exact h
theorem ok_of {x : Str} (h : ∀ c ∈ x.cps.toList, c < 0x110000) : PyData.strOk x = true := by
  show x.cps.all (· < 0x110000) = true
  rw [← Array.all_toList, List.all_eq_true]
  exact fun c hc => decide_eq_true (h c hc)
theorem of_ok {x : Str} (h : PyData.strOk x = true) : ∀ c ∈ x.cps.toList, c < 0x110000 := by
  have h' : x.cps.all (· < 0x110000) = true := h
  rw [← Array.all_toList, List.all_eq_true] at h'
  exact fun c hc => of_decide_eq_true (h' c hc)
theorem ok_str (s : String) : PyData.strOk (Str.ofString s) = true := by
  refine ok_of fun c hc => ?_
  rw [Str.ofString_eq_toList] at hc
  have hc' : c ∈ s.toList.map Char.toNat := by simpa using hc
  obtain ⟨x, _, rfl⟩ := List.mem_map.mp hc'
  exact char_lt x
theorem ok_app {a b : Str} (ha : PyData.strOk a = true) (hb : PyData.strOk b = true) : PyData.strOk (a ++ b) = true := by
  refine ok_of fun c hc => ?_
  have hc' : c ∈ (a.cps ++ b.cps).toList := hc
  rw [Array.toList_append, List.mem_append] at hc'
  exact hc'.elim (of_ok ha c) (of_ok hb c)
theorem ok_join : ∀ {ts : List Str}, (∀ t ∈ ts, PyData.strOk t = true) → PyData.strOk (Str.join ", " ts) = true
  | [], _ => ok_str ""
  | [x], h => h x List.mem_cons_self
  | x :: y :: r, h => by
    show PyData.strOk (x ++ ", " ++ Str.join ", " (y :: r)) = true
    exact ok_app (ok_app (h x List.mem_cons_self) (ok_str ", ")) (ok_join fun t ht => h t (List.mem_cons_of_mem _ ht))
theorem ok_tuple {ts : List Str} (h : ∀ t ∈ ts, PyData.strOk t = true) : PyData.strOk (tupleText ts) = true := by
  unfold tupleText
  exact ok_app (ok_app (ok_str "(") (ok_join h)) (ok_str _)
/-- small data: what repr needs -/
structure Shw (d : D) (k w : Nat) : Prop where
  lv : d.toP.leavesShort 45 = true
  sh : d.toP.showable = true
  cl : d.toP.canLay0 = true
  dp : d.toP.depth ≤ k
  wt : d.toP.weight ≤ w
  ok : PyData.strOk d.toP.shown = true
theorem Shw.repr {d : D} {k w : Nat} (h : Shw d k w) (hk : k ≤ 64) (hw : w ≤ 350000) : opBi .repr [.val d] = some (.val (.str d.toP.shown)) := by
  have h1 := PyData.shown_le 45 (by decide) d.toP h.lv
  have h2 : (45 + 2) * d.toP.weight ≤ 47 * 350000 := Nat.mul_le_mul_left _ (Nat.le_trans h.wt hw)
  have h3 : d.toP.shown.length ≤ sizeLine := by
    rw [show sizeLine = 16777216 by unfold sizeLine; decide]
    omega
  show (if _ then _ else _) = _
  rw [if_pos ⟨h.sh, h.cl, Nat.le_trans h.dp hk, h3⟩]
  rfl
theorem shw_int {i : Int} (h : i.natAbs < 10 ^ 44) : Shw (.int i) 0 147 := by
  have e : (PyData.shown (.int i)).length ≤ 45 := by
    have e := PySem.int_text_length_le10 (k := 44) (by decide) h
    show (Str.ofString (toString i)).length ≤ 45
    rw [ofString_length]; exact e
  have l : i.natAbs.log2 ≤ 146 := log2_lt (k := 146) (by omega)
  refine ⟨by simpa [D.toP, PyData.leavesShort] using e, ?_, rfl, Nat.le_refl _, ?_, ?_⟩
  · show decide (i.natAbs.log2 < 1920) = true
    exact decide_eq_true (by omega)
  · show (if i == 0 then 0 else i.natAbs.log2 + 1) ≤ 147
    split <;> omega
  · exact ok_str (toString i)
theorem shown_mem : ∀ {xs : List D} {t : Str}, t ∈ PyData.shownAll (D.toPs xs) → ∃ x ∈ xs, t = x.toP.shown
  | [], t, h => nomatch h
  | x :: xs, t, h => by
    simp only [D.toPs, PyData.shownAll, List.mem_cons] at h
    rcases h with rfl | h
    · exact ⟨x, List.mem_cons_self, rfl⟩
    · obtain ⟨y, hy, e⟩ := shown_mem h
      exact ⟨y, List.mem_cons_of_mem _ hy, e⟩
theorem shw_all : ∀ {xs : List D} {k w : Nat}, (∀ x ∈ xs, Shw x k w) → PyData.leavesShortAll 45 (D.toPs xs) = true ∧ PyData.showableAll (D.toPs xs) = true ∧ PyData.canLayAll0 (D.toPs xs) = true ∧ PyData.depthAll (D.toPs xs) ≤ k ∧ PyData.weightAll (D.toPs xs) ≤ (w + 1) * xs.length
  | [], k, w, _ => ⟨rfl, rfl, rfl, Nat.zero_le _, Nat.zero_le _⟩
  | x :: xs, k, w, h => by
    obtain ⟨a, b, c, d, e⟩ := shw_all (xs := xs) fun y hy => h y (List.mem_cons_of_mem _ hy)
    have hx := h x List.mem_cons_self
    refine ⟨?_, ?_, ?_, ?_, ?_⟩
    · simp only [D.toPs, PyData.leavesShortAll, hx.lv, a, Bool.and_self]
    · simp only [D.toPs, PyData.showableAll, hx.sh, b, Bool.and_self]
    · simp only [D.toPs, PyData.canLayAll0, hx.cl, c, Bool.and_self]
    · simp only [D.toPs, PyData.depthAll]
      exact Nat.max_le.mpr ⟨hx.dp, d⟩
    · simp only [D.toPs, PyData.weightAll, List.length_cons]
      have q := hx.wt
      rw [Nat.mul_add, Nat.mul_one]
      omega
theorem shw_tup {xs : List D} {k w n : Nat} (h : ∀ x ∈ xs, Shw x k w) (hn : xs.length ≤ n) : Shw (.tup xs) (k + 1) ((w + 1) * n) := by
  obtain ⟨a, b, c, d, e⟩ := shw_all h
  refine ⟨by simpa [D.toP, PyData.leavesShort] using a, by simpa [D.toP, PyData.showable] using b, by simpa [D.toP, PyData.canLay0] using c, ?_, ?_, ?_⟩
  · simp only [D.toP, PyData.depth]; omega
  · simp only [D.toP, PyData.weight]
    exact Nat.le_trans e (Nat.mul_le_mul_left _ hn)
  · simp only [D.toP, PyData.shown]
    refine ok_tuple fun t ht => ?_
    obtain ⟨x, hx, rfl⟩ := shown_mem ht
    exact (h x hx).ok
theorem shw_pair {p : Int × Int} (h : PairOk p) : Shw (pD p) 1 296 := by
  have q : ∀ x ∈ [D.int p.1, D.int p.2], Shw x 0 147 := fun x hx => by
    obtain ⟨⟨a, b⟩, c, d⟩ := h
    simp only [List.mem_cons, List.not_mem_nil, or_false] at hx
    rcases hx with rfl | rfl
    · exact shw_int (by omega)
    · exact shw_int (by omega)
  exact shw_tup q (Nat.le_refl 2)
theorem shw_row {ps : List (Int × Int)} (h : L.RowOk ps) {n : Nat} (hn : ps.length ≤ n) : Shw (.tup (ps.map pD)) 2 (297 * n) :=
  shw_tup (k := 1) (w := 296) (fun x hx => by
    obtain ⟨p, hp, rfl⟩ := List.mem_map.mp hx
    exact shw_pair (h p hp)) (by simpa using hn)
theorem eqD_str {a b : Str} (ha : PyData.strOk a = true) (hb : PyData.strOk b = true) : eqD (.str a) (.str b) = some (a == b) := by
  simp [eqD, D.toP, SeqAt.shaped, PyData.canLay0, PyData.depth, PyData.eqv, ha, hb]
theorem eqD_strSelf {a : Str} (ha : PyData.strOk a = true) : eqD (.str a) (.str a) = some true := by
  rw [eqD_str ha ha]
  simp
def gn (p : Int × Int) : Int := p.2 - p.1
def jn (p q : Int × Int) : Int × Int := ((if q.1 - gn p > p.1 then q.1 - gn p else p.1), (if q.1 - gn p > p.1 then q.1 - gn p else p.1) + gn p + gn q)
def whl (ps : List (Int × Int)) : Int × Int := ps.foldl jn (0, 0)
theorem slc_map {α β : Type} (f : α → β) (l : List α) (a b : Option Int) : slc (l.map f) a b = (slc l a b).map f := by
  unfold slc
  rw [List.length_map, List.map_take, List.map_drop]
theorem slc_to {α : Type} (l : List α) {k : Nat} : slc l none (some (k : Int)) = l.take k := by
  unfold slc
  rw [HT.sIx_none, HT.sIx_nat, List.drop_zero, Nat.sub_zero]
  by_cases h : k ≤ l.length
  · rw [Nat.min_eq_left h]
  · rw [Nat.min_eq_right (by omega), List.take_of_length_le (Nat.le_refl _), List.take_of_length_le (by omega)]
namespace L
end L
end Px
set_option Elab.async false
set_option linter.all false
set_option maxRecDepth 100000
set_option maxHeartbeats 1000000
namespace Px
open PySem L2
namespace L
def c_stream : Ex := .comp [("_law_cell", 1)] (.nm 1) (.val (.sl (.var 0) .no (.yes (.int 63)))) .nop (.bi .abs (.cons (.var 1) .nil))
def ir_stream (z : Int) : Fn := ⟨1, ["_law_script", "_law_cell"], (.cons (.ret (.list (.cons c_stream (.cons (.int 0) (.cons (.int 0) (.cons (.bin .add (.int z) (.bi .len (.cons (.var 0) .nil))) .nil)))))) .nil)⟩
variable {T : String → Option Fn} {G : String → Option D} {wf : Nat}
def absI (i : Int) : Int := if i < 0 then -i else i
def absD : D → D
  | .int i => .int (absI i)
  | d => d
theorem stream_ok {z : Int} (hT : T "_law_stream" = some (ir_stream z)) (hz : 0 ≤ z) (hz2 : z < 1000000) {ns : List Int} (hn : ns.length ≤ 63) (n : Nat) (S : Sto) :
    ∃ c : List D, callN T G wf (n + 1) "_law_stream" [.scr (ns.map .int)] S = .ok (.fresh (.lst c)) S ∧ StOk [.lst c] := by
  have key : evE ⟨callN T G wf n, G, wf⟩ c_stream [.val (.scr (ns.map .int)), .emp] S = .ok (.fresh (.lst ((ns.map absI).map .int))) S := by
    unfold c_stream
    rw [ev_comp_map (items := ns.map D.int) absD ?_ ?_ fun x hx => ?_]
    · rw [List.map_map, List.map_map]; rfl
    · have e : slc (ns.map D.int) none (some 63) = ns.map D.int := by
        rw [show (some (63 : Int)) = some ((63 : Nat) : Int) from rfl, slc_to, List.take_of_length_le (by rw [List.length_map]; exact hn)]
      simp -implicitDefEqProofs [e]
    · rw [List.length_map]
      exact Nat.le_trans hn (by unfold sizeLine; decide)
    · obtain ⟨i, _, rfl⟩ := List.mem_map.mp hx
      refine ⟨_, rfl, rfl, ?_⟩
      simp -implicitDefEqProofs [absD, absI]
  refine ⟨_, ?_, StOk.mk (cs := ns.map absI) (b := 0) (l := 0) (bl := z + (ns.length : Int)) (fun c hc => ?_) (Int.le_refl _) (Int.le_refl _) (by omega) (by omega)⟩
  · rw [call_eq hT rfl]
    unfold ir_stream
    simp -implicitDefEqProofs [key]
  · obtain ⟨i, _, rfl⟩ := List.mem_map.mp hc
    unfold absI
    split <;> omega
end L
end Px
set_option Elab.async false
set_option linter.all false
set_option maxRecDepth 100000
set_option maxHeartbeats 1000000
namespace Px
open PySem L2 L
theorem gn_jn (p q : Int × Int) : gn (jn p q) = gn p + gn q := by unfold jn gn; simp; omega
theorem jn_fst (p q : Int × Int) : (jn p q).1 = if q.1 - gn p > p.1 then q.1 - gn p else p.1 := rfl
theorem pair_ext {p q : Int × Int} (h1 : p.1 = q.1) (h2 : gn p = gn q) : p = q := by
  obtain ⟨a, b⟩ := p
  obtain ⟨c, d⟩ := q
  unfold gn at h2
  simp only [] at *
  subst h1
  have : b = d := by omega
  rw [this]
theorem jn_assoc (p q r : Int × Int) : jn (jn p q) r = jn p (jn q r) := by
  refine pair_ext ?_ (by rw [gn_jn, gn_jn, gn_jn, gn_jn]; omega)
  rw [jn_fst, jn_fst, jn_fst, jn_fst, gn_jn]
  split <;> split <;> split <;> (try split) <;> omega
theorem jn_right {p : Int × Int} (h : 0 ≤ p.2) : jn p (0, 0) = p := by
  refine pair_ext ?_ (by rw [gn_jn]; show gn p + 0 = _; omega)
  rw [jn_fst]
  show (if 0 - gn p > p.1 then _ else _) = _
  rw [if_neg]
  unfold gn
  omega
theorem jn_left {p : Int × Int} (h : 0 ≤ p.1) : jn (0, 0) p = p := by
  refine pair_ext ?_ (by rw [gn_jn]; show 0 + gn p = _; omega)
  rw [jn_fst]
  show (if p.1 - 0 > 0 then p.1 - 0 else 0) = _
  split <;> omega
theorem jn_snd (c p : Int × Int) (h : 0 ≤ p.2) : 0 ≤ (jn c p).2 := by
  show 0 ≤ (jn c p).1 + gn c + gn p
  rw [jn_fst]
  unfold gn at *
  split <;> omega
theorem fold_jn : ∀ (ps : List (Int × Int)) (c : Int × Int), 0 ≤ c.2 → (∀ p ∈ ps, 0 ≤ p.2) → ps.foldl jn c = jn c (whl ps)
  | [], c, h, _ => (jn_right h).symm
  | p :: ps, c, h, hp => by
    have c0 := hp p List.mem_cons_self
    have hq : ∀ q ∈ ps, 0 ≤ q.2 := fun q hq => hp q (List.mem_cons_of_mem _ hq)
    show ps.foldl jn (jn c p) = jn c (ps.foldl jn (jn (0, 0) p))
    rw [fold_jn ps (jn c p) (jn_snd _ _ c0) hq, fold_jn ps (jn (0, 0) p) (jn_snd _ _ c0) hq, ← jn_assoc, ← jn_assoc, jn_right h]
theorem whl_snd {ps : List (Int × Int)} (h : ∀ p ∈ ps, 0 ≤ p.2) : 0 ≤ (whl ps).2 := by
  rcases List.eq_nil_or_concat ps with rfl | ⟨l, p, rfl⟩
  · exact Int.le_refl _
  · unfold whl
    rw [List.concat_eq_append, List.foldl_append]
    exact jn_snd _ _ (h p (by simp))
theorem whl_fst (ps : List (Int × Int)) : 0 ≤ (whl ps).1 := by
  have : ∀ (ps : List (Int × Int)) (c : Int × Int), 0 ≤ c.1 → 0 ≤ (ps.foldl jn c).1 := by
    intro ps
    induction ps with
    | nil => exact fun c h => h
    | cons p ps ih =>
      intro c h
      refine ih (jn c p) ?_
      rw [jn_fst]
      split <;> omega
  exact this ps (0, 0) (Int.le_refl _)
namespace L
end L
end Px
set_option Elab.async false
set_option linter.all false
set_option maxRecDepth 100000
set_option maxHeartbeats 1000000
namespace Px
open PySem L2
def mn (i j : Int) : Int := if j < i then j else i
namespace L
end L
def sw (p : Int × Int) : Int × Int := (p.2, p.1)
def tnd (ps : List (Int × Int)) : List (Int × Int) := ps.reverse.map sw
@[simp] theorem hide_cons (x : Slot) (l : Slots) : hideS (x :: l) = (match x with | .own _ => .emp | s => s) :: hideS l := rfl
namespace L
end L
end Px
set_option Elab.async false
set_option linter.all false
set_option maxRecDepth 100000
set_option maxHeartbeats 1000000
namespace Px
open PySem L2
namespace L
end L
end Px
set_option Elab.async false
set_option linter.all false
set_option maxRecDepth 100000
set_option maxHeartbeats 1000000
namespace Px
open PySem L2
namespace L
end L
namespace L
end L
end Px
set_option Elab.async false
set_option linter.all false
set_option maxRecDepth 100000
set_option maxHeartbeats 1000000
namespace Px
open PySem L2
open L (pD PairOk NumOk RowOk)
theorem Shw.mono {d : D} {k w k' w' : Nat} (h : Shw d k w) (hk : k ≤ k') (hw : w ≤ w') : Shw d k' w' := ⟨h.lv, h.sh, h.cl, Nat.le_trans h.dp hk, Nat.le_trans h.wt hw, h.ok⟩
namespace L
end L
end Px
set_option Elab.async false
set_option linter.all false
set_option maxRecDepth 100000
set_option maxHeartbeats 1000000
namespace Px
open PySem L2
open L (pD)
abbrev Row := List (Int × Int)
/-- the height behind the first k pairs -/
def ht (r : Row) (k : Nat) : Int := ((r.take k).map gn).sum
/-- the deepest dip of the first k pairs, 0 at least deep -/
def dp (r : Row) : Nat → Int
  | 0 => 0
  | k + 1 => mn (dp r k) (ht r k - (r.getD k (0, 0)).1)
theorem gn_sw (p : Int × Int) : gn (sw p) = - gn p := by unfold gn sw; simp only []; omega
theorem sum_sw (l : Row) : ((l.map sw).map gn).sum = - (l.map gn).sum := by
  induction l with
  | nil => rfl
  | cons p l ih => simp only [List.map_cons, List.sum_cons, ih, gn_sw]; omega
theorem sum_rev (l : Row) : ((l.reverse).map gn).sum = (l.map gn).sum := by
  induction l with
  | nil => rfl
  | cons p l ih => simp only [List.reverse_cons, List.map_append, List.sum_append, ih, List.map_cons, List.map_nil, List.sum_cons, List.sum_nil]; omega
theorem sum_tnd (r : Row) : ((tnd r).map gn).sum = - (r.map gn).sum := by
  unfold tnd
  rw [sum_sw, sum_rev]
theorem ht_len (r : Row) : ht r r.length = (r.map gn).sum := by unfold ht; rw [List.take_length]
end Px
set_option Elab.async false
set_option linter.all false
set_option maxRecDepth 100000
set_option maxHeartbeats 1000000
namespace Px
open PySem L2
open L (pD)
theorem ints_shaped : ∀ ns : List Int, PyData.canLayAll0 (D.toPs (ns.map D.int)) = true ∧ PyData.depthAll (D.toPs (ns.map D.int)) = 0
  | [] => ⟨rfl, rfl⟩
  | n :: ns => by
    obtain ⟨a, b⟩ := ints_shaped ns
    refine ⟨?_, ?_⟩
    · simp only [List.map_cons, D.toPs, D.toP, PyData.canLayAll0, PyData.canLay0, a, Bool.and_self]
    · simp only [List.map_cons, D.toPs, D.toP, PyData.depthAll, PyData.depth, b]
      rfl
theorem shaped_lst {xs : List D} {k : Nat} (h1 : PyData.canLayAll0 (D.toPs xs) = true) (h2 : PyData.depthAll (D.toPs xs) ≤ k) (hk : k ≤ 60) : SeqAt.shaped (D.lst xs).toP = true := by
  unfold SeqAt.shaped
  rw [Bool.and_eq_true]
  exact ⟨by simpa [D.toP, PyData.canLay0] using h1, decide_eq_true (by simp only [D.toP, PyData.depth]; omega)⟩
theorem eqD_intsNil (ns : List Int) : eqD (.lst (ns.map .int)) (.lst []) = some ns.isEmpty := by
  obtain ⟨a, b⟩ := ints_shaped ns
  unfold eqD
  rw [if_pos ⟨shaped_lst a (Nat.le_of_eq b) (by decide), by decide⟩]
  cases ns <;> rfl
/-- the deck's state -/
def DkS (gs cs : List Int) (n bl : Int) : Sto := [.lst (gs.map .int), .lst [.ref 0, .lst (cs.map .int), .int n, .int bl]]
/-- .. with so many draws left that its count stays small -/
def DkOk (c : Nat) (S : Sto) : Prop := ∃ (gs cs : List Int) (n bl : Int), S = DkS gs cs n bl ∧ (∀ z ∈ gs, 0 ≤ z) ∧ (∀ z ∈ cs, 0 ≤ z) ∧ cs ≠ [] ∧ gs.length ≤ 64 ∧ cs.length ≤ 64 ∧ 0 ≤ n ∧ n + (c : Int) ≤ 2 ^ 100 ∧ 0 ≤ bl ∧ bl < 2147483647
theorem DkOk.less {c c' : Nat} {S : Sto} (h : DkOk c S) (hc : c' ≤ c) : DkOk c' S := by
  obtain ⟨gs, cs, n, bl, e, h1, h2, h3, h4, h5, h6, h7, h8⟩ := h
  exact ⟨gs, cs, n, bl, e, h1, h2, h3, h4, h5, h6, by omega, h8⟩
namespace M
variable {T : String → Option Fn} {G : String → Option D} {wf : Nat}
/-- the great cells, one after the other -/
theorem great_loop {F : Cf} {m : Int} (h0 : 0 < m) (hm : m.natAbs.log2 < 9000) (cs : List Int) (n bl : Int) : ∀ (gs : List Int) (fuel : Nat) (x : Slot), gs.length < fuel → (∀ z ∈ gs, 0 ≤ z) →
    (∃ x', whlN (fun sl S => (evE F (.cmpr .ne (.ixr (.var 0) (.int 0)) (.list .nil)) sl S).truth) (exB F b_next_0) fuel [.val (.ref 1), .val (.int m), x] (DkS gs cs n bl) = .ok (.nx, [.val (.ref 1), .val (.int m), x']) (DkS [] cs n bl)) ∨
    ∃ (z : Int) (gs' : List Int) (sl : Slots), whlN (fun sl S => (evE F (.cmpr .ne (.ixr (.var 0) (.int 0)) (.list .nil)) sl S).truth) (exB F b_next_0) fuel [.val (.ref 1), .val (.int m), x] (DkS gs cs n bl) = .ok (.rt (.val (.int (z % m))), sl) (DkS gs' cs n bl) ∧ (∀ z ∈ gs', 0 ≤ z) ∧ gs'.length ≤ gs.length
  | [], fuel + 1, x, hf, _ => by
    refine .inl ⟨x, ?_⟩
    unfold whlN
    have e := eqD_intsNil []
    simp only [List.map_nil, List.isEmpty_nil] at e
    simp -implicitDefEqProofs [DkS, at0, e]
  | z :: gs, fuel + 1, x, hf, hz => by
    have e := eqD_intsNil (z :: gs)
    simp only [List.map_cons, List.isEmpty_cons] at e
    have z0 := hz z List.mem_cons_self
    have i0 : ixN (gs.length + 1) 0 = some 0 := ixN_in (by omega) (by omega)
    by_cases c : 0 < z
    · refine .inr ⟨z, z / m :: gs, [.val (.ref 1), .val (.int m), .val (.int z)], ?_, ?_, Nat.le_refl _⟩
      · unfold whlN b_next_0
        simp -implicitDefEqProofs [DkS, at0, e, c, h0, hm, setD, i0]
      · intro y hy
        rcases List.mem_cons.mp hy with rfl | hy
        · exact Int.ediv_nonneg z0 (by omega)
        · exact hz y (List.mem_cons_of_mem _ hy)
    · have step : whlN (fun sl S => (evE F (.cmpr .ne (.ixr (.var 0) (.int 0)) (.list .nil)) sl S).truth) (exB F b_next_0) (fuel + 1) [.val (.ref 1), .val (.int m), x] (DkS (z :: gs) cs n bl) =
          whlN (fun sl S => (evE F (.cmpr .ne (.ixr (.var 0) (.int 0)) (.list .nil)) sl S).truth) (exB F b_next_0) fuel [.val (.ref 1), .val (.int m), .val (.int z)] (DkS gs cs n bl) := by
        conv => lhs; unfold whlN
        unfold b_next_0
        simp -implicitDefEqProofs [DkS, at0, e, c, popD, i0]
      rcases great_loop h0 hm cs n bl gs fuel (.val (.int z)) (by simp at hf; omega) (fun y hy => hz y (List.mem_cons_of_mem _ hy)) with ⟨x', q⟩ | ⟨y, gs', sl, q, q2, q3⟩
      · exact .inl ⟨x', step.trans q⟩
      · exact .inr ⟨y, gs', sl, step.trans q, q2, by rw [List.length_cons]; omega⟩
theorem next_ok (hT : T "_law_next" = some ir_next) (hw : 70 < wf) {c : Nat} {S : Sto} (h : DkOk (c + 1) S) {m : Int} (h0 : 0 < m) (h1 : m ≤ 2 ^ 62) (n : Nat) :
    ∃ k S', callN T G wf (n + 1) "_law_next" [.ref 1, .int m] S = .ok (.val (.int k)) S' ∧ 0 ≤ k ∧ k < m ∧ DkOk c S' := by
  obtain ⟨gs, cs, q, bl, rfl, hg, hc, hn, hgl, hcl, hq, hq2, hb, hb2⟩ := h
  have hm : m.natAbs.log2 < 9000 := by
    have := log2_lt (n := m.natAbs) (k := 62) (by omega)
    omega
  have modm : ∀ x : Int, 0 ≤ x % m ∧ x % m < m := fun x => ⟨Int.emod_nonneg _ (by omega), Int.emod_lt_of_pos _ h0⟩
  rw [call_eq hT rfl]
  have lp := great_loop (F := ⟨callN T G wf n, G, wf⟩) h0 hm cs q bl gs wf .emp (by omega) hg
  unfold ir_next
  rcases lp with ⟨x', e⟩ | ⟨z, gs', sl, e, hg', hgl'⟩
  · have e' : exS ⟨callN T G wf n, G, wf⟩ (.whl (.cmpr .ne (.ixr (.var 0) (.int 0)) (.list .nil)) b_next_0) [.val (.ref 1), .val (.int m), .emp] (DkS gs cs q bl) = .ok (.nx, [.val (.ref 1), .val (.int m), x']) (DkS [] cs q bl) := e
    have lpos : 0 < cs.length := List.length_pos_iff.mpr hn
    have i2 : ixN 4 2 = some 2 := ixN_in (by omega) (by omega)
    have i3 : ixN 4 3 = some 3 := ixN_in (by omega) (by omega)
    have r0 : 0 ≤ (q + 1) % (cs.length : Int) := Int.emod_nonneg _ (by omega)
    have r1 : (q + 1) % (cs.length : Int) < cs.length := Int.emod_lt_of_pos _ (by omega)
    obtain ⟨w, hw', _, e2⟩ := at_map (f := D.int) (l := cs) r0 r1
    have w0 := hc w hw'
    have m1 : opBinD .mul (.int bl) (.int 48271) = some (.val (.int (bl * 48271))) := mul_small (by omega) (by omega)
    have m2 : opBinD .mul (.int 30011) (.int (q + 1)) = some (.val (.int (30011 * (q + 1)))) := mul_small (by omega) (by omega)
    have s0 : 0 ≤ (bl * 48271 + w % 2147483629 + 30011 * (q + 1)) % 2147483647 := Int.emod_nonneg _ (by omega)
    have s1 : (bl * 48271 + w % 2147483629 + 30011 * (q + 1)) % 2147483647 < 2147483647 := Int.emod_lt_of_pos _ (by omega)
    generalize hs : (bl * 48271 + w % 2147483629 + 30011 * (q + 1)) % 2147483647 = s at *
    have m3 : opBinD .mul (.int s) (.int s) = some (.val (.int (s * s))) := mul_small (by omega) (by omega)
    have l16 : Nat.log2 16 < 9000 := by decide
    have hcs : (0 : Int) < (cs.length : Int) := by omega
    refine ⟨s * s % 2147483629 / 16 % m, DkS [] cs (q + 1) s, ?_, (modm _).1, (modm _).2, [], cs, q + 1, s, rfl, fun _ h => (by cases h), hc, hn, by simp, hcl, by omega, by omega, s0, s1⟩
    simp -implicitDefEqProofs [-es_whl, e']
    simp -implicitDefEqProofs [DkS, at0, at1, at2, at3, lstAt, chg, setD, i2, i3, e2, m1, m2, m3, hs, l16, h0, hm, hcs, lpos]
  · have e' : exS ⟨callN T G wf n, G, wf⟩ (.whl (.cmpr .ne (.ixr (.var 0) (.int 0)) (.list .nil)) b_next_0) [.val (.ref 1), .val (.int m), .emp] (DkS gs cs q bl) = .ok (.rt (.val (.int (z % m))), sl) (DkS gs' cs q bl) := e
    refine ⟨z % m, DkS gs' cs q bl, ?_, (modm _).1, (modm _).2, gs', cs, q, bl, rfl, hg', hc, hn, by omega, hcl, hq, by omega, hb, hb2⟩
    simp -implicitDefEqProofs [-es_whl, e']
end M
end Px
set_option Elab.async false
set_option linter.all false
set_option maxRecDepth 100000
set_option maxHeartbeats 1000000
namespace Px
open PySem L2
open L (pD NumOk PairOk RowOk)
theorem bi_max (i j : Int) : opBi .max2 [.val (.int i), .val (.int j)] = some (.val (.int (max i j))) := by
  rw [bi_max2]
  congr 3
  by_cases h : j > i
  · rw [if_pos h]; omega
  · rw [if_neg h]; omega
theorem atI_ints {ns : List Int} {k : Int} (h0 : 0 ≤ k) (h1 : k < ns.length) : ∃ v ∈ ns, atI (ns.map D.int) k = some (.int v) := by
  obtain ⟨v, hv, _, e⟩ := at_map (f := D.int) (l := ns) h0 h1
  exact ⟨v, hv, e⟩
/-- a row of numbers from 0 to a bound -/
def RowLe (B : Int) (r : List (Int × Int)) : Prop := ∀ p ∈ r, 0 ≤ p.1 ∧ p.1 ≤ B ∧ 0 ≤ p.2 ∧ p.2 ≤ B
namespace M
variable {T : String → Option Fn} {G : String → Option D} {wf : Nat}
theorem number_ok (hT : T "_law_next" = some ir_next) (hN : T "_law_number" = some ir_number) (hw : 70 < wf) {c : Nat} {S : Sto} (h : DkOk (c + 2) S) (n : Nat) :
    ∃ k S', callN T G wf (n + 2) "_law_number" [.ref 1] S = .ok (.val (.int k)) S' ∧ 0 ≤ k ∧ k ≤ 1000000000000 ∧ DkOk c S' := by
  rw [call_eq hN rfl]
  unfold ir_number
  obtain ⟨w, S1, e1, w0, w1, h1⟩ := next_ok (G := G) (wf := wf) hT hw (c := c + 1) h (m := 14) (by decide) (by decide) n
  by_cases c1 : w = 0
  · subst c1
    obtain ⟨k, S2, e2, k0, k1, h2⟩ := next_ok (G := G) (wf := wf) hT hw h1 (m := 3) (by decide) (by decide) n
    refine ⟨1000000000000 - k, S2, ?_, by omega, by omega, h2⟩
    simp -implicitDefEqProofs [e1, eqD_int, e2, ob_pow]
  · obtain ⟨v, hv, e3⟩ := atI_ints (ns := [1, 3, 6, 10]) (k := w % 4) (by omega) (by show _ < (4 : Int); omega)
    have hv2 : 0 < v ∧ v ≤ 10 := by simp at hv; omega
    obtain ⟨k, S2, e2, k0, k1, h2⟩ := next_ok (G := G) (wf := wf) hT hw h1 (m := v) hv2.1 (by omega) n
    refine ⟨k, S2, ?_, k0, by omega, h2⟩
    simp only [List.map_cons, List.map_nil] at e3
    simp -implicitDefEqProofs [e1, eqD_int, c1, e2, e3]
theorem path_ok (hT : T "_law_next" = some ir_next) (hP : T "_law_path" = some ir_path) (hw : 70 < wf) {c : Nat} {S : Sto} (h : DkOk (c + 200) S) {m : Int} (m0 : 0 ≤ m) (m1 : m ≤ 50) (n : Nat) :
    ∃ ps S', callN T G wf (n + 2) "_law_path" [.ref 1, .int m] S = .ok (.val (.tup (ps.map pD))) S' ∧ RowLe 10000000000000000 ps ∧ (ps.length : Int) ≤ m ∧ DkOk c S' := by
  rw [call_eq hP rfl]
  unfold ir_path
  obtain ⟨k, S1, e1, k0, k1, h1⟩ := next_ok (G := G) (wf := wf) hT hw (c := c + 199) h (m := m + 1) (by omega) (by omega) n
  have sk : small62 k = true := small_of k0 (by omega)
  obtain ⟨sl', S', e2, ps, at', x, y, z, rfl, hps, hl, ha1, ha2, h2⟩ := loop_inv0 (t := .nm 4) (b := exB ⟨callN T G wf (n + 1), G, wf⟩ b_path_0) (items := rngD 0 k.toNat) (sl := [.val (.ref 1), .val (.int m), .own (.lst []), .val (.int 0), .emp, .emp, .emp]) (S := S1)
    (fun i sl S => ∃ (ps : List (Int × Int)) (a : Int) (x y z : Slot), sl = [.val (.ref 1), .val (.int m), .own (.lst (ps.map pD)), .val (.int a), x, y, z] ∧ RowLe 10000000000000000 ps ∧ ps.length = i ∧ -(4 * (i : Int)) ≤ a ∧ a ≤ 4 * (i : Int) ∧ DkOk (c + 199 - 3 * i) S)
    ⟨[], 0, .emp, .emp, .emp, rfl, (fun p hp => nomatch hp), rfl, by omega, by omega, h1⟩ (by
      rintro i v sl S hy ⟨ps, a, x, y, z, rfl, hps, hl, ha1, ha2, hS⟩
      obtain ⟨rfl, hi⟩ := rng_get hy
      have hi' : i ≤ 50 := by omega
      obtain ⟨w, S2, e2, w0, w1, h2⟩ := next_ok (G := G) (wf := wf) hT hw (c := c + 199 - 3 * i - 1) (hS.less (by omega)) (m := 3) (by decide) (by decide) n
      obtain ⟨u, hu, e3⟩ := atI_ints (ns := [3, 8, 20]) (k := w) w0 (by show _ < (3 : Int); omega)
      have hu2 : 0 < u ∧ u ≤ 20 := by simp at hu; omega
      obtain ⟨d, S3, e4, d0, d1, h3⟩ := next_ok (G := G) (wf := wf) hT hw (c := c + 199 - 3 * i - 2) (h2.less (by omega)) (m := u) hu2.1 (by omega) n
      obtain ⟨q, S4, e5, q0, q1, h4⟩ := next_ok (G := G) (wf := wf) hT hw (c := c + 199 - 3 * i - 3) (h3.less (by omega)) (m := 9) (by decide) (by decide) n
      simp only [List.map_cons, List.map_nil] at e3
      have hsz : ps.length < sizeLine := by rw [hl]; unfold sizeLine; omega
      refine ⟨_, [.val (.ref 1), .val (.int m), .own (.lst ((ps ++ [(max 0 (a + d), max 0 (max 0 (a + d) + q - 4))]).map pD)), .val (.int (a + max 0 (max 0 (a + d) + q - 4) - max 0 (a + d))), .val (.int (0 + (i : Int))), .val (.int (max 0 (a + d))), .val (.int (max 0 (max 0 (a + d) + q - 4)))], S4, rfl, ?_, _, _, _, _, _, rfl, ?_, ?_, ?_, ?_, ?_⟩
      · unfold b_path_0
        simp -implicitDefEqProofs [-bi_max2, bi_max, e2, e3, e4, e5, lstAt, chg, appD, hsz, pD]
      · intro p hp
        rcases List.mem_append.mp hp with hp | hp
        · exact hps p hp
        · rw [List.mem_singleton] at hp
          subst hp
          exact ⟨by show 0 ≤ max 0 (a + d); omega, by show max 0 (a + d) ≤ _; omega, by show 0 ≤ max 0 (max 0 (a + d) + q - 4); omega, by show max 0 (max 0 (a + d) + q - 4) ≤ _; omega⟩
      · rw [List.length_append, hl]; rfl
      · omega
      · omega
      · exact h4.less (by omega))
  rw [rng_len] at hl h2
  refine ⟨ps, S', ?_, hps, by omega, h2.less (by omega)⟩
  simp -implicitDefEqProofs [e1, sk, e2]
theorem row_ok (hT : T "_law_next" = some ir_next) (hP : T "_law_path" = some ir_path) (hN : T "_law_number" = some ir_number) (hR : T "_law_row" = some ir_row) (hw : 70 < wf) {c : Nat} {S : Sto} (h : DkOk (c + 300) S) {m : Int} (m0 : 0 ≤ m) (m1 : m ≤ 50) (n : Nat) :
    ∃ ps S', callN T G wf (n + 3) "_law_row" [.ref 1, .int m] S = .ok (.val (.tup (ps.map pD))) S' ∧ RowLe 10000000000000000 ps ∧ (ps.length : Int) ≤ m ∧ DkOk c S' := by
  rw [call_eq hR rfl]
  unfold ir_row
  obtain ⟨w, S1, e1, w0, w1, h1⟩ := next_ok (G := G) (wf := wf) hT hw (c := c + 299) h (m := 3) (by decide) (by decide) (n + 1)
  by_cases c0 : w = 0
  · subst c0
    obtain ⟨ps, S2, e2, hps, hl, h2⟩ := path_ok (G := G) (wf := wf) hT hP hw (c := c + 99) h1 m0 m1 n
    refine ⟨ps, S2, ?_, hps, hl, h2.less (by omega)⟩
    generalize ps.map pD = P at *
    simp -implicitDefEqProofs [e1, eqD_int, e2]
  · by_cases c1 : w = 1
    · subst c1
      have l2 : Nat.log2 2 < 9000 := by decide
      obtain ⟨ps, S2, e2, hps, hl, h2⟩ := path_ok (G := G) (wf := wf) hT hP hw (c := c + 99) h1 (m := m / 2) (by omega) (by omega) n
      have sz : (ps.map pD).length + (ps.map pD).length ≤ sizeLine := by rw [List.length_map]; unfold sizeLine; omega
      refine ⟨ps ++ ps, S2, ?_, fun p hp => (List.mem_append.mp hp).elim (hps p) (hps p), by rw [List.length_append]; omega, h2.less (by omega)⟩
      rw [List.map_append]
      generalize ps.map pD = P at *
      simp -implicitDefEqProofs [e1, eqD_int, e2, l2, sz]
    · obtain ⟨k, S2, e2, k0, k1, h2⟩ := next_ok (G := G) (wf := wf) hT hw (c := c + 298) h1 (m := m + 1) (by omega) (by omega) (n + 1)
      have sk : small62 k = true := small_of k0 (by omega)
      obtain ⟨sl', S', e3, ps, x, rfl, hps, hl, h3⟩ := loop_inv0 (t := .nm 5) (b := exB ⟨callN T G wf (n + 2), G, wf⟩ b_row_0) (items := rngD 0 k.toNat) (sl := [.val (.ref 1), .val (.int m), .val (.int w), .emp, .own (.lst []), .emp]) (S := S2)
        (fun i sl S => ∃ (ps : List (Int × Int)) (x : Slot), sl = [.val (.ref 1), .val (.int m), .val (.int w), .emp, .own (.lst (ps.map pD)), x] ∧ RowLe 10000000000000000 ps ∧ ps.length = i ∧ DkOk (c + 298 - 4 * i) S)
        ⟨[], .emp, rfl, (fun p hp => nomatch hp), rfl, h2⟩ (by
          rintro i v sl S hy ⟨ps, x, rfl, hps, hl, hS⟩
          obtain ⟨rfl, hi⟩ := rng_get hy
          have hi' : i ≤ 50 := by omega
          obtain ⟨a, S3, e4, a0, a1, h3⟩ := number_ok (G := G) (wf := wf) hT hN hw (c := c + 298 - 4 * i - 2) (hS.less (by omega)) n
          obtain ⟨b, S4, e5, b0, b1, h4⟩ := number_ok (G := G) (wf := wf) hT hN hw (c := c + 298 - 4 * i - 4) (h3.less (by omega)) n
          have hsz : ps.length < sizeLine := by rw [hl]; unfold sizeLine; omega
          refine ⟨_, [.val (.ref 1), .val (.int m), .val (.int w), .emp, .own (.lst ((ps ++ [(a, b)]).map pD)), .val (.int (0 + (i : Int)))], S4, rfl, ?_, _, _, rfl, ?_, ?_, ?_⟩
          · unfold b_row_0
            simp -implicitDefEqProofs [e4, e5, lstAt, chg, appD, hsz, pD]
          · intro p hp
            rcases List.mem_append.mp hp with hp | hp
            · exact hps p hp
            · rw [List.mem_singleton] at hp
              subst hp
              exact ⟨a0, by show a ≤ _; omega, b0, by show b ≤ _; omega⟩
          · rw [List.length_append, hl]; rfl
          · exact h4.less (by omega))
      rw [rng_len] at hl h3
      refine ⟨ps, S', ?_, hps, by omega, h3.less (by omega)⟩
      simp -implicitDefEqProofs [e1, eqD_int, c0, c1, e2, sk, e3]
end M
end Px
set_option Elab.async false
set_option linter.all false
set_option maxRecDepth 100000
set_option maxHeartbeats 1000000
namespace Px
open PySem L2
open L (pD NumOk PairOk RowOk)
/-- a row of numbers from 0 on -/
def Nn (r : Row) : Prop := ∀ p ∈ r, 0 ≤ p.1 ∧ 0 ≤ p.2
theorem RowOk.nn {r : Row} (h : RowOk r) : Nn r := fun p hp => ⟨(h p hp).1.1, (h p hp).2.1⟩
theorem Nn.app {a b : Row} (ha : Nn a) (hb : Nn b) : Nn (a ++ b) := fun p hp => (List.mem_append.mp hp).elim (ha p) (hb p)
theorem Nn.take {a : Row} (h : Nn a) (k : Nat) : Nn (a.take k) := fun p hp => h p (List.mem_of_mem_take hp)
theorem Nn.drop {a : Row} (h : Nn a) (k : Nat) : Nn (a.drop k) := fun p hp => h p (List.mem_of_mem_drop hp)
theorem Nn.tnd {a : Row} (h : Nn a) : Nn (tnd a) := fun p hp => by
  obtain ⟨q, hq, rfl⟩ := List.mem_map.mp hp
  have := h q (List.mem_reverse.mp hq)
  exact ⟨this.2, this.1⟩
theorem tnd_app (a b : Row) : tnd (a ++ b) = tnd b ++ tnd a := by unfold tnd; rw [List.reverse_append, List.map_append]
theorem tnd_cons (p : Int × Int) (r : Row) : tnd (p :: r) = tnd r ++ [sw p] := by
  unfold tnd; rw [List.reverse_cons, List.map_append]; rfl
theorem whl_one {p : Int × Int} (h1 : 0 ≤ p.1) : whl [p] = p := jn_left h1
theorem whl_appN {a b : Row} (ha : Nn a) (hb : Nn b) : whl (a ++ b) = jn (whl a) (whl b) := by
  show (a ++ b).foldl jn (0, 0) = _
  rw [List.foldl_append]
  exact fold_jn b _ (whl_snd fun p hp => (ha p hp).2) fun p hp => (hb p hp).2
theorem gn_whl (r : Row) : gn (whl r) = ht r r.length := by
  rw [ht_len]
  have : ∀ (r : Row) (c : Int × Int), gn (r.foldl jn c) = gn c + (r.map gn).sum := by
    intro r
    induction r with
    | nil => intro c; simp
    | cons p r ih => intro c; rw [List.foldl_cons, ih, gn_jn, List.map_cons, List.sum_cons]; omega
  show gn (r.foldl jn (0, 0)) = _
  rw [this]
  show (0 : Int) - 0 + _ = _
  omega
theorem sw_jn {p q : Int × Int} : sw (jn p q) = jn (sw q) (sw p) := by
  refine pair_ext ?_ ?_
  · show (jn p q).2 = _
    rw [jn_fst, gn_sw]
    have e : (jn p q).2 = (jn p q).1 + gn p + gn q := rfl
    rw [e, jn_fst]
    show _ = (if p.2 - -gn q > q.2 then p.2 - -gn q else q.2)
    unfold gn
    split <;> split <;> omega
  · rw [gn_sw, gn_jn, gn_jn, gn_sw, gn_sw]; omega
theorem whl_tnd {r : Row} (h : Nn r) : whl (tnd r) = sw (whl r) := by
  induction r with
  | nil => rfl
  | cons p r ih =>
    have hp := h p List.mem_cons_self
    have hr : Nn r := fun q hq => h q (List.mem_cons_of_mem _ hq)
    have h1 : Nn [p] := fun q hq => by rw [List.mem_singleton] at hq; subst hq; exact hp
    have e1 : p :: r = [p] ++ r := rfl
    rw [tnd_cons, whl_appN hr.tnd (fun q hq => by rw [List.mem_singleton] at hq; subst hq; exact ⟨hp.2, hp.1⟩), ih hr, e1, whl_appN h1 hr, sw_jn, whl_one hp.1]
    congr 1
    exact whl_one (p := sw p) hp.2
abbrev Form := Row × Int × Row
def lastM (up : Row) : Int := (up.getLast?.map (·.2)).getD 0
def firstN (down : Row) : Int := (down.head?.map (·.1)).getD 0
def gend (up down : Row) : Int := max (max 0 (lastM up)) (firstN down)
/-- a form as data -/
def fD (f : Form) : D := .tup [.tup (f.1.map pD), .int f.2.1, .tup (f.2.2.map pD)]
@[simp] theorem globD_fD (f : Form) : globD (some (fD f)) = some (fD f) := rfl
end Px
set_option Elab.async false
set_option linter.all false
set_option maxRecDepth 100000
set_option maxHeartbeats 1000000
namespace Px
open PySem L2
open L (pD NumOk PairOk RowOk)
namespace M
end M
end Px
set_option Elab.async false
set_option linter.all false
set_option maxRecDepth 100000
set_option maxHeartbeats 1000000
namespace Px
open PySem L2
open L (pD NumOk PairOk RowOk)
namespace M
end M
namespace M
end M
end Px
set_option Elab.async false
set_option linter.all false
set_option maxRecDepth 100000
set_option maxHeartbeats 1000000
namespace Px
open PySem L2
open L (pD NumOk PairOk RowOk)
theorem RowLe.app {B : Int} {a b : Row} (ha : RowLe B a) (hb : RowLe B b) : RowLe B (a ++ b) := fun p hp => (List.mem_append.mp hp).elim (ha p) (hb p)
theorem RowLe.take {B : Int} {a : Row} (h : RowLe B a) (k : Nat) : RowLe B (a.take k) := fun p hp => h p (List.mem_of_mem_take hp)
theorem RowLe.drop {B : Int} {a : Row} (h : RowLe B a) (k : Nat) : RowLe B (a.drop k) := fun p hp => h p (List.mem_of_mem_drop hp)
theorem RowLe.tnd {B : Int} {a : Row} (h : RowLe B a) : RowLe B (tnd a) := fun p hp => by
  obtain ⟨q, hq, rfl⟩ := List.mem_map.mp hp
  have := h q (List.mem_reverse.mp hq)
  exact ⟨this.2.2.1, this.2.2.2, this.1, this.2.1⟩
theorem RowLe.mono {B C : Int} {a : Row} (h : RowLe B a) (hc : B ≤ C) : RowLe C a := fun p hp => by
  obtain ⟨h1, h2, h3, h4⟩ := h p hp
  exact ⟨h1, by omega, h3, by omega⟩
/-- a form of numbers from 0 to a bound, of so many pairs -/
structure FormLe (B : Int) (n : Nat) (f : Form) : Prop where
  up : RowLe B f.1
  down : RowLe B f.2.2
  t0 : 0 ≤ f.2.1
  t1 : f.2.1 ≤ B
  len : f.1.length + f.2.2.length ≤ n
end Px
set_option Elab.async false
set_option linter.all false
set_option maxRecDepth 100000
set_option maxHeartbeats 1000000
namespace Px
open PySem L2
open L (pD absI absD)
namespace M
end M
end Px
set_option Elab.async false
set_option linter.all false
set_option maxRecDepth 100000
set_option maxHeartbeats 1000000
namespace Px
open PySem L2
open L (pD)
/-- the greatest purse that a beginning of a row comes to -/
def rch : Row → Int → Int
  | [], p => p
  | q :: r, p => if p < q.1 then p else max p (rch r (p + gn q))
theorem rch_cons (q : Int × Int) (r : Row) (p : Int) : rch (q :: r) p = if p < q.1 then p else max p (rch r (p + gn q)) := rfl
theorem rch_ge : ∀ (r : Row) (p : Int), p ≤ rch r p
  | [], p => Int.le_refl _
  | q :: r, p => by
    unfold rch
    split <;> omega
theorem Nn.cons {q : Int × Int} {r : Row} (h : Nn (q :: r)) : (0 ≤ q.1 ∧ 0 ≤ q.2) ∧ Nn r := ⟨h q List.mem_cons_self, fun p hp => h p (List.mem_cons_of_mem _ hp)⟩
/-- pairs, each number above the one ahead, from a on -/
def Rise : Int → Row → Prop
  | _, [] => True
  | a, q :: u => a ≤ q.1 ∧ q.1 < q.2 ∧ Rise (q.2 + 1) u
end Px
set_option Elab.async false
set_option linter.all false
set_option maxRecDepth 100000
set_option maxHeartbeats 1000000
namespace Px
open PySem L2
open L (pD)
/-- what pairs gain together -/
def ris (u : Row) : Int := (u.map gn).sum
theorem ris_nil : ris [] = 0 := rfl
theorem ris_cons (q : Int × Int) (u : Row) : ris (q :: u) = gn q + ris u := by unfold ris; rw [List.map_cons, List.sum_cons]
theorem ris_app (u v : Row) : ris (u ++ v) = ris u + ris v := by unfold ris; rw [List.map_append, List.sum_append]
theorem ris_tnd (u : Row) : ris (tnd u) = - ris u := sum_tnd u
theorem gn_whl' (r : Row) : gn (whl r) = ris r := by rw [gn_whl, ht_len]; rfl
end Px
set_option Elab.async false
set_option linter.all false
set_option maxRecDepth 100000
set_option maxHeartbeats 1000000
namespace Px
open PySem L2
open L (pD)
theorem Shw.shaped {d : D} {k w : Nat} (h : Shw d k w) (hk : k ≤ 60) : SeqAt.shaped d.toP = true := by
  unfold SeqAt.shaped
  rw [Bool.and_eq_true]
  exact ⟨h.cl, decide_eq_true (by have := h.dp; omega)⟩
/-- a form as it should be -/
structure Can (f : Form) : Prop where
  up : Rise 0 f.1
  down : Rise 0 (tnd f.2.2)
  top : gend f.1 f.2.2 ≤ f.2.1
theorem Can.t0 {f : Form} (h : Can f) : 0 ≤ f.2.1 := by
  have := h.top
  unfold gend at this
  omega
namespace M
end M
end Px
set_option Elab.async false
set_option linter.all false
set_option maxRecDepth 100000
set_option maxHeartbeats 1000000
namespace Px
open PySem L2
open L (pD)
theorem FormLe.mono {B C : Int} {m n : Nat} {f : Form} (h : FormLe B m f) (hb : B ≤ C) (hn : m ≤ n) : FormLe C n f :=
  ⟨h.up.mono hb, h.down.mono hb, h.t0, Int.le_trans h.t1 hb, Nat.le_trans h.len hn⟩
namespace M
end M
end Px
set_option Elab.async false
set_option linter.all false
set_option maxRecDepth 100000
set_option maxHeartbeats 1000000
namespace Px
def need (r : Row) : Int := (whl r).1
theorem need_nil : need [] = 0 := rfl
theorem need_nn (r : Row) : 0 ≤ need r := whl_fst r
theorem need_one {q : Int × Int} (h : 0 ≤ q.1) : need [q] = q.1 := by unfold need; rw [whl_one h]
theorem whl_eq (r : Row) : whl r = (need r, need r + ris r) := by
  have := gn_whl' r
  unfold gn at this
  exact Prod.ext rfl (by show (whl r).2 = (whl r).1 + ris r; omega)
theorem need_app {a b : Row} (ha : Nn a) (hb : Nn b) : need (a ++ b) = max (need a) (need b - ris a) := by
  unfold need
  rw [whl_appN ha hb, whl_eq a, whl_eq b]
  unfold jn gn
  dsimp only
  split <;> omega
theorem need_cons {q : Int × Int} {a : Row} (h : Nn (q :: a)) : need (q :: a) = max q.1 (need a - gn q) := by
  obtain ⟨h1, h2⟩ := h.cons
  have := need_app (a := [q]) (b := a) (fun p hp => by rw [List.mem_singleton] at hp; subst hp; exact h1) h2
  rw [need_one h1.1, ris_cons, ris_nil] at this
  rw [show q :: a = [q] ++ a from rfl, this]
  omega
theorem need_tnd {r : Row} (h : Nn r) : need (tnd r) = need r + ris r := by
  unfold need
  rw [whl_tnd h, whl_eq r]
  rfl
theorem rch_app : ∀ {a b : Row} {p : Int}, Nn a → Nn b → 0 ≤ p → rch (a ++ b) p = if p < need a then rch a p else max (rch a p) (rch b (p + ris a))
  | [], b, p, ha, hb, hp => by
    rw [need_nil, if_neg (by omega), ris_nil, List.nil_append, Int.add_zero]
    have := rch_ge b p
    show _ = max p _
    omega
  | q :: a, b, p, ha, hb, hp => by
    obtain ⟨h1, h2⟩ := ha.cons
    rw [List.cons_append, need_cons ha, rch_cons, rch_cons, ris_cons]
    by_cases c : p < q.1
    · rw [if_pos c, if_pos c, if_pos (by omega)]
    · rw [if_neg c, if_neg c, rch_app (a := a) (b := b) (p := p + gn q) h2 hb (by unfold gn; omega)]
      by_cases d : p + gn q < need a
      · rw [if_pos d, if_pos (by omega)]
      · rw [if_neg d, if_neg (by omega), Int.add_assoc]
        omega
structure Same (a b : Row) : Prop where
  nl : Nn a
  nr : Nn b
  rc : ∀ p, 0 ≤ p → rch a p = rch b p
  rt : ∀ p, 0 ≤ p → rch (tnd a) p = rch (tnd b) p
  nd : need a = need b
  ri : ris a = ris b
theorem Same.app {a b c d : Row} (h : Same a b) (g : Same c d) : Same (a ++ c) (b ++ d) := by
  have n1 := need_tnd h.nl
  have n2 := need_tnd h.nr
  have n3 := need_tnd g.nl
  have n4 := need_tnd g.nr
  refine ⟨h.nl.app g.nl, h.nr.app g.nr, fun p hp => ?_, fun p hp => ?_, ?_, ?_⟩
  · rw [rch_app h.nl g.nl hp, rch_app h.nr g.nr hp, h.nd, h.rc p hp, h.ri]
    by_cases c : p < need b
    · rw [if_pos c, if_pos c]
    · rw [if_neg c, if_neg c]
      have := need_nn (tnd b)
      rw [g.rc _ (by omega)]
  · rw [tnd_app, tnd_app, rch_app g.nl.tnd h.nl.tnd hp, rch_app g.nr.tnd h.nr.tnd hp, g.rt p hp, ris_tnd, ris_tnd, n3, n4, g.nd, g.ri]
    by_cases c : p < need d + ris d
    · rw [if_pos c, if_pos c]
    · rw [if_neg c, if_neg c]
      have := need_nn d
      rw [h.rt _ (by omega)]
  · rw [need_app h.nl g.nl, need_app h.nr g.nr, h.nd, g.nd, h.ri]
  · rw [ris_app, ris_app, h.ri, g.ri]
end Px
set_option Elab.async false
set_option linter.all false
set_option maxRecDepth 100000
set_option maxHeartbeats 1000000
namespace Px
open PySem L2
open L (pD)
@[simp] theorem at30 {α : Type} (a b c : α) : atI [a, b, c] 0 = some a := rfl
@[simp] theorem at31 {α : Type} (a b c : α) : atI [a, b, c] 1 = some b := rfl
@[simp] theorem at32 {α : Type} (a b c : α) : atI [a, b, c] 2 = some c := rfl
namespace M
end M
end Px
set_option Elab.async false
set_option linter.all false
set_option maxRecDepth 100000
set_option maxHeartbeats 1000000
namespace Px
open PySem L2
open L (pD)
@[simp] theorem at20 {α : Type} (a b : α) : atI [a, b] 0 = some a := rfl
@[simp] theorem at21 {α : Type} (a b : α) : atI [a, b] 1 = some b := rfl
namespace M
end M
end Px
set_option Elab.async false
set_option linter.all false
set_option maxRecDepth 100000
set_option maxHeartbeats 1000000
set_option Elab.async false
set_option linter.all false
set_option maxRecDepth 100000
set_option maxHeartbeats 1000000
set_option Elab.async false
set_option linter.all false
set_option maxRecDepth 100000
set_option maxHeartbeats 1000000
namespace Px
open PySem L2
open L (pD)
namespace M
end M
end Px
set_option Elab.async false
set_option linter.all false
set_option maxRecDepth 100000
set_option maxHeartbeats 1000000
set_option Elab.async false
set_option linter.all false
set_option maxRecDepth 100000
set_option maxHeartbeats 1000000
namespace Px
open PySem L2
open L (pD)
namespace M
end M
end Px
set_option Elab.async false
set_option linter.all false
set_option maxRecDepth 100000
set_option maxHeartbeats 1000000
set_option Elab.async false
set_option linter.all false
set_option maxRecDepth 100000
set_option maxHeartbeats 1000000
namespace Px
/-- the gains of the pairs whose need is at most x -/
def gs (P : Row) (x : Int) : Int := (P.map fun p => if p.1 ≤ x then gn p else 0).sum
theorem sum_perm {a b : List Int} (h : a.Perm b) : a.sum = b.sum := by
  induction h with
  | nil => rfl
  | cons x _ ih => rw [List.sum_cons, List.sum_cons, ih]
  | swap x y l => rw [List.sum_cons, List.sum_cons, List.sum_cons, List.sum_cons]; omega
  | trans _ _ h1 h2 => rw [h1, h2]
theorem gs_perm {P Q : Row} (h : P.Perm Q) (x : Int) : gs P x = gs Q x := sum_perm (h.map _)
/-- pairs that gain -/
def Gp (P : Row) : Prop := ∀ p ∈ P, 0 ≤ p.1 ∧ p.1 < p.2
theorem Gp.app {P Q : Row} (h : Gp P) (g : Gp Q) : Gp (P ++ Q) := fun p hp => (List.mem_append.mp hp).elim (h p) (g p)
theorem Gp.perm {P Q : Row} (h : Gp P) (e : P.Perm Q) : Gp Q := fun p hp => h p (e.mem_iff.mpr hp)
/-- from s the pairs lead to x -/
structure EndAt (P : Row) (s x : Int) : Prop where
  ge : s ≤ x
  fix : s + gs P x = x
  low : ∀ y, s ≤ y → s + gs P y ≤ y → x ≤ y
theorem EndAt.perm {P Q : Row} {s x : Int} (h : EndAt P s x) (e : P.Perm Q) : EndAt Q s x :=
  ⟨h.ge, by rw [← gs_perm e]; exact h.fix, fun y hy q => h.low y hy (by rw [gs_perm e]; exact q)⟩
end Px
set_option Elab.async false
set_option linter.all false
set_option maxRecDepth 100000
set_option maxHeartbeats 1000000
set_option Elab.async false
set_option linter.all false
set_option maxRecDepth 100000
set_option maxHeartbeats 1000000
namespace Px
/-- the gaining pairs of a row -/
def pos (W : Row) : Row := W.filter fun p => decide (0 < gn p)
end Px
set_option Elab.async false
set_option linter.all false
set_option maxRecDepth 100000
set_option maxHeartbeats 1000000
namespace Px
open PySem L2
open L (pD)
namespace M
end M
end Px
set_option Elab.async false
set_option linter.all false
set_option maxRecDepth 100000
set_option maxHeartbeats 1000000
set_option Elab.async false
set_option linter.all false
set_option maxRecDepth 100000
set_option maxHeartbeats 1000000
namespace Px
open PySem L2
open L (pD)
structure Shb (d : D) (k w : Nat) : Prop where
  lv : d.toP.leavesShort 84 = true
  sh : d.toP.showable = true
  cl : d.toP.canLay0 = true
  dp : d.toP.depth ≤ k
  wt : d.toP.weight ≤ w
  ok : PyData.strOk d.toP.shown = true
theorem Shb.repr {d : D} {k w : Nat} (h : Shb d k w) (hk : k ≤ 64) (hw : w ≤ 190000) : opBi .repr [.val d] = some (.val (.str d.toP.shown)) := by
  have h1 := PyData.shown_le 84 (by decide) d.toP h.lv
  have h2 : (84 + 2) * d.toP.weight ≤ 86 * 190000 := Nat.mul_le_mul_left _ (Nat.le_trans h.wt hw)
  have h3 : d.toP.shown.length ≤ sizeLine := by
    rw [show sizeLine = 16777216 by unfold sizeLine; decide]
    omega
  show (if _ then _ else _) = _
  rw [if_pos ⟨h.sh, h.cl, Nat.le_trans h.dp hk, h3⟩]
  rfl
theorem Shb.mono {d : D} {k k' w w' : Nat} (h : Shb d k w) (hk : k ≤ k') (hw : w ≤ w') : Shb d k' w' :=
  ⟨h.lv, h.sh, h.cl, Nat.le_trans h.dp hk, Nat.le_trans h.wt hw, h.ok⟩
end Px
set_option Elab.async false
set_option linter.all false
set_option maxRecDepth 100000
set_option maxHeartbeats 1000000
namespace Px
open PySem L2
open L (pD)
namespace M
end M
namespace M
end M
namespace L
end L
end Px
set_option Elab.async false
set_option linter.all false
set_option maxRecDepth 100000
set_option maxHeartbeats 1000000
set_option Elab.async false
set_option linter.all false
set_option maxRecDepth 100000
set_option maxHeartbeats 1000000
namespace Px
open PySem L2
open L (pD)
namespace M
end M
end Px
set_option Elab.async false
set_option linter.all false
set_option maxRecDepth 100000
set_option maxHeartbeats 1000000
namespace Px
open PySem L2
open L (pD)
inductive Bk where
  | act (n m : Int) | thn (bs : List Bk) | bes (bs : List Bk) | tim (k : Nat) (b : Bk) | man (k : Nat) (b : Bk)
def sD (s : String) : D := .str (Str.ofString s)
@[simp] theorem globD_sD (s : String) : globD (some (sD s)) = some (sD s) := rfl
end Px
set_option Elab.async false
set_option linter.all false
set_option maxRecDepth 100000
set_option maxHeartbeats 1000000
set_option linter.all false
set_option Elab.async false
set_option linter.all false
set_option maxRecDepth 100000
set_option maxHeartbeats 1000000
namespace Px
open PySem L2
open L (pD)
theorem compL_mapL {α : Type} {f : D → List D → Sto → Res (List D)} {S : Sto} (h g : α → D) : ∀ (L : List α) (acc : List D), acc.length + L.length ≤ sizeLine → (∀ x ∈ L, ∀ acc, f (h x) acc S = addL acc (g x) S) → compL f (L.map h) acc S = .ok (acc ++ L.map g) S
  | [], acc, _, _ => by simp [compL]
  | x :: L, acc, hl, hf => by
    rw [List.length_cons] at hl
    rw [List.map_cons]
    unfold compL
    rw [hf x List.mem_cons_self]
    unfold addL
    rw [if_pos (by omega), Res.bind_ok, compL_mapL h g L _ (by rw [List.length_append]; simp; omega) fun y hy => hf y (List.mem_cons_of_mem _ hy)]
    simp
theorem ev_comp_mapL {α : Type} {F : Cf} {own : List (String × Nat)} {tg : Tg} {it : Itx} {c elt : Ex} {sl : Slots} {S S1 : Sto} (L : List α) (h g : α → D) (hi : evI F it sl S = .ok (L.map h) S1) (hn : L.length ≤ sizeLine)
    (hx : ∀ x ∈ L, ∃ sl2, bindT tg (h x) (wipeS sl (own.map (·.2))) = some sl2 ∧ evE F c sl2 S1 = .ok (.val (.bl true)) S1 ∧ (evE F elt sl2 S1).data = .ok (g x) S1) :
    evE F (.comp own tg it c elt) sl S = .ok (.fresh (.lst (L.map g))) S1 := by
  unfold evE
  rw [hi, Res.bind_ok, compL_mapL h g L [] (by simpa using hn) fun x hx' acc => ?_]
  · rfl
  · obtain ⟨sl2, e1, e2, e3⟩ := hx x hx'
    rw [e1]
    show (evE F c sl2 S1).truth.bind _ = _
    rw [e2]
    show ite (true = true) ((evE F elt sl2 S1).data.bind fun d S3 => addL acc d S3) (.ok acc S1) = _
    rw [if_pos rfl, e3]
    rfl
namespace B
variable {T : String → Option Fn} {G : String → Option D} {wf : Nat}
/-- the books of a book -/
def inn : Bk → List Bk
  | .act _ _ => []
  | .thn bs => bs
  | .bes bs => bs
  | .tim _ b => [b]
  | .man _ b => [b]
end B
end Px
namespace Px
open PySem L2
def b_behind_0 : Sxs := (.cons (.ife (.cmp .lt (.var 1) (.var 3))
 (.cons (.raise "Short" ["at", "lacks"] (.cons (.var 2) (.cons (.bin .sub (.var 3) (.var 1)) .nil)))
 .nil)
 .nil)
 (.cons (.asg (.nm 1) (.bin .add (.bin .sub (.var 1) (.var 3)) (.var 4)))
 (.cons (.frz 1)
 .nil)))
def ir_behind : Fn := ⟨2, ["row", "purse", "at", "need", "leave"], (.cons (.loop (.tup (.cons (.nm 2) (.cons (.tup (.cons (.nm 3) (.cons (.nm 4) .nil))) .nil))) (.enum (.var 0)) b_behind_0)
 (.cons (.retv 1)
 .nil))⟩
def c_stream_0 : Ex := .comp [("_law_cell", 1)] (.nm 1) (.val (.sl (.var 0) .no (.yes (.int 63)))) .nop (.bi .abs (.cons (.var 1) .nil))
def ir_stream : Fn := ⟨1, ["_law_script", "_law_cell"], (.cons (.ret (.list (.cons c_stream_0 (.cons (.int 0) (.cons (.int 0) (.cons (.bin .add (.int 7262) (.bi .len (.cons (.var 0) .nil))) .nil))))))
 .nil)⟩
def ir_take : Fn := ⟨2, ["_law_stream_here", "_law_below", "_law_cells", "_law_begun", "_law_left", "_law_blend"], (.cons (.asgL (.cons (.nm 2) (.cons (.nm 3) (.cons (.nm 4) (.cons (.nm 5) .nil)))) (.var 0))
 (.cons (.ife (.and (.cmp .eq (.var 4) (.int 0)) (.cmp .lt (.var 3) (.bi .len (.cons (.var 2) .nil))))
 (.cons (.setix 0 (.int 1) (.bin .add (.var 3) (.int 1)))
 (.cons (.ife (.cmp .ge (.ix (.var 2) (.var 3)) (.bin .pow (.int 10) (.int 18)))
 (.cons (.asg (.nm 4) (.ix (.var 2) (.var 3)))
 .nil)
 (.cons (.asg (.nm 5) (.bin .add (.var 5) (.bin .mod (.ix (.var 2) (.var 3)) (.int 2147483629))))
 (.cons (.frz 5)
 .nil)))
 .nil))
 .nil)
 (.cons (.ife (.cmp .gt (.var 4) (.int 0))
 (.cons (.setix 0 (.int 2) (.bin .fdiv (.var 4) (.var 1)))
 (.cons (.ret (.bin .mod (.var 4) (.var 1)))
 .nil))
 .nil)
 (.cons (.asg (.nm 5) (.bin .mod (.bin .add (.bin .mul (.var 5) (.int 48271)) (.int 30011)) (.int 2147483647)))
 (.cons (.frz 5)
 (.cons (.setix 0 (.int 3) (.var 5))
 (.cons (.ret (.bin .mod (.bin .fdiv (.bin .mod (.bin .mul (.var 5) (.var 5)) (.int 2147483629)) (.int 16)) (.var 1)))
 .nil)))))))⟩
def ir_number : Fn := ⟨1, ["_law_stream_here", "_law_way"], (.cons (.asg (.nm 1) (.call "_law_take" (.cons (.var 0) (.cons (.int 16) .nil))))
 (.cons (.frz 1)
 (.cons (.ife (.cmp .eq (.var 1) (.int 0))
 (.cons (.ret (.int 0))
 .nil)
 .nil)
 (.cons (.ife (.cmp .lt (.var 1) (.int 12))
 (.cons (.ret (.call "_law_take" (.cons (.var 0) (.cons (.int 10) .nil))))
 .nil)
 .nil)
 (.cons (.ife (.cmp .lt (.var 1) (.int 15))
 (.cons (.ret (.call "_law_take" (.cons (.var 0) (.cons (.int 41) .nil))))
 .nil)
 .nil)
 (.cons (.ret (.bin .add (.ix (.list (.cons (.bin .pow (.int 10) (.int 9)) (.cons (.bin .pow (.int 10) (.int 12)) (.cons (.bin .pow (.int 10) (.int 18)) (.cons (.bin .pow (.int 10) (.int 39)) .nil))))) (.call "_law_take" (.cons (.var 0) (.cons (.int 4) .nil)))) (.call "_law_take" (.cons (.var 0) (.cons (.int 3) .nil)))))
 .nil))))))⟩
def ir_pair : Fn := ⟨1, ["_law_stream_here", "_law_need"], (.cons (.ife (.cmp .eq (.call "_law_take" (.cons (.var 0) (.cons (.int 4) .nil))) (.int 0))
 (.cons (.ret (.tup (.cons (.call "_law_number" (.cons (.var 0) .nil)) (.cons (.call "_law_number" (.cons (.var 0) .nil)) .nil))))
 .nil)
 .nil)
 (.cons (.asg (.nm 1) (.call "_law_take" (.cons (.var 0) (.cons (.int 12) .nil))))
 (.cons (.frz 1)
 (.cons (.ret (.tup (.cons (.var 1) (.cons (.bi .max2 (.cons (.int 0) (.cons (.bin .sub (.bin .add (.var 1) (.call "_law_take" (.cons (.var 0) (.cons (.int 9) .nil)))) (.int 4)) .nil))) .nil))))
 .nil))))⟩
def b_row_0 : Sxs := (.cons (.app 2 (.call "_law_pair" (.cons (.var 0) .nil)))
 (.cons (.ife (.cmp .eq (.call "_law_take" (.cons (.var 0) (.cons (.int 5) .nil))) (.int 0))
 (.cons (.setix 2 (.var 3) (.ix (.var 2) (.call "_law_take" (.cons (.var 0) (.cons (.bin .add (.var 3) (.int 1)) .nil)))))
 .nil)
 .nil)
 .nil))
def ir_row : Fn := ⟨2, ["_law_stream_here", "_law_most", "_law_found", "_law_k"], (.cons (.asg (.nm 2) (.list .nil))
 (.cons (.loop (.nm 3) (.rng1 (.call "_law_take" (.cons (.var 0) (.cons (.bin .add (.var 1) (.int 1)) .nil)))) b_row_0)
 (.cons (.ret (.bi .tuple (.cons (.var 2) .nil)))
 .nil)))⟩
def c_alike_0 : Ex := .comp [("_law_k", 2)] (.nm 2) (.rng1 (.bi .len (.cons (.var 1) .nil))) (.not (.call "_law_alike" (.cons (.ix (.var 0) (.var 2)) (.cons (.ix (.var 1) (.var 2)) .nil)))) (.var 2)
def ir_alike : Fn := ⟨2, ["_law_found", "_law_due", "_law_k"], (.cons (.ife (.isin (.var 1) true [.tuple])
 (.cons (.ife (.or (.not (.isin (.var 0) true [.tuple])) (.cmp .ne (.bi .len (.cons (.var 0) .nil)) (.bi .len (.cons (.var 1) .nil))))
 (.cons (.ret (.bl false))
 .nil)
 .nil)
 (.cons (.ret (.cmp .eq c_alike_0 (.list .nil)))
 .nil))
 .nil)
 (.cons (.ife (.cmp .isN (.var 1) .non)
 (.cons (.ret (.cmp .isN (.var 0) .non))
 .nil)
 .nil)
 (.cons (.ife (.isin (.var 1) true [.bool])
 (.cons (.ret (.and (.isin (.var 0) true [.bool]) (.cmp .eq (.var 0) (.var 1))))
 .nil)
 .nil)
 (.cons (.ife (.isin (.var 1) true [.str])
 (.cons (.ret (.and (.isin (.var 0) true [.str]) (.cmp .eq (.var 0) (.var 1))))
 .nil)
 .nil)
 (.cons (.ret (.and (.isin (.var 0) true [.int]) (.and (.not (.isin (.var 0) true [.bool])) (.cmp .eq (.var 0) (.var 1)))))
 .nil)))))⟩
def b_in_one_0 : Sxs := (.cons (.asg (.nm 2) (.bi .min2 (.cons (.var 2) (.cons (.bin .sub (.var 1) (.var 3)) .nil))))
 (.cons (.asg (.nm 1) (.bin .add (.bin .sub (.var 1) (.var 3)) (.var 4)))
 (.cons (.frz 1)
 .nil)))
def ir_in_one : Fn := ⟨1, ["_law_row_here", "_law_tall", "_law_deepest", "_law_need", "_law_leave"], (.cons (.asg (.tup (.cons (.nm 1) (.cons (.nm 2) .nil))) (.tup (.cons (.int 0) (.cons (.int 0) .nil))))
 (.cons (.loop (.tup (.cons (.nm 3) (.cons (.nm 4) .nil))) (.val (.var 0)) b_in_one_0)
 (.cons (.ret (.tup (.cons (.bin .sub (.int 0) (.var 2)) (.cons (.bin .sub (.var 1) (.var 2)) .nil))))
 .nil)))⟩
def b_walked_0 : Sxs := (.cons (.ife (.cmp .lt (.var 1) (.var 3))
 (.cons (.ret (.tup (.cons (.str "short") (.cons (.var 2) (.cons (.bin .sub (.var 3) (.var 1)) .nil)))))
 .nil)
 .nil)
 (.cons (.asg (.nm 1) (.bin .add (.bin .sub (.var 1) (.var 3)) (.var 4)))
 (.cons (.frz 1)
 .nil)))
def ir_walked : Fn := ⟨2, ["_law_row_here", "_law_purse", "_law_at", "_law_need", "_law_leave"], (.cons (.loop (.tup (.cons (.nm 2) (.cons (.tup (.cons (.nm 3) (.cons (.nm 4) .nil))) .nil))) (.enum (.var 0)) b_walked_0)
 (.cons (.ret (.tup (.cons (.str "held") (.cons (.var 1) .nil))))
 .nil))⟩
def ir_told : Fn := ⟨2, ["_law_row_here", "_law_purse", "_law_found", "_law_error"], (.cons (.asg (.nm 2) .non)
 (.cons (.tryx (.cons (.asg (.nm 2) (.tup (.cons (.str "held") (.cons (.call "behind" (.cons (.var 0) (.cons (.var 1) .nil))) .nil)))) .nil) (.cons "StintError" (some 3) (.cons (.asg 2 (.tup (.cons (.str "odd") (.cons (.int 0) (.cons (.int 0) .nil))))) (.cons (.ife (.and (.isx ["Short"] true) (.isx ["ValueError"] true)) (.cons (.asg 2 (.tup (.cons (.str "short") (.cons (.fld "at") (.cons (.fld "lacks") .nil))))) .nil) .nil) (.cons (.ife (.isx ["BadBook", "Doomed", "NoPurse", "TooMany"] false) (.cons (.asg 2 (.tup (.cons (.str "several") (.cons (.int 0) (.cons (.int 0) .nil))))) .nil) .nil) .nil))) .nil))
 (.cons (.retv 2)
 .nil)))⟩
def ir_kinds : Fn := ⟨1, ["_law_error", "_law_found"], (.cons (.asg (.nm 1) (.list (.cons (.isxr (.var 0) "Short") (.cons (.isxr (.var 0) "BadBook") (.cons (.isxr (.var 0) "NoPlace") .nil)))))
 (.cons (.frz 1)
 (.cons (.asg (.nm 1) (.bin .add (.var 1) (.list (.cons (.isxr (.var 0) "TooMany") (.cons (.isxr (.var 0) "NoOrder") (.cons (.isxr (.var 0) "NoMove") .nil))))))
 (.cons (.frz 1)
 (.cons (.asg (.nm 1) (.bin .add (.var 1) (.list (.cons (.isxr (.var 0) "BadCompany") (.cons (.isxr (.var 0) "NoStanding") (.cons (.isxr (.var 0) "NoWay") .nil))))))
 (.cons (.frz 1)
 (.cons (.asg (.nm 1) (.bin .add (.var 1) (.list (.cons (.isxr (.var 0) "NoPurse") (.cons (.isxr (.var 0) "NoPart") (.cons (.isxr (.var 0) "NoNumber") .nil))))))
 (.cons (.frz 1)
 (.cons (.asg (.nm 1) (.bin .add (.var 1) (.list (.cons (.isxr (.var 0) "Long") (.cons (.isxr (.var 0) "Doomed") (.cons (.isxr (.var 0) "NoStretch") .nil))))))
 (.cons (.frz 1)
 (.cons (.asg (.nm 1) (.bin .add (.var 1) (.list (.cons (.isxr (.var 0) "Begun") (.cons (.isxr (.var 0) "Nothing") (.cons (.isxr (.var 0) "NoText") .nil))))))
 (.cons (.frz 1)
 (.cons (.ret (.bin .add (.var 1) (.list (.cons (.isxr (.var 0) "StintError") (.cons (.isxr (.var 0) "ValueError") .nil)))))
 .nil)))))))))))))⟩
def c_made_right_0 : Ex := .comp [("_law_j", 4)] (.nm 4) (.rng1 (.int 18)) .nop (.cmp .eq (.var 4) (.var 3))
def b_made_right_0 : Sxs := (.cons (.ife (.cmp .ne (.call "_law_kinds" (.cons (.ix (.var 2) (.var 3)) .nil)) (.bin .add c_made_right_0 (.list (.cons (.bl true) (.cons (.bl true) .nil)))))
 (.cons (.ret (.bl false))
 .nil)
 .nil)
 .nil)
def ir_made_right : Fn := ⟨2, ["_law_one", "_law_other", "_law_errors", "_law_k", "_law_j", "_law_told_here", "_law_due"], (.cons (.asg (.nm 2) (.list (.cons (.mke "Short" ["at", "lacks"] (.cons (.var 0) (.cons (.var 1) .nil))) (.cons (.mke "BadBook" ["place", "why"] (.cons (.tup (.cons (.var 0) .nil)) (.cons (.str "need") .nil))) (.cons (.mke "NoPlace" ["place"] (.cons (.tup (.cons (.var 1) .nil)) .nil)) (.cons (.mke "TooMany" ["most"] (.cons (.var 0) .nil)) (.cons (.mke "NoOrder" [] .nil) (.cons (.mke "NoMove" [] .nil) .nil))))))))
 (.cons (.frz 2)
 (.cons (.asg (.nm 2) (.bin .add (.var 2) (.list (.cons (.mke "BadCompany" [] .nil) (.cons (.mke "NoStanding" [] .nil) (.cons (.mke "NoWay" ["way"] (.cons (.tup (.cons (.var 0) .nil)) .nil)) (.cons (.mke "NoPurse" ["purse"] (.cons (.var 1) .nil)) (.cons (.mke "NoPart" ["place"] (.cons (.tup (.cons (.var 0) (.cons (.var 1) .nil))) .nil)) (.cons (.mke "NoNumber" ["number"] (.cons (.var 0) .nil)) .nil)))))))))
 (.cons (.frz 2)
 (.cons (.asg (.nm 2) (.bin .add (.var 2) (.list (.cons (.mke "Long" [] .nil) (.cons (.mke "Doomed" ["lacks"] (.cons (.var 1) .nil)) (.cons (.mke "NoStretch" [] .nil) (.cons (.mke "Begun" ["place"] (.cons (.tup (.cons (.var 1) (.cons (.var 0) .nil))) .nil)) (.cons (.mke "Nothing" [] .nil) (.cons (.mke "NoText" ["at"] (.cons (.var 0) .nil)) .nil)))))))))
 (.cons (.frz 2)
 (.cons (.loop (.nm 3) (.rng1 (.int 18)) b_made_right_0)
 (.cons (.asg (.nm 5) (.list (.cons (.fldr (.ix (.var 2) (.int 0)) "at") (.cons (.fldr (.ix (.var 2) (.int 0)) "lacks") (.cons (.fldr (.ix (.var 2) (.int 1)) "place") (.cons (.fldr (.ix (.var 2) (.int 1)) "why") (.cons (.fldr (.ix (.var 2) (.int 2)) "place") (.cons (.fldr (.ix (.var 2) (.int 3)) "most") .nil))))))))
 (.cons (.frz 5)
 (.cons (.asg (.nm 5) (.bin .add (.var 5) (.list (.cons (.fldr (.ix (.var 2) (.int 8)) "way") (.cons (.fldr (.ix (.var 2) (.int 9)) "purse") (.cons (.fldr (.ix (.var 2) (.int 10)) "place") (.cons (.fldr (.ix (.var 2) (.int 11)) "number") (.cons (.fldr (.ix (.var 2) (.int 13)) "lacks") .nil))))))))
 (.cons (.frz 5)
 (.cons (.asg (.nm 6) (.list (.cons (.var 0) (.cons (.var 1) (.cons (.tup (.cons (.var 0) .nil)) (.cons (.str "need") (.cons (.tup (.cons (.var 1) .nil)) (.cons (.var 0) (.cons (.tup (.cons (.var 0) .nil)) (.cons (.var 1) (.cons (.tup (.cons (.var 0) (.cons (.var 1) .nil))) (.cons (.var 0) (.cons (.var 1) .nil)))))))))))))
 (.cons (.frz 6)
 (.cons (.ret (.and (.cmp .eq (.var 5) (.var 6)) (.cmp .eq (.list (.cons (.fldr (.ix (.var 2) (.int 15)) "place") (.cons (.fldr (.ix (.var 2) (.int 17)) "at") .nil))) (.list (.cons (.tup (.cons (.var 1) (.cons (.var 0) .nil))) (.cons (.var 0) .nil))))))
 .nil))))))))))))))⟩
def b_law_0 : Sxs := (.cons (.asg (.nm 7) (.call "_law_walked" (.cons (.var 3) (.cons (.var 6) .nil))))
 (.cons (.frz 7)
 (.cons (.ife (.or (.not (.call "_law_alike" (.cons (.call "_law_told" (.cons (.var 3) (.cons (.var 6) .nil))) (.cons (.var 7) .nil)))) (.not (.call "_law_alike" (.cons (.call "_law_told" (.cons (.var 3) (.cons (.var 6) .nil))) (.cons (.var 7) .nil)))))
 (.cons (.ret (.bl false))
 .nil)
 .nil)
 .nil)))
def b_law_1 : Sxs := (.cons (.asg (.nm 3) (.call "_law_row" (.cons (.var 1) (.cons (.int 30) .nil))))
 (.cons (.frz 3)
 (.cons (.ife (.cmp .eq (.call "_law_take" (.cons (.var 1) (.cons (.int 4) .nil))) (.int 0))
 (.cons (.asg (.nm 3) (.sl (.bin .mul (.var 3) (.int 400)) .no (.yes (.int 400))))
 (.cons (.frz 3)
 .nil))
 .nil)
 (.cons (.asg (.nm 4) (.ix (.call "_law_in_one" (.cons (.var 3) .nil)) (.int 0)))
 (.cons (.asg (.nm 5) (.bi .repr (.cons (.var 3) .nil)))
 (.cons (.loop (.nm 6) (.val (.list (.cons (.int 0) (.cons (.call "_law_number" (.cons (.var 1) .nil)) (.cons (.var 4) (.cons (.bi .max2 (.cons (.int 0) (.cons (.bin .sub (.var 4) (.int 1)) .nil))) (.cons (.bin .add (.var 4) (.int 1)) (.cons (.bin .add (.var 4) (.call "_law_number" (.cons (.var 1) .nil))) .nil)))))))) b_law_0)
 (.cons (.ife (.cmp .ne (.bi .repr (.cons (.var 3) .nil)) (.var 5))
 (.cons (.ret (.bl false))
 .nil)
 .nil)
 .nil)))))))
def ir_law : Fn := ⟨1, ["_law_script", "_law_stream_here", "_law_turn", "_law_row_here", "_law_bare", "_law_kept", "_law_purse", "_law_due"], (.cons (.asg (.nm 1) (.call "_law_stream" (.cons (.var 0) .nil)))
 (.cons (.shr 1)
 (.cons (.loop (.nm 2) (.rng1 (.int 6)) b_law_1)
 (.cons (.ret (.call "_law_made_right" (.cons (.call "_law_take" (.cons (.var 1) (.cons (.int 90) .nil))) (.cons (.call "_law_take" (.cons (.var 1) (.cons (.int 90) .nil))) .nil))))
 .nil))))⟩
def tab : String → Option Fn
  | "behind" => some ir_behind
  | "_law_stream" => some ir_stream
  | "_law_take" => some ir_take
  | "_law_number" => some ir_number
  | "_law_pair" => some ir_pair
  | "_law_row" => some ir_row
  | "_law_alike" => some ir_alike
  | "_law_in_one" => some ir_in_one
  | "_law_walked" => some ir_walked
  | "_law_told" => some ir_told
  | "_law_kinds" => some ir_kinds
  | "_law_made_right" => some ir_made_right
  | "law" => some ir_law
  | _ => none
def GD : String → Option D
  | _ => none
def gls : List String := []
def DEEP : Nat := 40
def FUEL : Nat := 16777216
def fns : List String := ["behind", "_law_stream", "_law_take", "_law_number", "_law_pair", "_law_row", "_law_alike", "_law_in_one", "_law_walked", "_law_told", "_law_kinds", "_law_made_right", "law", "StintError", "Short", "BadBook", "NoPlace", "TooMany", "NoOrder", "NoMove", "BadCompany", "NoStanding", "NoWay", "NoPurse", "NoPart", "NoNumber", "Long", "Doomed", "NoStretch", "Begun", "Nothing", "NoText"]
end Px
set_option Elab.async false
set_option linter.all false
set_option maxRecDepth 100000
set_option maxHeartbeats 0
namespace Px
open PySem PySem.Spec PyProof.Rows L2
def top (i : Nat) : Stmt := PySem.Challenge.pw_stintpurse_k02_rows_borne.main.body.getD i (.Pass ⟨0, 0, 0, 0⟩)
section
variable {K : PySem.W.Frag} {mg : Str → Option Value} {h : Heap} {a : Addr} {kV doc pm cdv ct oc : Value} {an od : Option Addr} {osl : Array (Option Value)}
theorem def_behind (X : K.In h) (G : h.Ns mainGlobals mg) (h1 : PySem.W.nsIn K mainGlobals "behind" = some (some (.ref a))) (h2 : K.lookup a = some ⟨oc, od, .func (PySem.W.fnOf "behind" "behind" (defArgs (top 22)) (defBody (top 22)) (defScope (top 22)) .none kV doc pm an cdv ct), osl⟩) (h3 : PySem.W.codeIn K cdv "behind" = true) (h4 : PySem.W.keepIn K (.ref a) = true) : DefOk K mg fns gls "behind" ir_behind :=
  DefOk.of (top 22) ["row", "purse"] X G h1 h2 h3 h4 (fun us hl => match us, hl with | [_, _], _ => rfl) ⟨rfl, rfl, rfl, by decide +kernel, rfl, by decide +kernel, by decide +kernel⟩ rfl (by decide +kernel)
theorem def_stream (X : K.In h) (G : h.Ns mainGlobals mg) (h1 : PySem.W.nsIn K mainGlobals "_law_stream" = some (some (.ref a))) (h2 : K.lookup a = some ⟨oc, od, .func (PySem.W.fnOf "_law_stream" "_law_stream" (defArgs (top 24)) (defBody (top 24)) (defScope (top 24)) .none kV doc pm an cdv ct), osl⟩) (h3 : PySem.W.codeIn K cdv "_law_stream" = true) (h4 : PySem.W.keepIn K (.ref a) = true) : DefOk K mg fns gls "_law_stream" ir_stream :=
  DefOk.of (top 24) ["_law_script"] X G h1 h2 h3 h4 (fun us hl => match us, hl with | [_], _ => rfl) ⟨rfl, rfl, rfl, by decide +kernel, rfl, by decide +kernel, by decide +kernel⟩ rfl (by decide +kernel)
theorem def_take (X : K.In h) (G : h.Ns mainGlobals mg) (h1 : PySem.W.nsIn K mainGlobals "_law_take" = some (some (.ref a))) (h2 : K.lookup a = some ⟨oc, od, .func (PySem.W.fnOf "_law_take" "_law_take" (defArgs (top 25)) (defBody (top 25)) (defScope (top 25)) .none kV doc pm an cdv ct), osl⟩) (h3 : PySem.W.codeIn K cdv "_law_take" = true) (h4 : PySem.W.keepIn K (.ref a) = true) : DefOk K mg fns gls "_law_take" ir_take :=
  DefOk.of (top 25) ["_law_stream_here", "_law_below"] X G h1 h2 h3 h4 (fun us hl => match us, hl with | [_, _], _ => rfl) ⟨rfl, rfl, rfl, by decide +kernel, rfl, by decide +kernel, by decide +kernel⟩ rfl (by decide +kernel)
theorem def_number (X : K.In h) (G : h.Ns mainGlobals mg) (h1 : PySem.W.nsIn K mainGlobals "_law_number" = some (some (.ref a))) (h2 : K.lookup a = some ⟨oc, od, .func (PySem.W.fnOf "_law_number" "_law_number" (defArgs (top 26)) (defBody (top 26)) (defScope (top 26)) .none kV doc pm an cdv ct), osl⟩) (h3 : PySem.W.codeIn K cdv "_law_number" = true) (h4 : PySem.W.keepIn K (.ref a) = true) : DefOk K mg fns gls "_law_number" ir_number :=
  DefOk.of (top 26) ["_law_stream_here"] X G h1 h2 h3 h4 (fun us hl => match us, hl with | [_], _ => rfl) ⟨rfl, rfl, rfl, by decide +kernel, rfl, by decide +kernel, by decide +kernel⟩ rfl (by decide +kernel)
theorem def_pair (X : K.In h) (G : h.Ns mainGlobals mg) (h1 : PySem.W.nsIn K mainGlobals "_law_pair" = some (some (.ref a))) (h2 : K.lookup a = some ⟨oc, od, .func (PySem.W.fnOf "_law_pair" "_law_pair" (defArgs (top 27)) (defBody (top 27)) (defScope (top 27)) .none kV doc pm an cdv ct), osl⟩) (h3 : PySem.W.codeIn K cdv "_law_pair" = true) (h4 : PySem.W.keepIn K (.ref a) = true) : DefOk K mg fns gls "_law_pair" ir_pair :=
  DefOk.of (top 27) ["_law_stream_here"] X G h1 h2 h3 h4 (fun us hl => match us, hl with | [_], _ => rfl) ⟨rfl, rfl, rfl, by decide +kernel, rfl, by decide +kernel, by decide +kernel⟩ rfl (by decide +kernel)
theorem def_row (X : K.In h) (G : h.Ns mainGlobals mg) (h1 : PySem.W.nsIn K mainGlobals "_law_row" = some (some (.ref a))) (h2 : K.lookup a = some ⟨oc, od, .func (PySem.W.fnOf "_law_row" "_law_row" (defArgs (top 28)) (defBody (top 28)) (defScope (top 28)) .none kV doc pm an cdv ct), osl⟩) (h3 : PySem.W.codeIn K cdv "_law_row" = true) (h4 : PySem.W.keepIn K (.ref a) = true) : DefOk K mg fns gls "_law_row" ir_row :=
  DefOk.of (top 28) ["_law_stream_here", "_law_most"] X G h1 h2 h3 h4 (fun us hl => match us, hl with | [_, _], _ => rfl) ⟨rfl, rfl, rfl, by decide +kernel, rfl, by decide +kernel, by decide +kernel⟩ rfl (by decide +kernel)
theorem def_alike (X : K.In h) (G : h.Ns mainGlobals mg) (h1 : PySem.W.nsIn K mainGlobals "_law_alike" = some (some (.ref a))) (h2 : K.lookup a = some ⟨oc, od, .func (PySem.W.fnOf "_law_alike" "_law_alike" (defArgs (top 29)) (defBody (top 29)) (defScope (top 29)) .none kV doc pm an cdv ct), osl⟩) (h3 : PySem.W.codeIn K cdv "_law_alike" = true) (h4 : PySem.W.keepIn K (.ref a) = true) : DefOk K mg fns gls "_law_alike" ir_alike :=
  DefOk.of (top 29) ["_law_found", "_law_due"] X G h1 h2 h3 h4 (fun us hl => match us, hl with | [_, _], _ => rfl) ⟨rfl, rfl, rfl, by decide +kernel, rfl, by decide +kernel, by decide +kernel⟩ rfl (by decide +kernel)
theorem def_in_one (X : K.In h) (G : h.Ns mainGlobals mg) (h1 : PySem.W.nsIn K mainGlobals "_law_in_one" = some (some (.ref a))) (h2 : K.lookup a = some ⟨oc, od, .func (PySem.W.fnOf "_law_in_one" "_law_in_one" (defArgs (top 30)) (defBody (top 30)) (defScope (top 30)) .none kV doc pm an cdv ct), osl⟩) (h3 : PySem.W.codeIn K cdv "_law_in_one" = true) (h4 : PySem.W.keepIn K (.ref a) = true) : DefOk K mg fns gls "_law_in_one" ir_in_one :=
  DefOk.of (top 30) ["_law_row_here"] X G h1 h2 h3 h4 (fun us hl => match us, hl with | [_], _ => rfl) ⟨rfl, rfl, rfl, by decide +kernel, rfl, by decide +kernel, by decide +kernel⟩ rfl (by decide +kernel)
theorem def_walked (X : K.In h) (G : h.Ns mainGlobals mg) (h1 : PySem.W.nsIn K mainGlobals "_law_walked" = some (some (.ref a))) (h2 : K.lookup a = some ⟨oc, od, .func (PySem.W.fnOf "_law_walked" "_law_walked" (defArgs (top 31)) (defBody (top 31)) (defScope (top 31)) .none kV doc pm an cdv ct), osl⟩) (h3 : PySem.W.codeIn K cdv "_law_walked" = true) (h4 : PySem.W.keepIn K (.ref a) = true) : DefOk K mg fns gls "_law_walked" ir_walked :=
  DefOk.of (top 31) ["_law_row_here", "_law_purse"] X G h1 h2 h3 h4 (fun us hl => match us, hl with | [_, _], _ => rfl) ⟨rfl, rfl, rfl, by decide +kernel, rfl, by decide +kernel, by decide +kernel⟩ rfl (by decide +kernel)
theorem def_told (X : K.In h) (G : h.Ns mainGlobals mg) (h1 : PySem.W.nsIn K mainGlobals "_law_told" = some (some (.ref a))) (h2 : K.lookup a = some ⟨oc, od, .func (PySem.W.fnOf "_law_told" "_law_told" (defArgs (top 32)) (defBody (top 32)) (defScope (top 32)) .none kV doc pm an cdv ct), osl⟩) (h3 : PySem.W.codeIn K cdv "_law_told" = true) (h4 : PySem.W.keepIn K (.ref a) = true) : DefOk K mg fns gls "_law_told" ir_told :=
  DefOk.of (top 32) ["_law_row_here", "_law_purse"] X G h1 h2 h3 h4 (fun us hl => match us, hl with | [_, _], _ => rfl) ⟨rfl, rfl, rfl, by decide +kernel, rfl, by decide +kernel, by decide +kernel⟩ rfl (by decide +kernel)
theorem def_kinds (X : K.In h) (G : h.Ns mainGlobals mg) (h1 : PySem.W.nsIn K mainGlobals "_law_kinds" = some (some (.ref a))) (h2 : K.lookup a = some ⟨oc, od, .func (PySem.W.fnOf "_law_kinds" "_law_kinds" (defArgs (top 33)) (defBody (top 33)) (defScope (top 33)) .none kV doc pm an cdv ct), osl⟩) (h3 : PySem.W.codeIn K cdv "_law_kinds" = true) (h4 : PySem.W.keepIn K (.ref a) = true) : DefOk K mg fns gls "_law_kinds" ir_kinds :=
  DefOk.of (top 33) ["_law_error"] X G h1 h2 h3 h4 (fun us hl => match us, hl with | [_], _ => rfl) ⟨rfl, rfl, rfl, by decide +kernel, rfl, by decide +kernel, by decide +kernel⟩ rfl (by decide +kernel)
theorem def_made_right (X : K.In h) (G : h.Ns mainGlobals mg) (h1 : PySem.W.nsIn K mainGlobals "_law_made_right" = some (some (.ref a))) (h2 : K.lookup a = some ⟨oc, od, .func (PySem.W.fnOf "_law_made_right" "_law_made_right" (defArgs (top 34)) (defBody (top 34)) (defScope (top 34)) .none kV doc pm an cdv ct), osl⟩) (h3 : PySem.W.codeIn K cdv "_law_made_right" = true) (h4 : PySem.W.keepIn K (.ref a) = true) : DefOk K mg fns gls "_law_made_right" ir_made_right :=
  DefOk.of (top 34) ["_law_one", "_law_other"] X G h1 h2 h3 h4 (fun us hl => match us, hl with | [_, _], _ => rfl) ⟨rfl, rfl, rfl, by decide +kernel, rfl, by decide +kernel, by decide +kernel⟩ rfl (by decide +kernel)
theorem def_law (X : K.In h) (G : h.Ns mainGlobals mg) (h1 : PySem.W.nsIn K mainGlobals "law" = some (some (.ref a))) (h2 : K.lookup a = some ⟨oc, od, .func (PySem.W.fnOf "law" "law" (defArgs (top 35)) (defBody (top 35)) (defScope (top 35)) .none kV doc pm an cdv ct), osl⟩) (h3 : PySem.W.codeIn K cdv "law" = true) (h4 : PySem.W.keepIn K (.ref a) = true) : DefOk K mg fns gls "law" ir_law :=
  DefOk.of (top 35) ["_law_script"] X G h1 h2 h3 h4 (fun us hl => match us, hl with | [_], _ => rfl) ⟨rfl, rfl, rfl, by decide +kernel, rfl, by decide +kernel, by decide +kernel⟩ rfl (by decide +kernel)
end
theorem all_mk {P : Program} {w : World} {K : PySem.W.Frag} {mg : Str → Option Value} {h : Heap} (X : K.In h) (G : h.Ns mainGlobals mg)
  {a0 : Addr} {kV0 doc0 pm0 cd0 ct0 oc0 : Value} {an0 od0 : Option Addr} {sl0 : Array (Option Value)} (x0 : PySem.W.nsIn K mainGlobals "behind" = some (some (.ref a0))) (l0 : K.lookup a0 = some ⟨oc0, od0, .func (PySem.W.fnOf "behind" "behind" (defArgs (top 22)) (defBody (top 22)) (defScope (top 22)) .none kV0 doc0 pm0 an0 cd0 ct0), sl0⟩) (c0 : PySem.W.codeIn K cd0 "behind" = true) (k0 : PySem.W.keepIn K (.ref a0) = true)
  {a1 : Addr} {kV1 doc1 pm1 cd1 ct1 oc1 : Value} {an1 od1 : Option Addr} {sl1 : Array (Option Value)} (x1 : PySem.W.nsIn K mainGlobals "_law_stream" = some (some (.ref a1))) (l1 : K.lookup a1 = some ⟨oc1, od1, .func (PySem.W.fnOf "_law_stream" "_law_stream" (defArgs (top 24)) (defBody (top 24)) (defScope (top 24)) .none kV1 doc1 pm1 an1 cd1 ct1), sl1⟩) (c1 : PySem.W.codeIn K cd1 "_law_stream" = true) (k1 : PySem.W.keepIn K (.ref a1) = true)
  {a2 : Addr} {kV2 doc2 pm2 cd2 ct2 oc2 : Value} {an2 od2 : Option Addr} {sl2 : Array (Option Value)} (x2 : PySem.W.nsIn K mainGlobals "_law_take" = some (some (.ref a2))) (l2 : K.lookup a2 = some ⟨oc2, od2, .func (PySem.W.fnOf "_law_take" "_law_take" (defArgs (top 25)) (defBody (top 25)) (defScope (top 25)) .none kV2 doc2 pm2 an2 cd2 ct2), sl2⟩) (c2 : PySem.W.codeIn K cd2 "_law_take" = true) (k2 : PySem.W.keepIn K (.ref a2) = true)
  {a3 : Addr} {kV3 doc3 pm3 cd3 ct3 oc3 : Value} {an3 od3 : Option Addr} {sl3 : Array (Option Value)} (x3 : PySem.W.nsIn K mainGlobals "_law_number" = some (some (.ref a3))) (l3 : K.lookup a3 = some ⟨oc3, od3, .func (PySem.W.fnOf "_law_number" "_law_number" (defArgs (top 26)) (defBody (top 26)) (defScope (top 26)) .none kV3 doc3 pm3 an3 cd3 ct3), sl3⟩) (c3 : PySem.W.codeIn K cd3 "_law_number" = true) (k3 : PySem.W.keepIn K (.ref a3) = true)
  {a4 : Addr} {kV4 doc4 pm4 cd4 ct4 oc4 : Value} {an4 od4 : Option Addr} {sl4 : Array (Option Value)} (x4 : PySem.W.nsIn K mainGlobals "_law_pair" = some (some (.ref a4))) (l4 : K.lookup a4 = some ⟨oc4, od4, .func (PySem.W.fnOf "_law_pair" "_law_pair" (defArgs (top 27)) (defBody (top 27)) (defScope (top 27)) .none kV4 doc4 pm4 an4 cd4 ct4), sl4⟩) (c4 : PySem.W.codeIn K cd4 "_law_pair" = true) (k4 : PySem.W.keepIn K (.ref a4) = true)
  {a5 : Addr} {kV5 doc5 pm5 cd5 ct5 oc5 : Value} {an5 od5 : Option Addr} {sl5 : Array (Option Value)} (x5 : PySem.W.nsIn K mainGlobals "_law_row" = some (some (.ref a5))) (l5 : K.lookup a5 = some ⟨oc5, od5, .func (PySem.W.fnOf "_law_row" "_law_row" (defArgs (top 28)) (defBody (top 28)) (defScope (top 28)) .none kV5 doc5 pm5 an5 cd5 ct5), sl5⟩) (c5 : PySem.W.codeIn K cd5 "_law_row" = true) (k5 : PySem.W.keepIn K (.ref a5) = true)
  {a6 : Addr} {kV6 doc6 pm6 cd6 ct6 oc6 : Value} {an6 od6 : Option Addr} {sl6 : Array (Option Value)} (x6 : PySem.W.nsIn K mainGlobals "_law_alike" = some (some (.ref a6))) (l6 : K.lookup a6 = some ⟨oc6, od6, .func (PySem.W.fnOf "_law_alike" "_law_alike" (defArgs (top 29)) (defBody (top 29)) (defScope (top 29)) .none kV6 doc6 pm6 an6 cd6 ct6), sl6⟩) (c6 : PySem.W.codeIn K cd6 "_law_alike" = true) (k6 : PySem.W.keepIn K (.ref a6) = true)
  {a7 : Addr} {kV7 doc7 pm7 cd7 ct7 oc7 : Value} {an7 od7 : Option Addr} {sl7 : Array (Option Value)} (x7 : PySem.W.nsIn K mainGlobals "_law_in_one" = some (some (.ref a7))) (l7 : K.lookup a7 = some ⟨oc7, od7, .func (PySem.W.fnOf "_law_in_one" "_law_in_one" (defArgs (top 30)) (defBody (top 30)) (defScope (top 30)) .none kV7 doc7 pm7 an7 cd7 ct7), sl7⟩) (c7 : PySem.W.codeIn K cd7 "_law_in_one" = true) (k7 : PySem.W.keepIn K (.ref a7) = true)
  {a8 : Addr} {kV8 doc8 pm8 cd8 ct8 oc8 : Value} {an8 od8 : Option Addr} {sl8 : Array (Option Value)} (x8 : PySem.W.nsIn K mainGlobals "_law_walked" = some (some (.ref a8))) (l8 : K.lookup a8 = some ⟨oc8, od8, .func (PySem.W.fnOf "_law_walked" "_law_walked" (defArgs (top 31)) (defBody (top 31)) (defScope (top 31)) .none kV8 doc8 pm8 an8 cd8 ct8), sl8⟩) (c8 : PySem.W.codeIn K cd8 "_law_walked" = true) (k8 : PySem.W.keepIn K (.ref a8) = true)
  {a9 : Addr} {kV9 doc9 pm9 cd9 ct9 oc9 : Value} {an9 od9 : Option Addr} {sl9 : Array (Option Value)} (x9 : PySem.W.nsIn K mainGlobals "_law_told" = some (some (.ref a9))) (l9 : K.lookup a9 = some ⟨oc9, od9, .func (PySem.W.fnOf "_law_told" "_law_told" (defArgs (top 32)) (defBody (top 32)) (defScope (top 32)) .none kV9 doc9 pm9 an9 cd9 ct9), sl9⟩) (c9 : PySem.W.codeIn K cd9 "_law_told" = true) (k9 : PySem.W.keepIn K (.ref a9) = true)
  {a10 : Addr} {kV10 doc10 pm10 cd10 ct10 oc10 : Value} {an10 od10 : Option Addr} {sl10 : Array (Option Value)} (x10 : PySem.W.nsIn K mainGlobals "_law_kinds" = some (some (.ref a10))) (l10 : K.lookup a10 = some ⟨oc10, od10, .func (PySem.W.fnOf "_law_kinds" "_law_kinds" (defArgs (top 33)) (defBody (top 33)) (defScope (top 33)) .none kV10 doc10 pm10 an10 cd10 ct10), sl10⟩) (c10 : PySem.W.codeIn K cd10 "_law_kinds" = true) (k10 : PySem.W.keepIn K (.ref a10) = true)
  {a11 : Addr} {kV11 doc11 pm11 cd11 ct11 oc11 : Value} {an11 od11 : Option Addr} {sl11 : Array (Option Value)} (x11 : PySem.W.nsIn K mainGlobals "_law_made_right" = some (some (.ref a11))) (l11 : K.lookup a11 = some ⟨oc11, od11, .func (PySem.W.fnOf "_law_made_right" "_law_made_right" (defArgs (top 34)) (defBody (top 34)) (defScope (top 34)) .none kV11 doc11 pm11 an11 cd11 ct11), sl11⟩) (c11 : PySem.W.codeIn K cd11 "_law_made_right" = true) (k11 : PySem.W.keepIn K (.ref a11) = true)
  {a12 : Addr} {kV12 doc12 pm12 cd12 ct12 oc12 : Value} {an12 od12 : Option Addr} {sl12 : Array (Option Value)} (x12 : PySem.W.nsIn K mainGlobals "law" = some (some (.ref a12))) (l12 : K.lookup a12 = some ⟨oc12, od12, .func (PySem.W.fnOf "law" "law" (defArgs (top 35)) (defBody (top 35)) (defScope (top 35)) .none kV12 doc12 pm12 an12 cd12 ct12), sl12⟩) (c12 : PySem.W.codeIn K cd12 "law" = true) (k12 : PySem.W.keepIn K (.ref a12) = true)
  (z0 : PySem.W.nsIn K mainGlobals "len" = some none)
  (z1 : PySem.W.nsIn K mainGlobals "abs" = some none)
  (z2 : PySem.W.nsIn K mainGlobals "max" = some none)
  (z3 : PySem.W.nsIn K mainGlobals "min" = some none)
  (z4 : PySem.W.nsIn K mainGlobals "sum" = some none)
  (z5 : PySem.W.nsIn K mainGlobals "all" = some none)
  (z6 : PySem.W.nsIn K mainGlobals "any" = some none)
  (z7 : PySem.W.nsIn K mainGlobals "tuple" = some none)
  (z8 : PySem.W.nsIn K mainGlobals "list" = some none)
  (z9 : PySem.W.nsIn K mainGlobals "repr" = some none)
  (z10 : PySem.W.nsIn K mainGlobals "isinstance" = some none)
  (z11 : PySem.W.nsIn K mainGlobals "range" = some none)
  (z12 : PySem.W.nsIn K mainGlobals "enumerate" = some none)
  (z13 : PySem.W.nsIn K mainGlobals "zip" = some none)
  (z14 : PySem.W.nsIn K mainGlobals "int" = some none)
  (z15 : PySem.W.nsIn K mainGlobals "bool" = some none)
  (z16 : PySem.W.nsIn K mainGlobals "str" = some none)
  (z17 : PySem.W.nsIn K mainGlobals "dict" = some none)
  (z18 : PySem.W.nsIn K mainGlobals "sorted" = some none)
  (z19 : PySem.W.nsIn K mainGlobals "set" = some none)
  (z20 : PySem.W.nsIn K mainGlobals "reversed" = some none)
  (z21 : PySem.W.nsIn K mainGlobals "ValueError" = some none)
  
  (hhn : PySem.W.specialIn K (.builtin "object.__class__") "__get__" = some (some (.builtin "getset_descriptor.__get__")))
  (hht : PySem.W.takesIn K (.builtin "object.__class__") = some true)
  {C0 : Addr} {q0_ : Str} {N0 : Addr} {bs0 : List Value} {sn0 : List Str} {sub0 : List Value} {ab0 : Bool} {col0 : Option Bool} {dd0 : Option Addr} {m00 m10 m20 m30 m50 : Option Value}
  (yn0 : PySem.W.nsIn K mainGlobals "StintError" = some (some (.ref C0)))
  (yl0 : K.lookup C0 = some (excClassObj "StintError" q0_ C0 N0 bs0 [.type "ValueError", .type "Exception", .type "BaseException", .type "object"] true sn0 sub0 ab0 col0 dd0 m00 m10 m20 m30 m50 "ValueError.__new__"))
  (ys0 : PySem.W.findIn K (.ref C0) "__setattr__" = some (some (.builtin "object.__setattr__")))
  (yg0 : PySem.W.findIn K (.ref C0) "__getattribute__" = some (some (.builtin "BaseException.__getattribute__")))
  (yh0 : PySem.W.findIn K (.ref C0) "__getattr__" = some none)
  (yk0 : PySem.W.keepIn K (.ref C0) = true)
  (ya0 : PySem.W.findIn K (.ref C0) "__class__" = some (some (.builtin "object.__class__")))
  (er0 : PySem.W.readsIn K C0 (.type "type") = true)
  (er1 : PySem.W.specialIn K (.ref C0) "__getattribute__" = some (some (.builtin "type.__getattribute__")))
  (er2 : PySem.W.findCls K (.ref C0) (.type "type") "__init__" = some (.val (.builtin "ValueError.__init__")))
  {C1 : Addr} {q1_ : Str} {N1 : Addr} {bs1 : List Value} {sn1 : List Str} {sub1 : List Value} {ab1 : Bool} {col1 : Option Bool} {dd1 : Option Addr} {m01 m11 m21 m31 m51 : Option Value}
  (yn1 : PySem.W.nsIn K mainGlobals "Short" = some (some (.ref C1)))
  (yl1 : K.lookup C1 = some (excClassObj "Short" q1_ C1 N1 bs1 [.ref C0, .type "ValueError", .type "Exception", .type "BaseException", .type "object"] true sn1 sub1 ab1 col1 dd1 m01 m11 m21 m31 m51 "ValueError.__new__"))
  (ys1 : PySem.W.findIn K (.ref C1) "__setattr__" = some (some (.builtin "object.__setattr__")))
  (yg1 : PySem.W.findIn K (.ref C1) "__getattribute__" = some (some (.builtin "BaseException.__getattribute__")))
  (yh1 : PySem.W.findIn K (.ref C1) "__getattr__" = some none)
  (yk1 : PySem.W.keepIn K (.ref C1) = true)
  (ya1 : PySem.W.findIn K (.ref C1) "__class__" = some (some (.builtin "object.__class__")))
  (yf1_0 : PySem.W.findIn K (.ref C1) "at" = some none)
  (yf1_1 : PySem.W.findIn K (.ref C1) "lacks" = some none)
  {f1 : Addr} {fkV1 fdoc1 fpm1 fcd1 fct1 foc1 : Value} {fan1 fod1 : Option Addr} {fsl1 : Array (Option Value)}
  (yi1 : PySem.W.findIn K (.ref C1) "__init__" = some (some (.ref f1)))
  (yt1 : PySem.W.typeIn K (.ref f1) = some (.type "function"))
  (ym1 : K.lookup f1 = some ⟨foc1, fod1, .func (PySem.W.fnOf "__init__" "Short.__init__" (defArgs (inClass (top 3) 0)) (defBody (inClass (top 3) 0)) (defScope (inClass (top 3) 0)) .none fkV1 fdoc1 fpm1 fan1 fcd1 fct1), fsl1⟩)
  (yc1 : PySem.W.codeIn K fcd1 "Short.__init__" = true)
  (yj1 : PySem.W.keepIn K (.ref f1) = true)
  {C2 : Addr} {q2_ : Str} {N2 : Addr} {bs2 : List Value} {sn2 : List Str} {sub2 : List Value} {ab2 : Bool} {col2 : Option Bool} {dd2 : Option Addr} {m02 m12 m22 m32 m52 : Option Value}
  (yn2 : PySem.W.nsIn K mainGlobals "BadBook" = some (some (.ref C2)))
  (yl2 : K.lookup C2 = some (excClassObj "BadBook" q2_ C2 N2 bs2 [.ref C0, .type "ValueError", .type "Exception", .type "BaseException", .type "object"] true sn2 sub2 ab2 col2 dd2 m02 m12 m22 m32 m52 "ValueError.__new__"))
  (ys2 : PySem.W.findIn K (.ref C2) "__setattr__" = some (some (.builtin "object.__setattr__")))
  (yg2 : PySem.W.findIn K (.ref C2) "__getattribute__" = some (some (.builtin "BaseException.__getattribute__")))
  (yh2 : PySem.W.findIn K (.ref C2) "__getattr__" = some none)
  (yk2 : PySem.W.keepIn K (.ref C2) = true)
  (ya2 : PySem.W.findIn K (.ref C2) "__class__" = some (some (.builtin "object.__class__")))
  (yf2_0 : PySem.W.findIn K (.ref C2) "place" = some none)
  (yf2_1 : PySem.W.findIn K (.ref C2) "why" = some none)
  {f2 : Addr} {fkV2 fdoc2 fpm2 fcd2 fct2 foc2 : Value} {fan2 fod2 : Option Addr} {fsl2 : Array (Option Value)}
  (yi2 : PySem.W.findIn K (.ref C2) "__init__" = some (some (.ref f2)))
  (yt2 : PySem.W.typeIn K (.ref f2) = some (.type "function"))
  (ym2 : K.lookup f2 = some ⟨foc2, fod2, .func (PySem.W.fnOf "__init__" "BadBook.__init__" (defArgs (inClass (top 4) 0)) (defBody (inClass (top 4) 0)) (defScope (inClass (top 4) 0)) .none fkV2 fdoc2 fpm2 fan2 fcd2 fct2), fsl2⟩)
  (yc2 : PySem.W.codeIn K fcd2 "BadBook.__init__" = true)
  (yj2 : PySem.W.keepIn K (.ref f2) = true)
  {C3 : Addr} {q3_ : Str} {N3 : Addr} {bs3 : List Value} {sn3 : List Str} {sub3 : List Value} {ab3 : Bool} {col3 : Option Bool} {dd3 : Option Addr} {m03 m13 m23 m33 m53 : Option Value}
  (yn3 : PySem.W.nsIn K mainGlobals "NoPlace" = some (some (.ref C3)))
  (yl3 : K.lookup C3 = some (excClassObj "NoPlace" q3_ C3 N3 bs3 [.ref C0, .type "ValueError", .type "Exception", .type "BaseException", .type "object"] true sn3 sub3 ab3 col3 dd3 m03 m13 m23 m33 m53 "ValueError.__new__"))
  (ys3 : PySem.W.findIn K (.ref C3) "__setattr__" = some (some (.builtin "object.__setattr__")))
  (yg3 : PySem.W.findIn K (.ref C3) "__getattribute__" = some (some (.builtin "BaseException.__getattribute__")))
  (yh3 : PySem.W.findIn K (.ref C3) "__getattr__" = some none)
  (yk3 : PySem.W.keepIn K (.ref C3) = true)
  (ya3 : PySem.W.findIn K (.ref C3) "__class__" = some (some (.builtin "object.__class__")))
  (yf3_0 : PySem.W.findIn K (.ref C3) "place" = some none)
  {f3 : Addr} {fkV3 fdoc3 fpm3 fcd3 fct3 foc3 : Value} {fan3 fod3 : Option Addr} {fsl3 : Array (Option Value)}
  (yi3 : PySem.W.findIn K (.ref C3) "__init__" = some (some (.ref f3)))
  (yt3 : PySem.W.typeIn K (.ref f3) = some (.type "function"))
  (ym3 : K.lookup f3 = some ⟨foc3, fod3, .func (PySem.W.fnOf "__init__" "NoPlace.__init__" (defArgs (inClass (top 5) 0)) (defBody (inClass (top 5) 0)) (defScope (inClass (top 5) 0)) .none fkV3 fdoc3 fpm3 fan3 fcd3 fct3), fsl3⟩)
  (yc3 : PySem.W.codeIn K fcd3 "NoPlace.__init__" = true)
  (yj3 : PySem.W.keepIn K (.ref f3) = true)
  {C4 : Addr} {q4_ : Str} {N4 : Addr} {bs4 : List Value} {sn4 : List Str} {sub4 : List Value} {ab4 : Bool} {col4 : Option Bool} {dd4 : Option Addr} {m04 m14 m24 m34 m54 : Option Value}
  (yn4 : PySem.W.nsIn K mainGlobals "TooMany" = some (some (.ref C4)))
  (yl4 : K.lookup C4 = some (excClassObj "TooMany" q4_ C4 N4 bs4 [.ref C0, .type "ValueError", .type "Exception", .type "BaseException", .type "object"] true sn4 sub4 ab4 col4 dd4 m04 m14 m24 m34 m54 "ValueError.__new__"))
  (ys4 : PySem.W.findIn K (.ref C4) "__setattr__" = some (some (.builtin "object.__setattr__")))
  (yg4 : PySem.W.findIn K (.ref C4) "__getattribute__" = some (some (.builtin "BaseException.__getattribute__")))
  (yh4 : PySem.W.findIn K (.ref C4) "__getattr__" = some none)
  (yk4 : PySem.W.keepIn K (.ref C4) = true)
  (ya4 : PySem.W.findIn K (.ref C4) "__class__" = some (some (.builtin "object.__class__")))
  (yf4_0 : PySem.W.findIn K (.ref C4) "most" = some none)
  {f4 : Addr} {fkV4 fdoc4 fpm4 fcd4 fct4 foc4 : Value} {fan4 fod4 : Option Addr} {fsl4 : Array (Option Value)}
  (yi4 : PySem.W.findIn K (.ref C4) "__init__" = some (some (.ref f4)))
  (yt4 : PySem.W.typeIn K (.ref f4) = some (.type "function"))
  (ym4 : K.lookup f4 = some ⟨foc4, fod4, .func (PySem.W.fnOf "__init__" "TooMany.__init__" (defArgs (inClass (top 6) 0)) (defBody (inClass (top 6) 0)) (defScope (inClass (top 6) 0)) .none fkV4 fdoc4 fpm4 fan4 fcd4 fct4), fsl4⟩)
  (yc4 : PySem.W.codeIn K fcd4 "TooMany.__init__" = true)
  (yj4 : PySem.W.keepIn K (.ref f4) = true)
  {C5 : Addr} {q5_ : Str} {N5 : Addr} {bs5 : List Value} {sn5 : List Str} {sub5 : List Value} {ab5 : Bool} {col5 : Option Bool} {dd5 : Option Addr} {m05 m15 m25 m35 m55 : Option Value}
  (yn5 : PySem.W.nsIn K mainGlobals "NoOrder" = some (some (.ref C5)))
  (yl5 : K.lookup C5 = some (excClassObj "NoOrder" q5_ C5 N5 bs5 [.ref C0, .type "ValueError", .type "Exception", .type "BaseException", .type "object"] true sn5 sub5 ab5 col5 dd5 m05 m15 m25 m35 m55 "ValueError.__new__"))
  (ys5 : PySem.W.findIn K (.ref C5) "__setattr__" = some (some (.builtin "object.__setattr__")))
  (yg5 : PySem.W.findIn K (.ref C5) "__getattribute__" = some (some (.builtin "BaseException.__getattribute__")))
  (yh5 : PySem.W.findIn K (.ref C5) "__getattr__" = some none)
  (yk5 : PySem.W.keepIn K (.ref C5) = true)
  (ya5 : PySem.W.findIn K (.ref C5) "__class__" = some (some (.builtin "object.__class__")))
  (yx5 : PySem.W.excIn K C5 [.type "ValueError", .type "Exception", .type "BaseException", .type "object"] "ValueError.__new__" = true)
  {C6 : Addr} {q6_ : Str} {N6 : Addr} {bs6 : List Value} {sn6 : List Str} {sub6 : List Value} {ab6 : Bool} {col6 : Option Bool} {dd6 : Option Addr} {m06 m16 m26 m36 m56 : Option Value}
  (yn6 : PySem.W.nsIn K mainGlobals "NoMove" = some (some (.ref C6)))
  (yl6 : K.lookup C6 = some (excClassObj "NoMove" q6_ C6 N6 bs6 [.ref C0, .type "ValueError", .type "Exception", .type "BaseException", .type "object"] true sn6 sub6 ab6 col6 dd6 m06 m16 m26 m36 m56 "ValueError.__new__"))
  (ys6 : PySem.W.findIn K (.ref C6) "__setattr__" = some (some (.builtin "object.__setattr__")))
  (yg6 : PySem.W.findIn K (.ref C6) "__getattribute__" = some (some (.builtin "BaseException.__getattribute__")))
  (yh6 : PySem.W.findIn K (.ref C6) "__getattr__" = some none)
  (yk6 : PySem.W.keepIn K (.ref C6) = true)
  (ya6 : PySem.W.findIn K (.ref C6) "__class__" = some (some (.builtin "object.__class__")))
  (yx6 : PySem.W.excIn K C6 [.type "ValueError", .type "Exception", .type "BaseException", .type "object"] "ValueError.__new__" = true)
  {C7 : Addr} {q7_ : Str} {N7 : Addr} {bs7 : List Value} {sn7 : List Str} {sub7 : List Value} {ab7 : Bool} {col7 : Option Bool} {dd7 : Option Addr} {m07 m17 m27 m37 m57 : Option Value}
  (yn7 : PySem.W.nsIn K mainGlobals "BadCompany" = some (some (.ref C7)))
  (yl7 : K.lookup C7 = some (excClassObj "BadCompany" q7_ C7 N7 bs7 [.ref C0, .type "ValueError", .type "Exception", .type "BaseException", .type "object"] true sn7 sub7 ab7 col7 dd7 m07 m17 m27 m37 m57 "ValueError.__new__"))
  (ys7 : PySem.W.findIn K (.ref C7) "__setattr__" = some (some (.builtin "object.__setattr__")))
  (yg7 : PySem.W.findIn K (.ref C7) "__getattribute__" = some (some (.builtin "BaseException.__getattribute__")))
  (yh7 : PySem.W.findIn K (.ref C7) "__getattr__" = some none)
  (yk7 : PySem.W.keepIn K (.ref C7) = true)
  (ya7 : PySem.W.findIn K (.ref C7) "__class__" = some (some (.builtin "object.__class__")))
  (yx7 : PySem.W.excIn K C7 [.type "ValueError", .type "Exception", .type "BaseException", .type "object"] "ValueError.__new__" = true)
  {C8 : Addr} {q8_ : Str} {N8 : Addr} {bs8 : List Value} {sn8 : List Str} {sub8 : List Value} {ab8 : Bool} {col8 : Option Bool} {dd8 : Option Addr} {m08 m18 m28 m38 m58 : Option Value}
  (yn8 : PySem.W.nsIn K mainGlobals "NoStanding" = some (some (.ref C8)))
  (yl8 : K.lookup C8 = some (excClassObj "NoStanding" q8_ C8 N8 bs8 [.ref C0, .type "ValueError", .type "Exception", .type "BaseException", .type "object"] true sn8 sub8 ab8 col8 dd8 m08 m18 m28 m38 m58 "ValueError.__new__"))
  (ys8 : PySem.W.findIn K (.ref C8) "__setattr__" = some (some (.builtin "object.__setattr__")))
  (yg8 : PySem.W.findIn K (.ref C8) "__getattribute__" = some (some (.builtin "BaseException.__getattribute__")))
  (yh8 : PySem.W.findIn K (.ref C8) "__getattr__" = some none)
  (yk8 : PySem.W.keepIn K (.ref C8) = true)
  (ya8 : PySem.W.findIn K (.ref C8) "__class__" = some (some (.builtin "object.__class__")))
  (yx8 : PySem.W.excIn K C8 [.type "ValueError", .type "Exception", .type "BaseException", .type "object"] "ValueError.__new__" = true)
  {C9 : Addr} {q9_ : Str} {N9 : Addr} {bs9 : List Value} {sn9 : List Str} {sub9 : List Value} {ab9 : Bool} {col9 : Option Bool} {dd9 : Option Addr} {m09 m19 m29 m39 m59 : Option Value}
  (yn9 : PySem.W.nsIn K mainGlobals "NoWay" = some (some (.ref C9)))
  (yl9 : K.lookup C9 = some (excClassObj "NoWay" q9_ C9 N9 bs9 [.ref C0, .type "ValueError", .type "Exception", .type "BaseException", .type "object"] true sn9 sub9 ab9 col9 dd9 m09 m19 m29 m39 m59 "ValueError.__new__"))
  (ys9 : PySem.W.findIn K (.ref C9) "__setattr__" = some (some (.builtin "object.__setattr__")))
  (yg9 : PySem.W.findIn K (.ref C9) "__getattribute__" = some (some (.builtin "BaseException.__getattribute__")))
  (yh9 : PySem.W.findIn K (.ref C9) "__getattr__" = some none)
  (yk9 : PySem.W.keepIn K (.ref C9) = true)
  (ya9 : PySem.W.findIn K (.ref C9) "__class__" = some (some (.builtin "object.__class__")))
  (yf9_0 : PySem.W.findIn K (.ref C9) "way" = some none)
  {f9 : Addr} {fkV9 fdoc9 fpm9 fcd9 fct9 foc9 : Value} {fan9 fod9 : Option Addr} {fsl9 : Array (Option Value)}
  (yi9 : PySem.W.findIn K (.ref C9) "__init__" = some (some (.ref f9)))
  (yt9 : PySem.W.typeIn K (.ref f9) = some (.type "function"))
  (ym9 : K.lookup f9 = some ⟨foc9, fod9, .func (PySem.W.fnOf "__init__" "NoWay.__init__" (defArgs (inClass (top 11) 0)) (defBody (inClass (top 11) 0)) (defScope (inClass (top 11) 0)) .none fkV9 fdoc9 fpm9 fan9 fcd9 fct9), fsl9⟩)
  (yc9 : PySem.W.codeIn K fcd9 "NoWay.__init__" = true)
  (yj9 : PySem.W.keepIn K (.ref f9) = true)
  {C10 : Addr} {q10_ : Str} {N10 : Addr} {bs10 : List Value} {sn10 : List Str} {sub10 : List Value} {ab10 : Bool} {col10 : Option Bool} {dd10 : Option Addr} {m010 m110 m210 m310 m510 : Option Value}
  (yn10 : PySem.W.nsIn K mainGlobals "NoPurse" = some (some (.ref C10)))
  (yl10 : K.lookup C10 = some (excClassObj "NoPurse" q10_ C10 N10 bs10 [.ref C0, .type "ValueError", .type "Exception", .type "BaseException", .type "object"] true sn10 sub10 ab10 col10 dd10 m010 m110 m210 m310 m510 "ValueError.__new__"))
  (ys10 : PySem.W.findIn K (.ref C10) "__setattr__" = some (some (.builtin "object.__setattr__")))
  (yg10 : PySem.W.findIn K (.ref C10) "__getattribute__" = some (some (.builtin "BaseException.__getattribute__")))
  (yh10 : PySem.W.findIn K (.ref C10) "__getattr__" = some none)
  (yk10 : PySem.W.keepIn K (.ref C10) = true)
  (ya10 : PySem.W.findIn K (.ref C10) "__class__" = some (some (.builtin "object.__class__")))
  (yf10_0 : PySem.W.findIn K (.ref C10) "purse" = some none)
  {f10 : Addr} {fkV10 fdoc10 fpm10 fcd10 fct10 foc10 : Value} {fan10 fod10 : Option Addr} {fsl10 : Array (Option Value)}
  (yi10 : PySem.W.findIn K (.ref C10) "__init__" = some (some (.ref f10)))
  (yt10 : PySem.W.typeIn K (.ref f10) = some (.type "function"))
  (ym10 : K.lookup f10 = some ⟨foc10, fod10, .func (PySem.W.fnOf "__init__" "NoPurse.__init__" (defArgs (inClass (top 12) 0)) (defBody (inClass (top 12) 0)) (defScope (inClass (top 12) 0)) .none fkV10 fdoc10 fpm10 fan10 fcd10 fct10), fsl10⟩)
  (yc10 : PySem.W.codeIn K fcd10 "NoPurse.__init__" = true)
  (yj10 : PySem.W.keepIn K (.ref f10) = true)
  {C11 : Addr} {q11_ : Str} {N11 : Addr} {bs11 : List Value} {sn11 : List Str} {sub11 : List Value} {ab11 : Bool} {col11 : Option Bool} {dd11 : Option Addr} {m011 m111 m211 m311 m511 : Option Value}
  (yn11 : PySem.W.nsIn K mainGlobals "NoPart" = some (some (.ref C11)))
  (yl11 : K.lookup C11 = some (excClassObj "NoPart" q11_ C11 N11 bs11 [.ref C0, .type "ValueError", .type "Exception", .type "BaseException", .type "object"] true sn11 sub11 ab11 col11 dd11 m011 m111 m211 m311 m511 "ValueError.__new__"))
  (ys11 : PySem.W.findIn K (.ref C11) "__setattr__" = some (some (.builtin "object.__setattr__")))
  (yg11 : PySem.W.findIn K (.ref C11) "__getattribute__" = some (some (.builtin "BaseException.__getattribute__")))
  (yh11 : PySem.W.findIn K (.ref C11) "__getattr__" = some none)
  (yk11 : PySem.W.keepIn K (.ref C11) = true)
  (ya11 : PySem.W.findIn K (.ref C11) "__class__" = some (some (.builtin "object.__class__")))
  (yf11_0 : PySem.W.findIn K (.ref C11) "place" = some none)
  {f11 : Addr} {fkV11 fdoc11 fpm11 fcd11 fct11 foc11 : Value} {fan11 fod11 : Option Addr} {fsl11 : Array (Option Value)}
  (yi11 : PySem.W.findIn K (.ref C11) "__init__" = some (some (.ref f11)))
  (yt11 : PySem.W.typeIn K (.ref f11) = some (.type "function"))
  (ym11 : K.lookup f11 = some ⟨foc11, fod11, .func (PySem.W.fnOf "__init__" "NoPart.__init__" (defArgs (inClass (top 13) 0)) (defBody (inClass (top 13) 0)) (defScope (inClass (top 13) 0)) .none fkV11 fdoc11 fpm11 fan11 fcd11 fct11), fsl11⟩)
  (yc11 : PySem.W.codeIn K fcd11 "NoPart.__init__" = true)
  (yj11 : PySem.W.keepIn K (.ref f11) = true)
  {C12 : Addr} {q12_ : Str} {N12 : Addr} {bs12 : List Value} {sn12 : List Str} {sub12 : List Value} {ab12 : Bool} {col12 : Option Bool} {dd12 : Option Addr} {m012 m112 m212 m312 m512 : Option Value}
  (yn12 : PySem.W.nsIn K mainGlobals "NoNumber" = some (some (.ref C12)))
  (yl12 : K.lookup C12 = some (excClassObj "NoNumber" q12_ C12 N12 bs12 [.ref C0, .type "ValueError", .type "Exception", .type "BaseException", .type "object"] true sn12 sub12 ab12 col12 dd12 m012 m112 m212 m312 m512 "ValueError.__new__"))
  (ys12 : PySem.W.findIn K (.ref C12) "__setattr__" = some (some (.builtin "object.__setattr__")))
  (yg12 : PySem.W.findIn K (.ref C12) "__getattribute__" = some (some (.builtin "BaseException.__getattribute__")))
  (yh12 : PySem.W.findIn K (.ref C12) "__getattr__" = some none)
  (yk12 : PySem.W.keepIn K (.ref C12) = true)
  (ya12 : PySem.W.findIn K (.ref C12) "__class__" = some (some (.builtin "object.__class__")))
  (yf12_0 : PySem.W.findIn K (.ref C12) "number" = some none)
  {f12 : Addr} {fkV12 fdoc12 fpm12 fcd12 fct12 foc12 : Value} {fan12 fod12 : Option Addr} {fsl12 : Array (Option Value)}
  (yi12 : PySem.W.findIn K (.ref C12) "__init__" = some (some (.ref f12)))
  (yt12 : PySem.W.typeIn K (.ref f12) = some (.type "function"))
  (ym12 : K.lookup f12 = some ⟨foc12, fod12, .func (PySem.W.fnOf "__init__" "NoNumber.__init__" (defArgs (inClass (top 14) 0)) (defBody (inClass (top 14) 0)) (defScope (inClass (top 14) 0)) .none fkV12 fdoc12 fpm12 fan12 fcd12 fct12), fsl12⟩)
  (yc12 : PySem.W.codeIn K fcd12 "NoNumber.__init__" = true)
  (yj12 : PySem.W.keepIn K (.ref f12) = true)
  {C13 : Addr} {q13_ : Str} {N13 : Addr} {bs13 : List Value} {sn13 : List Str} {sub13 : List Value} {ab13 : Bool} {col13 : Option Bool} {dd13 : Option Addr} {m013 m113 m213 m313 m513 : Option Value}
  (yn13 : PySem.W.nsIn K mainGlobals "Long" = some (some (.ref C13)))
  (yl13 : K.lookup C13 = some (excClassObj "Long" q13_ C13 N13 bs13 [.ref C0, .type "ValueError", .type "Exception", .type "BaseException", .type "object"] true sn13 sub13 ab13 col13 dd13 m013 m113 m213 m313 m513 "ValueError.__new__"))
  (ys13 : PySem.W.findIn K (.ref C13) "__setattr__" = some (some (.builtin "object.__setattr__")))
  (yg13 : PySem.W.findIn K (.ref C13) "__getattribute__" = some (some (.builtin "BaseException.__getattribute__")))
  (yh13 : PySem.W.findIn K (.ref C13) "__getattr__" = some none)
  (yk13 : PySem.W.keepIn K (.ref C13) = true)
  (ya13 : PySem.W.findIn K (.ref C13) "__class__" = some (some (.builtin "object.__class__")))
  (yx13 : PySem.W.excIn K C13 [.type "ValueError", .type "Exception", .type "BaseException", .type "object"] "ValueError.__new__" = true)
  {C14 : Addr} {q14_ : Str} {N14 : Addr} {bs14 : List Value} {sn14 : List Str} {sub14 : List Value} {ab14 : Bool} {col14 : Option Bool} {dd14 : Option Addr} {m014 m114 m214 m314 m514 : Option Value}
  (yn14 : PySem.W.nsIn K mainGlobals "Doomed" = some (some (.ref C14)))
  (yl14 : K.lookup C14 = some (excClassObj "Doomed" q14_ C14 N14 bs14 [.ref C0, .type "ValueError", .type "Exception", .type "BaseException", .type "object"] true sn14 sub14 ab14 col14 dd14 m014 m114 m214 m314 m514 "ValueError.__new__"))
  (ys14 : PySem.W.findIn K (.ref C14) "__setattr__" = some (some (.builtin "object.__setattr__")))
  (yg14 : PySem.W.findIn K (.ref C14) "__getattribute__" = some (some (.builtin "BaseException.__getattribute__")))
  (yh14 : PySem.W.findIn K (.ref C14) "__getattr__" = some none)
  (yk14 : PySem.W.keepIn K (.ref C14) = true)
  (ya14 : PySem.W.findIn K (.ref C14) "__class__" = some (some (.builtin "object.__class__")))
  (yf14_0 : PySem.W.findIn K (.ref C14) "lacks" = some none)
  {f14 : Addr} {fkV14 fdoc14 fpm14 fcd14 fct14 foc14 : Value} {fan14 fod14 : Option Addr} {fsl14 : Array (Option Value)}
  (yi14 : PySem.W.findIn K (.ref C14) "__init__" = some (some (.ref f14)))
  (yt14 : PySem.W.typeIn K (.ref f14) = some (.type "function"))
  (ym14 : K.lookup f14 = some ⟨foc14, fod14, .func (PySem.W.fnOf "__init__" "Doomed.__init__" (defArgs (inClass (top 16) 0)) (defBody (inClass (top 16) 0)) (defScope (inClass (top 16) 0)) .none fkV14 fdoc14 fpm14 fan14 fcd14 fct14), fsl14⟩)
  (yc14 : PySem.W.codeIn K fcd14 "Doomed.__init__" = true)
  (yj14 : PySem.W.keepIn K (.ref f14) = true)
  {C15 : Addr} {q15_ : Str} {N15 : Addr} {bs15 : List Value} {sn15 : List Str} {sub15 : List Value} {ab15 : Bool} {col15 : Option Bool} {dd15 : Option Addr} {m015 m115 m215 m315 m515 : Option Value}
  (yn15 : PySem.W.nsIn K mainGlobals "NoStretch" = some (some (.ref C15)))
  (yl15 : K.lookup C15 = some (excClassObj "NoStretch" q15_ C15 N15 bs15 [.ref C0, .type "ValueError", .type "Exception", .type "BaseException", .type "object"] true sn15 sub15 ab15 col15 dd15 m015 m115 m215 m315 m515 "ValueError.__new__"))
  (ys15 : PySem.W.findIn K (.ref C15) "__setattr__" = some (some (.builtin "object.__setattr__")))
  (yg15 : PySem.W.findIn K (.ref C15) "__getattribute__" = some (some (.builtin "BaseException.__getattribute__")))
  (yh15 : PySem.W.findIn K (.ref C15) "__getattr__" = some none)
  (yk15 : PySem.W.keepIn K (.ref C15) = true)
  (ya15 : PySem.W.findIn K (.ref C15) "__class__" = some (some (.builtin "object.__class__")))
  (yx15 : PySem.W.excIn K C15 [.type "ValueError", .type "Exception", .type "BaseException", .type "object"] "ValueError.__new__" = true)
  {C16 : Addr} {q16_ : Str} {N16 : Addr} {bs16 : List Value} {sn16 : List Str} {sub16 : List Value} {ab16 : Bool} {col16 : Option Bool} {dd16 : Option Addr} {m016 m116 m216 m316 m516 : Option Value}
  (yn16 : PySem.W.nsIn K mainGlobals "Begun" = some (some (.ref C16)))
  (yl16 : K.lookup C16 = some (excClassObj "Begun" q16_ C16 N16 bs16 [.ref C0, .type "ValueError", .type "Exception", .type "BaseException", .type "object"] true sn16 sub16 ab16 col16 dd16 m016 m116 m216 m316 m516 "ValueError.__new__"))
  (ys16 : PySem.W.findIn K (.ref C16) "__setattr__" = some (some (.builtin "object.__setattr__")))
  (yg16 : PySem.W.findIn K (.ref C16) "__getattribute__" = some (some (.builtin "BaseException.__getattribute__")))
  (yh16 : PySem.W.findIn K (.ref C16) "__getattr__" = some none)
  (yk16 : PySem.W.keepIn K (.ref C16) = true)
  (ya16 : PySem.W.findIn K (.ref C16) "__class__" = some (some (.builtin "object.__class__")))
  (yf16_0 : PySem.W.findIn K (.ref C16) "place" = some none)
  {f16 : Addr} {fkV16 fdoc16 fpm16 fcd16 fct16 foc16 : Value} {fan16 fod16 : Option Addr} {fsl16 : Array (Option Value)}
  (yi16 : PySem.W.findIn K (.ref C16) "__init__" = some (some (.ref f16)))
  (yt16 : PySem.W.typeIn K (.ref f16) = some (.type "function"))
  (ym16 : K.lookup f16 = some ⟨foc16, fod16, .func (PySem.W.fnOf "__init__" "Begun.__init__" (defArgs (inClass (top 18) 0)) (defBody (inClass (top 18) 0)) (defScope (inClass (top 18) 0)) .none fkV16 fdoc16 fpm16 fan16 fcd16 fct16), fsl16⟩)
  (yc16 : PySem.W.codeIn K fcd16 "Begun.__init__" = true)
  (yj16 : PySem.W.keepIn K (.ref f16) = true)
  {C17 : Addr} {q17_ : Str} {N17 : Addr} {bs17 : List Value} {sn17 : List Str} {sub17 : List Value} {ab17 : Bool} {col17 : Option Bool} {dd17 : Option Addr} {m017 m117 m217 m317 m517 : Option Value}
  (yn17 : PySem.W.nsIn K mainGlobals "Nothing" = some (some (.ref C17)))
  (yl17 : K.lookup C17 = some (excClassObj "Nothing" q17_ C17 N17 bs17 [.ref C0, .type "ValueError", .type "Exception", .type "BaseException", .type "object"] true sn17 sub17 ab17 col17 dd17 m017 m117 m217 m317 m517 "ValueError.__new__"))
  (ys17 : PySem.W.findIn K (.ref C17) "__setattr__" = some (some (.builtin "object.__setattr__")))
  (yg17 : PySem.W.findIn K (.ref C17) "__getattribute__" = some (some (.builtin "BaseException.__getattribute__")))
  (yh17 : PySem.W.findIn K (.ref C17) "__getattr__" = some none)
  (yk17 : PySem.W.keepIn K (.ref C17) = true)
  (ya17 : PySem.W.findIn K (.ref C17) "__class__" = some (some (.builtin "object.__class__")))
  (yx17 : PySem.W.excIn K C17 [.type "ValueError", .type "Exception", .type "BaseException", .type "object"] "ValueError.__new__" = true)
  {C18 : Addr} {q18_ : Str} {N18 : Addr} {bs18 : List Value} {sn18 : List Str} {sub18 : List Value} {ab18 : Bool} {col18 : Option Bool} {dd18 : Option Addr} {m018 m118 m218 m318 m518 : Option Value}
  (yn18 : PySem.W.nsIn K mainGlobals "NoText" = some (some (.ref C18)))
  (yl18 : K.lookup C18 = some (excClassObj "NoText" q18_ C18 N18 bs18 [.ref C0, .type "ValueError", .type "Exception", .type "BaseException", .type "object"] true sn18 sub18 ab18 col18 dd18 m018 m118 m218 m318 m518 "ValueError.__new__"))
  (ys18 : PySem.W.findIn K (.ref C18) "__setattr__" = some (some (.builtin "object.__setattr__")))
  (yg18 : PySem.W.findIn K (.ref C18) "__getattribute__" = some (some (.builtin "BaseException.__getattribute__")))
  (yh18 : PySem.W.findIn K (.ref C18) "__getattr__" = some none)
  (yk18 : PySem.W.keepIn K (.ref C18) = true)
  (ya18 : PySem.W.findIn K (.ref C18) "__class__" = some (some (.builtin "object.__class__")))
  (yf18_0 : PySem.W.findIn K (.ref C18) "at" = some none)
  {f18 : Addr} {fkV18 fdoc18 fpm18 fcd18 fct18 foc18 : Value} {fan18 fod18 : Option Addr} {fsl18 : Array (Option Value)}
  (yi18 : PySem.W.findIn K (.ref C18) "__init__" = some (some (.ref f18)))
  (yt18 : PySem.W.typeIn K (.ref f18) = some (.type "function"))
  (ym18 : K.lookup f18 = some ⟨foc18, fod18, .func (PySem.W.fnOf "__init__" "NoText.__init__" (defArgs (inClass (top 20) 0)) (defBody (inClass (top 20) 0)) (defScope (inClass (top 20) 0)) .none fkV18 fdoc18 fpm18 fan18 fcd18 fct18), fsl18⟩)
  (yc18 : PySem.W.codeIn K fcd18 "NoText.__init__" = true)
  (yj18 : PySem.W.keepIn K (.ref f18) = true) :
  ∀ base : Heap, (∃ m, base.Ns sysModules m) → FnAt P w K mg base DEEP "law" (callN tab GD FUEL DEEP "law") := fun base sys => by
  refine tower sys (fns := fns) (gls := gls) (fun f hf hcl => ?_) (fun f hf hcl => ?_) (fun b hb => ?_) (fun x hx => ?_) DEEP "law" (by decide) (by decide)
  · unfold fns at hf
    simp only [List.mem_cons, List.not_mem_nil, or_false] at hf
    rcases hf with rfl | rfl | rfl | rfl | rfl | rfl | rfl | rfl | rfl | rfl | rfl | rfl | rfl | rfl | rfl | rfl | rfl | rfl | rfl | rfl | rfl | rfl | rfl | rfl | rfl | rfl | rfl | rfl | rfl | rfl | rfl | rfl
    · exact ⟨_, rfl, def_behind X G x0 l0 c0 k0⟩
    · exact ⟨_, rfl, def_stream X G x1 l1 c1 k1⟩
    · exact ⟨_, rfl, def_take X G x2 l2 c2 k2⟩
    · exact ⟨_, rfl, def_number X G x3 l3 c3 k3⟩
    · exact ⟨_, rfl, def_pair X G x4 l4 c4 k4⟩
    · exact ⟨_, rfl, def_row X G x5 l5 c5 k5⟩
    · exact ⟨_, rfl, def_alike X G x6 l6 c6 k6⟩
    · exact ⟨_, rfl, def_in_one X G x7 l7 c7 k7⟩
    · exact ⟨_, rfl, def_walked X G x8 l8 c8 k8⟩
    · exact ⟨_, rfl, def_told X G x9 l9 c9 k9⟩
    · exact ⟨_, rfl, def_kinds X G x10 l10 c10 k10⟩
    · exact ⟨_, rfl, def_made_right X G x11 l11 c11 k11⟩
    · exact ⟨_, rfl, def_law X G x12 l12 c12 k12⟩
    · exact absurd hcl (by decide)
    · exact absurd hcl (by decide)
    · exact absurd hcl (by decide)
    · exact absurd hcl (by decide)
    · exact absurd hcl (by decide)
    · exact absurd hcl (by decide)
    · exact absurd hcl (by decide)
    · exact absurd hcl (by decide)
    · exact absurd hcl (by decide)
    · exact absurd hcl (by decide)
    · exact absurd hcl (by decide)
    · exact absurd hcl (by decide)
    · exact absurd hcl (by decide)
    · exact absurd hcl (by decide)
    · exact absurd hcl (by decide)
    · exact absurd hcl (by decide)
    · exact absurd hcl (by decide)
    · exact absurd hcl (by decide)
    · exact absurd hcl (by decide)
  · unfold fns at hf
    simp only [List.mem_cons, List.not_mem_nil, or_false] at hf
    rcases hf with rfl | rfl | rfl | rfl | rfl | rfl | rfl | rfl | rfl | rfl | rfl | rfl | rfl | rfl | rfl | rfl | rfl | rfl | rfl | rfl | rfl | rfl | rfl | rfl | rfl | rfl | rfl | rfl | rfl | rfl | rfl | rfl
    · exact absurd hcl (by decide)
    · exact absurd hcl (by decide)
    · exact absurd hcl (by decide)
    · exact absurd hcl (by decide)
    · exact absurd hcl (by decide)
    · exact absurd hcl (by decide)
    · exact absurd hcl (by decide)
    · exact absurd hcl (by decide)
    · exact absurd hcl (by decide)
    · exact absurd hcl (by decide)
    · exact absurd hcl (by decide)
    · exact absurd hcl (by decide)
    · exact absurd hcl (by decide)
    · exact clsAt_se X G (clsK_se yn0 yl0 ys0 yg0 yh0 yk0 ya0 hhn hht)
    · exact clsAt_init (c := "Short") (inClass (top 3) 0) X G (clsK_of (c := "Short") (by decide) (by decide) (clsK_se yn0 yl0 ys0 yg0 yh0 yk0 ya0 hhn hht) yn1 yl1 ys1 yg1 yh1 yk1 ya1 (fun f hf => by
        have hf' : f ∈ ["at", "lacks"] := hf
        simp only [List.mem_cons, List.not_mem_nil, or_false] at hf'
        rcases hf' with rfl | rfl
        · exact yf1_0
        · exact yf1_1)) ⟨yn0, er0, er1, er2⟩ (by decide) yi1 yt1 ym1 yc1 yj1 (fun us hl => match us, hl with | [_, _, _], _ => rfl) ⟨rfl, rfl, rfl, by decide +kernel, rfl, by decide +kernel, by decide +kernel⟩ (by decide +kernel) (by decide +kernel)
    · exact clsAt_init (c := "BadBook") (inClass (top 4) 0) X G (clsK_of (c := "BadBook") (by decide) (by decide) (clsK_se yn0 yl0 ys0 yg0 yh0 yk0 ya0 hhn hht) yn2 yl2 ys2 yg2 yh2 yk2 ya2 (fun f hf => by
        have hf' : f ∈ ["place", "why"] := hf
        simp only [List.mem_cons, List.not_mem_nil, or_false] at hf'
        rcases hf' with rfl | rfl
        · exact yf2_0
        · exact yf2_1)) ⟨yn0, er0, er1, er2⟩ (by decide) yi2 yt2 ym2 yc2 yj2 (fun us hl => match us, hl with | [_, _, _], _ => rfl) ⟨rfl, rfl, rfl, by decide +kernel, rfl, by decide +kernel, by decide +kernel⟩ (by decide +kernel) (by decide +kernel)
    · exact clsAt_init (c := "NoPlace") (inClass (top 5) 0) X G (clsK_of (c := "NoPlace") (by decide) (by decide) (clsK_se yn0 yl0 ys0 yg0 yh0 yk0 ya0 hhn hht) yn3 yl3 ys3 yg3 yh3 yk3 ya3 (fun f hf => by
        have hf' : f ∈ ["place"] := hf
        simp only [List.mem_cons, List.not_mem_nil, or_false] at hf'
        rcases hf' with rfl
        · exact yf3_0)) ⟨yn0, er0, er1, er2⟩ (by decide) yi3 yt3 ym3 yc3 yj3 (fun us hl => match us, hl with | [_, _], _ => rfl) ⟨rfl, rfl, rfl, by decide +kernel, rfl, by decide +kernel, by decide +kernel⟩ (by decide +kernel) (by decide +kernel)
    · exact clsAt_init (c := "TooMany") (inClass (top 6) 0) X G (clsK_of (c := "TooMany") (by decide) (by decide) (clsK_se yn0 yl0 ys0 yg0 yh0 yk0 ya0 hhn hht) yn4 yl4 ys4 yg4 yh4 yk4 ya4 (fun f hf => by
        have hf' : f ∈ ["most"] := hf
        simp only [List.mem_cons, List.not_mem_nil, or_false] at hf'
        rcases hf' with rfl
        · exact yf4_0)) ⟨yn0, er0, er1, er2⟩ (by decide) yi4 yt4 ym4 yc4 yj4 (fun us hl => match us, hl with | [_, _], _ => rfl) ⟨rfl, rfl, rfl, by decide +kernel, rfl, by decide +kernel, by decide +kernel⟩ (by decide +kernel) (by decide +kernel)
    · exact clsAt_bare X G (clsK_of (c := "NoOrder") (by decide) (by decide) (clsK_se yn0 yl0 ys0 yg0 yh0 yk0 ya0 hhn hht) yn5 yl5 ys5 yg5 yh5 yk5 ya5 (fun f hf => absurd (show f ∈ ([] : List String) from hf) List.not_mem_nil)) rfl yx5
    · exact clsAt_bare X G (clsK_of (c := "NoMove") (by decide) (by decide) (clsK_se yn0 yl0 ys0 yg0 yh0 yk0 ya0 hhn hht) yn6 yl6 ys6 yg6 yh6 yk6 ya6 (fun f hf => absurd (show f ∈ ([] : List String) from hf) List.not_mem_nil)) rfl yx6
    · exact clsAt_bare X G (clsK_of (c := "BadCompany") (by decide) (by decide) (clsK_se yn0 yl0 ys0 yg0 yh0 yk0 ya0 hhn hht) yn7 yl7 ys7 yg7 yh7 yk7 ya7 (fun f hf => absurd (show f ∈ ([] : List String) from hf) List.not_mem_nil)) rfl yx7
    · exact clsAt_bare X G (clsK_of (c := "NoStanding") (by decide) (by decide) (clsK_se yn0 yl0 ys0 yg0 yh0 yk0 ya0 hhn hht) yn8 yl8 ys8 yg8 yh8 yk8 ya8 (fun f hf => absurd (show f ∈ ([] : List String) from hf) List.not_mem_nil)) rfl yx8
    · exact clsAt_init (c := "NoWay") (inClass (top 11) 0) X G (clsK_of (c := "NoWay") (by decide) (by decide) (clsK_se yn0 yl0 ys0 yg0 yh0 yk0 ya0 hhn hht) yn9 yl9 ys9 yg9 yh9 yk9 ya9 (fun f hf => by
        have hf' : f ∈ ["way"] := hf
        simp only [List.mem_cons, List.not_mem_nil, or_false] at hf'
        rcases hf' with rfl
        · exact yf9_0)) ⟨yn0, er0, er1, er2⟩ (by decide) yi9 yt9 ym9 yc9 yj9 (fun us hl => match us, hl with | [_, _], _ => rfl) ⟨rfl, rfl, rfl, by decide +kernel, rfl, by decide +kernel, by decide +kernel⟩ (by decide +kernel) (by decide +kernel)
    · exact clsAt_init (c := "NoPurse") (inClass (top 12) 0) X G (clsK_of (c := "NoPurse") (by decide) (by decide) (clsK_se yn0 yl0 ys0 yg0 yh0 yk0 ya0 hhn hht) yn10 yl10 ys10 yg10 yh10 yk10 ya10 (fun f hf => by
        have hf' : f ∈ ["purse"] := hf
        simp only [List.mem_cons, List.not_mem_nil, or_false] at hf'
        rcases hf' with rfl
        · exact yf10_0)) ⟨yn0, er0, er1, er2⟩ (by decide) yi10 yt10 ym10 yc10 yj10 (fun us hl => match us, hl with | [_, _], _ => rfl) ⟨rfl, rfl, rfl, by decide +kernel, rfl, by decide +kernel, by decide +kernel⟩ (by decide +kernel) (by decide +kernel)
    · exact clsAt_init (c := "NoPart") (inClass (top 13) 0) X G (clsK_of (c := "NoPart") (by decide) (by decide) (clsK_se yn0 yl0 ys0 yg0 yh0 yk0 ya0 hhn hht) yn11 yl11 ys11 yg11 yh11 yk11 ya11 (fun f hf => by
        have hf' : f ∈ ["place"] := hf
        simp only [List.mem_cons, List.not_mem_nil, or_false] at hf'
        rcases hf' with rfl
        · exact yf11_0)) ⟨yn0, er0, er1, er2⟩ (by decide) yi11 yt11 ym11 yc11 yj11 (fun us hl => match us, hl with | [_, _], _ => rfl) ⟨rfl, rfl, rfl, by decide +kernel, rfl, by decide +kernel, by decide +kernel⟩ (by decide +kernel) (by decide +kernel)
    · exact clsAt_init (c := "NoNumber") (inClass (top 14) 0) X G (clsK_of (c := "NoNumber") (by decide) (by decide) (clsK_se yn0 yl0 ys0 yg0 yh0 yk0 ya0 hhn hht) yn12 yl12 ys12 yg12 yh12 yk12 ya12 (fun f hf => by
        have hf' : f ∈ ["number"] := hf
        simp only [List.mem_cons, List.not_mem_nil, or_false] at hf'
        rcases hf' with rfl
        · exact yf12_0)) ⟨yn0, er0, er1, er2⟩ (by decide) yi12 yt12 ym12 yc12 yj12 (fun us hl => match us, hl with | [_, _], _ => rfl) ⟨rfl, rfl, rfl, by decide +kernel, rfl, by decide +kernel, by decide +kernel⟩ (by decide +kernel) (by decide +kernel)
    · exact clsAt_bare X G (clsK_of (c := "Long") (by decide) (by decide) (clsK_se yn0 yl0 ys0 yg0 yh0 yk0 ya0 hhn hht) yn13 yl13 ys13 yg13 yh13 yk13 ya13 (fun f hf => absurd (show f ∈ ([] : List String) from hf) List.not_mem_nil)) rfl yx13
    · exact clsAt_init (c := "Doomed") (inClass (top 16) 0) X G (clsK_of (c := "Doomed") (by decide) (by decide) (clsK_se yn0 yl0 ys0 yg0 yh0 yk0 ya0 hhn hht) yn14 yl14 ys14 yg14 yh14 yk14 ya14 (fun f hf => by
        have hf' : f ∈ ["lacks"] := hf
        simp only [List.mem_cons, List.not_mem_nil, or_false] at hf'
        rcases hf' with rfl
        · exact yf14_0)) ⟨yn0, er0, er1, er2⟩ (by decide) yi14 yt14 ym14 yc14 yj14 (fun us hl => match us, hl with | [_, _], _ => rfl) ⟨rfl, rfl, rfl, by decide +kernel, rfl, by decide +kernel, by decide +kernel⟩ (by decide +kernel) (by decide +kernel)
    · exact clsAt_bare X G (clsK_of (c := "NoStretch") (by decide) (by decide) (clsK_se yn0 yl0 ys0 yg0 yh0 yk0 ya0 hhn hht) yn15 yl15 ys15 yg15 yh15 yk15 ya15 (fun f hf => absurd (show f ∈ ([] : List String) from hf) List.not_mem_nil)) rfl yx15
    · exact clsAt_init (c := "Begun") (inClass (top 18) 0) X G (clsK_of (c := "Begun") (by decide) (by decide) (clsK_se yn0 yl0 ys0 yg0 yh0 yk0 ya0 hhn hht) yn16 yl16 ys16 yg16 yh16 yk16 ya16 (fun f hf => by
        have hf' : f ∈ ["place"] := hf
        simp only [List.mem_cons, List.not_mem_nil, or_false] at hf'
        rcases hf' with rfl
        · exact yf16_0)) ⟨yn0, er0, er1, er2⟩ (by decide) yi16 yt16 ym16 yc16 yj16 (fun us hl => match us, hl with | [_, _], _ => rfl) ⟨rfl, rfl, rfl, by decide +kernel, rfl, by decide +kernel, by decide +kernel⟩ (by decide +kernel) (by decide +kernel)
    · exact clsAt_bare X G (clsK_of (c := "Nothing") (by decide) (by decide) (clsK_se yn0 yl0 ys0 yg0 yh0 yk0 ya0 hhn hht) yn17 yl17 ys17 yg17 yh17 yk17 ya17 (fun f hf => absurd (show f ∈ ([] : List String) from hf) List.not_mem_nil)) rfl yx17
    · exact clsAt_init (c := "NoText") (inClass (top 20) 0) X G (clsK_of (c := "NoText") (by decide) (by decide) (clsK_se yn0 yl0 ys0 yg0 yh0 yk0 ya0 hhn hht) yn18 yl18 ys18 yg18 yh18 yk18 ya18 (fun f hf => by
        have hf' : f ∈ ["at"] := hf
        simp only [List.mem_cons, List.not_mem_nil, or_false] at hf'
        rcases hf' with rfl
        · exact yf18_0)) ⟨yn0, er0, er1, er2⟩ (by decide) yi18 yt18 ym18 yc18 yj18 (fun us hl => match us, hl with | [_, _], _ => rfl) ⟨rfl, rfl, rfl, by decide +kernel, rfl, by decide +kernel, by decide +kernel⟩ (by decide +kernel) (by decide +kernel)
  · unfold blts at hb
    simp only [List.mem_cons, List.not_mem_nil, or_false] at hb
    rcases hb with rfl | rfl | rfl | rfl | rfl | rfl | rfl | rfl | rfl | rfl | rfl | rfl | rfl | rfl | rfl | rfl | rfl | rfl | rfl | rfl | rfl | rfl
    · exact PySem.W.mg_none_of X G z0
    · exact PySem.W.mg_none_of X G z1
    · exact PySem.W.mg_none_of X G z2
    · exact PySem.W.mg_none_of X G z3
    · exact PySem.W.mg_none_of X G z4
    · exact PySem.W.mg_none_of X G z5
    · exact PySem.W.mg_none_of X G z6
    · exact PySem.W.mg_none_of X G z7
    · exact PySem.W.mg_none_of X G z8
    · exact PySem.W.mg_none_of X G z9
    · exact PySem.W.mg_none_of X G z10
    · exact PySem.W.mg_none_of X G z11
    · exact PySem.W.mg_none_of X G z12
    · exact PySem.W.mg_none_of X G z13
    · exact PySem.W.mg_none_of X G z14
    · exact PySem.W.mg_none_of X G z15
    · exact PySem.W.mg_none_of X G z16
    · exact PySem.W.mg_none_of X G z17
    · exact PySem.W.mg_none_of X G z18
    · exact PySem.W.mg_none_of X G z19
    · exact PySem.W.mg_none_of X G z20
    · exact PySem.W.mg_none_of X G z21
  · unfold gls at hx
    simp only [List.mem_cons, List.not_mem_nil, or_false] at hx
end Px
set_option Elab.async false
set_option linter.all false
set_option maxRecDepth 100000
set_option maxHeartbeats 1000000
namespace Px
open PySem L2
open L (pD NumOk PairOk RowOk)
abbrev Tn : String → Option Fn := tab
abbrev G0 : String → Option D := GD
theorem tT : Tn "_law_take" = some L.ir_take := rfl
theorem tN : Tn "_law_number" = some L.ir_number := rfl
theorem tP : Tn "_law_pair" = some L.ir_pair := rfl
theorem tR : Tn "_law_row" = some L.ir_row := rfl
theorem tA : Tn "_law_alike" = some L.ir_alike := rfl
/-- a purse at a row: where it falls short, and by how much; else what it holds behind -/
def wk : Nat → Row → Int → (Nat × Int) ⊕ Int
  | _, [], p => .inr p
  | i, x :: r, p => if p < x.1 then .inl (i, x.1 - p) else wk (i + 1) r (p - x.1 + x.2)
def wkD : (Nat × Int) ⊕ Int → D
  | .inl z => .tup [.str (Str.ofString "short"), .int z.1, .int z.2]
  | .inr q => .tup [.str (Str.ofString "held"), .int q]
abbrev tgE : Tg := .tup (.cons (.nm 2) (.cons (.tup (.cons (.nm 3) (.cons (.nm 4) .nil))) .nil))
abbrev enR (ps : Row) (i : Nat) : List D := ((ps.map pD).zipIdx i).map fun q => .tup [.int q.2, q.1]
theorem enR_cons (x : Int × Int) (ps : Row) (i : Nat) : enR (x :: ps) i = .tup [.int i, pD x] :: enR ps (i + 1) := rfl
section
variable {n : Nat} {S : Sto}
theorem bh_loop (row : Slot) : ∀ (ps : Row) (i : Nat) (p : Int) (a b c : Slot),
    (∀ q, wk i ps p = .inr q → ∃ a' b' c', loopL tgE (exB ⟨callN Tn G0 FUEL n, G0, FUEL⟩ b_behind_0) (enR ps i) [row, .val (.int p), a, b, c] S = .ok (.nx, [row, .val (.int q), a', b', c']) S) ∧
    (∀ z, wk i ps p = .inl z → loopL tgE (exB ⟨callN Tn G0 FUEL n, G0, FUEL⟩ b_behind_0) (enR ps i) [row, .val (.int p), a, b, c] S = .exc ⟨"Short", [("at", .int z.1), ("lacks", .int z.2)]⟩ S)
  | [], i, p, a, b, c => ⟨fun q h => by cases h; exact ⟨a, b, c, rfl⟩, fun z h => by cases h⟩
  | x :: ps, i, p, a, b, c => by
    have ih := bh_loop row ps (i + 1) (p - x.1 + x.2) (.val (.int i)) (.val (.int x.1)) (.val (.int x.2))
    rw [enR_cons]
    unfold loopL
    have e1 : bindT tgE (.tup [.int (i : Int), pD x]) [row, .val (.int p), a, b, c] = some [row, .val (.int p), .val (.int i), .val (.int x.1), .val (.int x.2)] := rfl
    rw [e1]
    dsimp only
    unfold wk
    by_cases h : p < x.1
    · rw [if_pos h]
      refine ⟨fun q z => (by cases z), fun z hz => ?_⟩
      cases hz
      have e2 : exB ⟨callN Tn G0 FUEL n, G0, FUEL⟩ b_behind_0 [row, .val (.int p), .val (.int i), .val (.int x.1), .val (.int x.2)] S = .exc ⟨"Short", [("at", .int i), ("lacks", .int (x.1 - p))]⟩ S := by
        unfold b_behind_0
        simp -implicitDefEqProofs [h]
      rw [e2, Res.bind_exc]
    · rw [if_neg h]
      have e2 : exB ⟨callN Tn G0 FUEL n, G0, FUEL⟩ b_behind_0 [row, .val (.int p), .val (.int i), .val (.int x.1), .val (.int x.2)] S = .ok (.nx, [row, .val (.int (p - x.1 + x.2)), .val (.int i), .val (.int x.1), .val (.int x.2)]) S := by
        unfold b_behind_0
        simp -implicitDefEqProofs [h]
      rw [e2, Res.bind_ok]
      exact ih
theorem wk_loop (row : Slot) : ∀ (ps : Row) (i : Nat) (p : Int) (a b c : Slot),
    (∀ q, wk i ps p = .inr q → ∃ a' b' c', loopL tgE (exB ⟨callN Tn G0 FUEL n, G0, FUEL⟩ b_walked_0) (enR ps i) [row, .val (.int p), a, b, c] S = .ok (.nx, [row, .val (.int q), a', b', c']) S) ∧
    (∀ z, wk i ps p = .inl z → ∃ sl, loopL tgE (exB ⟨callN Tn G0 FUEL n, G0, FUEL⟩ b_walked_0) (enR ps i) [row, .val (.int p), a, b, c] S = .ok (.rt (.val (wkD (.inl z))), sl) S)
  | [], i, p, a, b, c => ⟨fun q h => by cases h; exact ⟨a, b, c, rfl⟩, fun z h => by cases h⟩
  | x :: ps, i, p, a, b, c => by
    have ih := wk_loop row ps (i + 1) (p - x.1 + x.2) (.val (.int i)) (.val (.int x.1)) (.val (.int x.2))
    rw [enR_cons]
    unfold loopL
    have e1 : bindT tgE (.tup [.int (i : Int), pD x]) [row, .val (.int p), a, b, c] = some [row, .val (.int p), .val (.int i), .val (.int x.1), .val (.int x.2)] := rfl
    rw [e1]
    dsimp only
    unfold wk
    by_cases h : p < x.1
    · rw [if_pos h]
      refine ⟨fun q z => (by cases z), fun z hz => ?_⟩
      cases hz
      have e2 : exB ⟨callN Tn G0 FUEL n, G0, FUEL⟩ b_walked_0 [row, .val (.int p), .val (.int i), .val (.int x.1), .val (.int x.2)] S = .ok (.rt (.val (wkD (.inl (i, x.1 - p)))), [row, .val (.int p), .val (.int i), .val (.int x.1), .val (.int x.2)]) S := by
        have z3 : 3 ≤ sizeLine := by decide
        unfold b_walked_0 wkD
        simp -implicitDefEqProofs [h, z3]
      rw [e2, Res.bind_ok]
      exact ⟨_, rfl⟩
    · rw [if_neg h]
      have e2 : exB ⟨callN Tn G0 FUEL n, G0, FUEL⟩ b_walked_0 [row, .val (.int p), .val (.int i), .val (.int x.1), .val (.int x.2)] S = .ok (.nx, [row, .val (.int (p - x.1 + x.2)), .val (.int i), .val (.int x.1), .val (.int x.2)]) S := by
        unfold b_walked_0
        simp -implicitDefEqProofs [h]
      rw [e2, Res.bind_ok]
      exact ih
theorem behind_ok {ps : Row} {p q : Int} (h : wk 0 ps p = .inr q) (n : Nat) (S : Sto) : callN Tn G0 FUEL (n + 1) "behind" [.tup (ps.map pD), .int p] S = .ok (.val (.int q)) S := by
  rw [call_eq (show Tn "behind" = some ir_behind from rfl) rfl]
  obtain ⟨a, b, c, e⟩ := (bh_loop (n := n) (S := S) (.val (.tup (ps.map pD))) ps 0 p .emp .emp .emp).1 q h
  have e3 : enumD (ps.map pD) = enR ps 0 := rfl
  rw [← e3] at e
  unfold ir_behind
  generalize ps.map pD = w at *
  simp -implicitDefEqProofs [e]
theorem behind_exc {ps : Row} {p : Int} {z : Nat × Int} (h : wk 0 ps p = .inl z) (n : Nat) (S : Sto) : callN Tn G0 FUEL (n + 1) "behind" [.tup (ps.map pD), .int p] S = .exc ⟨"Short", [("at", .int z.1), ("lacks", .int z.2)]⟩ S := by
  rw [call_eq (show Tn "behind" = some ir_behind from rfl) rfl]
  have e := (bh_loop (n := n) (S := S) (.val (.tup (ps.map pD))) ps 0 p .emp .emp .emp).2 z h
  have e3 : enumD (ps.map pD) = enR ps 0 := rfl
  rw [← e3] at e
  unfold ir_behind
  generalize ps.map pD = w at *
  simp -implicitDefEqProofs [e]
  rfl
theorem walked_eq (ps : Row) (p : Int) (n : Nat) (S : Sto) : callN Tn G0 FUEL (n + 1) "_law_walked" [.tup (ps.map pD), .int p] S = .ok (.val (wkD (wk 0 ps p))) S := by
  rw [call_eq (show Tn "_law_walked" = some ir_walked from rfl) rfl]
  obtain ⟨w1, w2⟩ := wk_loop (n := n) (S := S) (.val (.tup (ps.map pD))) ps 0 p .emp .emp .emp
  have e3 : enumD (ps.map pD) = enR ps 0 := rfl
  have z2 : 2 ≤ sizeLine := by decide
  rw [← e3] at w1 w2
  cases e : wk 0 ps p with
  | inr q =>
    obtain ⟨a, b, c, e⟩ := w1 q e
    unfold ir_walked wkD
    generalize ps.map pD = w at *
    simp -implicitDefEqProofs [e, z2]
  | inl z =>
    obtain ⟨sl, e⟩ := w2 z e
    generalize wkD (.inl z) = v at *
    unfold ir_walked
    generalize ps.map pD = w at *
    simp -implicitDefEqProofs [e]
theorem told_eq (ps : Row) (p : Int) (n : Nat) (S : Sto) : callN Tn G0 FUEL (n + 2) "_law_told" [.tup (ps.map pD), .int p] S = .ok (.val (wkD (wk 0 ps p))) S := by
  rw [call_eq (show Tn "_law_told" = some ir_told from rfl) rfl]
  have z2 : 2 ≤ sizeLine := by decide
  have z3 : 3 ≤ sizeLine := by decide
  cases e : wk 0 ps p with
  | inr q =>
    have e := behind_ok e n S
    unfold ir_told wkD
    generalize ps.map pD = w at *
    simp -implicitDefEqProofs [e, z2]
  | inl z =>
    have e := behind_exc e n S
    have x1 : xIs "Short" "StintError" = true := by decide
    have x2 : xIs "Short" "Short" = true := by decide
    have x3 : xIs "Short" "ValueError" = true := by decide
    have x4 : xIs "Short" "BadBook" = false := by decide
    have x5 : xIs "Short" "Doomed" = false := by decide
    have x6 : xIs "Short" "NoPurse" = false := by decide
    have x7 : xIs "Short" "TooMany" = false := by decide
    have lk : ∀ x y : D, List.lookup "lacks" [("at", x), ("lacks", y)] = some y := fun _ _ => rfl
    have dx : ∀ (x : Xn) (S : Sto), (Res.exc x S : Res Rv).data = .exc x S := fun _ _ => rfl
    unfold ir_told wkD
    generalize ps.map pD = w at *
    simp -implicitDefEqProofs [e, dx, lk, z3, x1, x2, x3, x4, x5, x6, x7]
theorem al_str (n : Nat) (s : String) (hs : PyData.strOk (Str.ofString s) = true) : L.Al Tn G0 FUEL (n + 1) (.str (Str.ofString s)) := fun S => by
  rw [call_eq tA rfl]
  have q : eqD (.str (Str.ofString s)) (.str (Str.ofString s)) = some true := eqD_strSelf hs
  generalize Str.ofString s = x at *
  have i1 : isIn (.str x) [Ty.tuple] = false := rfl
  have i2 : isIn (.str x) [Ty.bool] = false := rfl
  have i3 : isIn (.str x) [Ty.str] = true := rfl
  unfold L.ir_alike
  simp [q, i1, i2, i3]
theorem al_wk (z : (Nat × Int) ⊕ Int) (n : Nat) : L.Al Tn G0 FUEL (n + 2) (wkD z) := by
  cases z with
  | inl z =>
    refine L.al_tup tA (n + 1) (fun x hx => ?_) (by show 3 ≤ sizeLine; decide)
    simp only [List.mem_cons, List.not_mem_nil, or_false] at hx
    rcases hx with rfl | rfl | rfl
    · exact al_str n _ (by decide +kernel)
    · exact L.al_int tA n _
    · exact L.al_int tA n _
  | inr q =>
    refine L.al_tup tA (n + 1) (fun x hx => ?_) (by show 2 ≤ sizeLine; decide)
    simp only [List.mem_cons, List.not_mem_nil, or_false] at hx
    rcases hx with rfl | rfl
    · exact al_str n _ (by decide +kernel)
    · exact L.al_int tA n _
end
theorem in_one_eq (ps : Row) (n : Nat) (S : Sto) : callN Tn G0 FUEL (n + 1) "_law_in_one" [.tup (ps.map pD)] S = .ok (.val (pD (whl ps))) S := by
  rw [call_eq (show Tn "_law_in_one" = some ir_in_one from rfl) rfl]
  obtain ⟨sl', S', e, rfl, x, y, rfl⟩ := loop_inv0 (t := .tup (.cons (.nm 3) (.cons (.nm 4) .nil))) (b := exB ⟨callN Tn G0 FUEL n, G0, FUEL⟩ b_in_one_0) (items := ps.map pD) (sl := [.val (.tup (ps.map pD)), .val (.int 0), .val (.int 0), .emp, .emp]) (S := S)
    (fun i sl S' => S' = S ∧ ∃ x y, sl = [.val (.tup (ps.map pD)), .val (.int (gn ((ps.take i).foldl jn (0, 0)))), .val (.int (0 - ((ps.take i).foldl jn (0, 0)).1)), x, y]) ⟨rfl, _, _, rfl⟩ (by
      rintro i y sl S' hy ⟨rfl, x, y2, rfl⟩
      rw [List.getElem?_map] at hy
      obtain ⟨p, hp, rfl⟩ := Option.map_eq_some_iff.mp hy
      generalize hc : (ps.take i).foldl jn (0, 0) = c
      have hc2 : (ps.take (i + 1)).foldl jn (0, 0) = jn c p := by
        rw [List.take_add_one, hp, ← hc]
        simp
      rw [hc2]
      refine ⟨_, [.val (.tup (ps.map pD)), .val (.int (gn c - p.1 + p.2)), .val (.int (if gn c - p.1 < 0 - c.1 then gn c - p.1 else 0 - c.1)), .val (.int p.1), .val (.int p.2)], _, rfl, ?_, rfl, .val (.int p.1), .val (.int p.2), ?_⟩
      · unfold b_in_one_0
        generalize ps.map pD = w
        simp -implicitDefEqProofs
      · rw [gn_jn, jn_fst]
        have g1 : gn p = p.2 - p.1 := rfl
        have z1 : gn c - p.1 + p.2 = gn c + gn p := by omega
        have z2 : (if gn c - p.1 < 0 - c.1 then gn c - p.1 else 0 - c.1) = 0 - (if p.1 - gn c > c.1 then p.1 - gn c else c.1) := by
          by_cases q : p.1 - gn c > c.1
          · rw [if_pos q, if_pos (by omega)]; omega
          · rw [if_neg q, if_neg (by omega)]
        rw [z1, z2])
  rw [List.length_map, List.take_length] at e
  have ew : ps.foldl jn (0, 0) = whl ps := rfl
  rw [ew] at e
  unfold ir_in_one
  have r1 : pD (whl ps) = .tup [.int (0 - (0 - (whl ps).1)), .int (gn (whl ps) - (0 - (whl ps).1))] := by
    unfold pD gn
    congr 3
    · omega
    · congr 1; omega
  rw [r1]
  generalize gn (whl ps) = gg at *
  generalize (whl ps).1 = w1 at *
  generalize ps.map pD = w at *
  simp -implicitDefEqProofs at e
  simp -implicitDefEqProofs [e]
@[simp] theorem errAt_ref (i : Nat) (S : Sto) : errAt (.ref i) S = match S[i]? with
    | some (.err x) => some x
    | _ => none := rfl
/-- one that is made: its class, its fields, their texts, what they are -/
structure Mk where
  c : String
  fs : List String
  es : Exs
  ds : List D
def Mk.x (t : Mk) : Xn := ⟨t.c, t.fs.zip t.ds⟩
def mks : List Mk → Exs
  | [] => .nil
  | t :: L => .cons (.mke t.c t.fs t.es) (mks L)
def rfs (b : Nat) : Nat → List D
  | 0 => []
  | k + 1 => .ref b :: rfs (b + 1) k
def ers (L : List Mk) : Sto := L.map fun t => .err t.x
theorem mks_ok (F : Cf) (sl : Slots) : ∀ (L : List Mk) (S : Sto), (∀ t ∈ L, (∀ S, evA F t.es sl S = .ok t.ds S) ∧ t.ds.length = t.fs.length) → evA F (mks L) sl S = .ok (rfs S.length L.length) (S ++ ers L)
  | [], S, _ => by
    show Res.ok [] S = Res.ok [] (S ++ [])
    rw [List.append_nil]
  | t :: L, S, h => by
    obtain ⟨h1, h2⟩ := h t List.mem_cons_self
    have ih := mks_ok F sl L (S ++ [.err t.x]) fun t ht => h t (List.mem_cons_of_mem _ ht)
    have em : evE F (.mke t.c t.fs t.es) sl S = .ok (.val (.ref S.length)) (S ++ [.err t.x]) := by
      rw [ev_mke, h1, Res.bind_ok]
      unfold mkeR
      rw [if_pos h2]
      rfl
    rw [List.length_append] at ih
    show (evE F (.mke t.c t.fs t.es) sl S).data.bind _ = _
    rw [em]
    show (evA F (mks L) sl (S ++ [.err t.x])).bind _ = _
    rw [ih, List.append_assoc]
    rfl
theorem rfs_app : ∀ (k m b : Nat), rfs b k ++ rfs (b + k) m = rfs b (k + m)
  | 0, m, b => by rw [Nat.zero_add]; rfl
  | k + 1, m, b => by
    have := rfs_app k m (b + 1)
    rw [show b + 1 + k = b + (k + 1) by omega] at this
    rw [show k + 1 + m = (k + m) + 1 by omega]
    show D.ref b :: (rfs (b + 1) k ++ rfs (b + (k + 1)) m) = _
    rw [this]
    rfl
theorem rfs_len : ∀ (k b : Nat), (rfs b k).length = k
  | 0, _ => rfl
  | k + 1, b => by show (rfs (b + 1) k).length + 1 = _; rw [rfs_len]
theorem rfs_at : ∀ (k b i : Nat), i < k → (rfs b k)[i]? = some (.ref (b + i))
  | 0, _, _, h => by omega
  | k + 1, b, 0, _ => rfl
  | k + 1, b, i + 1, h => by
    have := rfs_at k (b + 1) i (by omega)
    rw [show b + 1 + i = b + (i + 1) by omega] at this
    exact this
def nms : List String := ["Short", "BadBook", "NoPlace", "TooMany", "NoOrder", "NoMove", "BadCompany", "NoStanding", "NoWay", "NoPurse", "NoPart", "NoNumber", "Long", "Doomed", "NoStretch", "Begun", "Nothing", "NoText", "StintError", "ValueError"]
def kin (c : String) : List D := nms.map fun d => .bl (xIs c d)
theorem kinds_eq {S : Sto} {i : Nat} {x : Xn} (h : S[i]? = some (.err x)) (n : Nat) : callN Tn G0 FUEL (n + 1) "_law_kinds" [.ref i] S = .ok (.fresh (.lst (kin x.cls))) S := by
  rw [call_eq (show Tn "_law_kinds" = some ir_kinds from rfl) rfl]
  have z2 : 2 ≤ sizeLine := by decide
  have z3 : 3 ≤ sizeLine := by decide
  have z6 : 6 ≤ sizeLine := by decide
  have z9 : 9 ≤ sizeLine := by decide
  have z12 : 12 ≤ sizeLine := by decide
  have z15 : 15 ≤ sizeLine := by decide
  have z18 : 18 ≤ sizeLine := by decide
  have z20 : 20 ≤ sizeLine := by decide
  obtain ⟨c, fs⟩ := x
  unfold ir_kinds kin nms
  simp -implicitDefEqProofs [h, z2, z3, z6, z9, z12, z15, z18, z20]
def L1 (a b : Int) : List Mk := [⟨"Short", ["at", "lacks"], .cons (.var 0) (.cons (.var 1) .nil), [.int a, .int b]⟩, ⟨"BadBook", ["place", "why"], .cons (.tup (.cons (.var 0) .nil)) (.cons (.str "need") .nil), [.tup [.int a], .str (Str.ofString "need")]⟩,
  ⟨"NoPlace", ["place"], .cons (.tup (.cons (.var 1) .nil)) .nil, [.tup [.int b]]⟩, ⟨"TooMany", ["most"], .cons (.var 0) .nil, [.int a]⟩, ⟨"NoOrder", [], .nil, []⟩, ⟨"NoMove", [], .nil, []⟩]
def L2' (a b : Int) : List Mk := [⟨"BadCompany", [], .nil, []⟩, ⟨"NoStanding", [], .nil, []⟩, ⟨"NoWay", ["way"], .cons (.tup (.cons (.var 0) .nil)) .nil, [.tup [.int a]]⟩, ⟨"NoPurse", ["purse"], .cons (.var 1) .nil, [.int b]⟩,
  ⟨"NoPart", ["place"], .cons (.tup (.cons (.var 0) (.cons (.var 1) .nil))) .nil, [.tup [.int a, .int b]]⟩, ⟨"NoNumber", ["number"], .cons (.var 0) .nil, [.int a]⟩]
def L3 (a b : Int) : List Mk := [⟨"Long", [], .nil, []⟩, ⟨"Doomed", ["lacks"], .cons (.var 1) .nil, [.int b]⟩, ⟨"NoStretch", [], .nil, []⟩, ⟨"Begun", ["place"], .cons (.tup (.cons (.var 1) (.cons (.var 0) .nil))) .nil, [.tup [.int b, .int a]]⟩,
  ⟨"Nothing", [], .nil, []⟩, ⟨"NoText", ["at"], .cons (.var 0) .nil, [.int a]⟩]
def x1 : Ex := .list (mks (L1 0 0))
def x2 : Ex := .list (mks (L2' 0 0))
def x3 : Ex := .list (mks (L3 0 0))
def LL (a b : Int) : List Mk := L1 a b ++ (L2' a b ++ L3 a b)
def fl (i : Int) (f : String) : Ex := .fldr (.ix (.var 2) (.int i)) f
def xt1 : Ex := .list (.cons (fl 0 "at") (.cons (fl 0 "lacks") (.cons (fl 1 "place") (.cons (fl 1 "why") (.cons (fl 2 "place") (.cons (fl 3 "most") .nil))))))
def xt2 : Ex := .list (.cons (fl 8 "way") (.cons (fl 9 "purse") (.cons (fl 10 "place") (.cons (fl 11 "number") (.cons (fl 13 "lacks") .nil)))))
def xt3 : Ex := .list (.cons (fl 15 "place") (.cons (fl 17 "at") .nil))
def xd : Ex := .list (.cons (.var 0) (.cons (.var 1) (.cons (.tup (.cons (.var 0) .nil)) (.cons (.str "need") (.cons (.tup (.cons (.var 1) .nil)) (.cons (.var 0) (.cons (.tup (.cons (.var 0) .nil)) (.cons (.var 1) (.cons (.tup (.cons (.var 0) (.cons (.var 1) .nil))) (.cons (.var 0) (.cons (.var 1) .nil)))))))))))
def xe : Ex := .list (.cons (.tup (.cons (.var 1) (.cons (.var 0) .nil))) (.cons (.var 0) .nil))
theorem made_is : ir_made_right = ⟨2, ["_law_one", "_law_other", "_law_errors", "_law_k", "_law_j", "_law_told_here", "_law_due"], (.cons (.asg (.nm 2) x1)
 (.cons (.frz 2)
 (.cons (.asg (.nm 2) (.bin .add (.var 2) x2))
 (.cons (.frz 2)
 (.cons (.asg (.nm 2) (.bin .add (.var 2) x3))
 (.cons (.frz 2)
 (.cons (.loop (.nm 3) (.rng1 (.int 18)) b_made_right_0)
 (.cons (.asg (.nm 5) xt1)
 (.cons (.frz 5)
 (.cons (.asg (.nm 5) (.bin .add (.var 5) xt2))
 (.cons (.frz 5)
 (.cons (.asg (.nm 6) xd)
 (.cons (.frz 6)
 (.cons (.ret (.and (.cmp .eq (.var 5) (.var 6)) (.cmp .eq xt3 xe)))
 .nil))))))))))))))⟩ := rfl
section
variable (F : Cf) (a b : Int)
theorem mk_list (L : List Mk) (M : Exs) (hM : M = mks L) (sl : Slots) (S : Sto) (h : ∀ t ∈ L, (∀ S, evA F t.es sl S = .ok t.ds S) ∧ t.ds.length = t.fs.length) (hl : L.length ≤ 6) : evE F (.list M) sl S = .ok (.fresh (.lst (rfs S.length L.length))) (S ++ ers L) := by
  subst hM
  rw [ev_list, mks_ok F sl L S h, Res.bind_ok, if_pos (by rw [rfs_len]; unfold sizeLine; omega)]
theorem x1_ok (s2 s3 s4 s5 s6 : Slot) (S : Sto) : evE F x1 [.val (.int a), .val (.int b), s2, s3, s4, s5, s6] S = .ok (.fresh (.lst (rfs S.length 6))) (S ++ ers (L1 a b)) := by
  have z1 : 1 ≤ sizeLine := by decide
  refine mk_list F (L1 a b) _ rfl _ S (fun t ht => ?_) (by show 6 ≤ 6; decide)
  simp only [L1, List.mem_cons, List.not_mem_nil, or_false] at ht
  rcases ht with rfl | rfl | rfl | rfl | rfl | rfl <;> refine ⟨fun S => ?_, rfl⟩ <;> simp -implicitDefEqProofs [z1]
theorem x2_ok (s2 s3 s4 s5 s6 : Slot) (S : Sto) : evE F x2 [.val (.int a), .val (.int b), s2, s3, s4, s5, s6] S = .ok (.fresh (.lst (rfs S.length 6))) (S ++ ers (L2' a b)) := by
  have z1 : 1 ≤ sizeLine := by decide
  have z2 : 2 ≤ sizeLine := by decide
  refine mk_list F (L2' a b) _ rfl _ S (fun t ht => ?_) (by show 6 ≤ 6; decide)
  simp only [L2', List.mem_cons, List.not_mem_nil, or_false] at ht
  rcases ht with rfl | rfl | rfl | rfl | rfl | rfl <;> refine ⟨fun S => ?_, rfl⟩ <;> simp -implicitDefEqProofs [z1, z2]
theorem x3_ok (s2 s3 s4 s5 s6 : Slot) (S : Sto) : evE F x3 [.val (.int a), .val (.int b), s2, s3, s4, s5, s6] S = .ok (.fresh (.lst (rfs S.length 6))) (S ++ ers (L3 a b)) := by
  have z2 : 2 ≤ sizeLine := by decide
  refine mk_list F (L3 a b) _ rfl _ S (fun t ht => ?_) (by show 6 ≤ 6; decide)
  simp only [L3, List.mem_cons, List.not_mem_nil, or_false] at ht
  rcases ht with rfl | rfl | rfl | rfl | rfl | rfl <;> refine ⟨fun S => ?_, rfl⟩ <;> simp -implicitDefEqProofs [z2]
theorem ers_at (S : Sto) (L : List Mk) (i : Nat) (t : Mk) (h : L[i]? = some t) : (S ++ ers L)[S.length + i]? = some (.err t.x) := by
  rw [List.getElem?_append_right (Nat.le_add_right _ _), Nat.add_sub_cancel_left]
  unfold ers
  rw [List.getElem?_map, h]
  rfl
theorem at_rfs {m k i : Nat} (h : i < k) : opIxD (.lst (rfs m k)) (.int (i : Int)) = some (.val (.ref (m + i))) := by
  show (ixD (rfs m k) (i : Int)).map Rv.val = _
  have e : atI (rfs m k) (i : Int) = (rfs m k)[i]? := by
    obtain ⟨d, e1, e2⟩ := at_in (l := rfs m k) (i := (i : Int)) (by omega) (by rw [rfs_len]; omega)
    rw [e2, ← e1, Int.toNat_natCast]
  show (atI (rfs m k) (i : Int)).map Rv.val = _
  rw [e, rfs_at k m i h]
  rfl
theorem fl_ok {S : Sto} {m : Nat} (s0 s1 s3 s4 s5 s6 : Slot) {i : Nat} (z : Int) (hz : z = (i : Int)) (hi : i < 18) {x : Xn} (hx : S[m + i]? = some (.err x)) (f : String) (y : D) (hy : x.fs.lookup f = some y) : evE F (fl z f) [s0, s1, .val (.lst (rfs m 18)), s3, s4, s5, s6] S = .ok (.val y) S := by
  subst hz
  have e := at_rfs (m := m) hi
  unfold fl
  generalize rfs m 18 = w at *
  generalize (i : Int) = ii at *
  simp -implicitDefEqProofs [e, hx, hy]
end
def kinB (c : String) : List Bool := nms.map fun d => xIs c d
theorem kin_is (c : String) : kin c = (kinB c).map D.bl := by unfold kin kinB; rw [List.map_map]; rfl
def rowB (k : Nat) : List Bool := (List.range 18).map (fun (j : Nat) => ((0 : Int) + (j : Int)) == (k : Int)) ++ [true, true]
def csN : List String := ["Short", "BadBook", "NoPlace", "TooMany", "NoOrder", "NoMove", "BadCompany", "NoStanding", "NoWay", "NoPurse", "NoPart", "NoNumber", "Long", "Doomed", "NoStretch", "Begun", "Nothing", "NoText"]
theorem kin_row : ∀ k, k < 18 → kinB (csN.getD k "") = rowB k := by decide
theorem ll_cls (a b : Int) : ∀ k, k < 18 → ∃ t, (LL a b)[k]? = some t ∧ t.c = csN.getD k "" := fun k h => by
  have e : ((LL a b)[k]?).map Mk.c = csN[k]? := by rw [← List.getElem?_map]; rfl
  have e2 : csN[k]? = some (csN.getD k "") := by rw [List.getD_eq_getElem?_getD, List.getElem?_eq_getElem (show k < csN.length from h)]; rfl
  rw [e2] at e
  exact Option.map_eq_some_iff.mp e
theorem row_shaped : ∀ k, k < 18 → SeqAt.shaped (D.lst ((rowB k).map D.bl)).toP = true := by decide +kernel
theorem row_self {k : Nat} (h : k < 18) : eqD (.lst ((rowB k).map D.bl)) (.lst ((rowB k).map D.bl)) = some true := by
  show (if _ then _ else _) = _
  rw [if_pos ⟨row_shaped k h, row_shaped k h⟩]
  exact congrArg some (SeqAt.eqv_refl _ (SeqAt.canLay_of_shaped (row_shaped k h)))
theorem comp_row (F : Cf) (S : Sto) (s0 s1 s2 s5 s6 : Slot) (k : Nat) : evE F c_made_right_0 [s0, s1, s2, .val (.int (k : Int)), .emp, s5, s6] S = .ok (.fresh (.lst (((List.range 18).map fun (j : Nat) => ((0 : Int) + (j : Int)) == (k : Int)).map D.bl))) S := by
  unfold c_made_right_0
  rw [List.map_map]
  refine ev_comp_mapL (List.range 18) (fun (j : Nat) => D.int ((0 : Int) + (j : Int))) _ ?_ (by decide) fun j _ => ⟨_, rfl, rfl, ?_⟩
  · have s18 : small62 18 = true := rfl
    have e : (List.range 18).map (fun (j : Nat) => D.int ((0 : Int) + (j : Int))) = rngD 0 18 := rfl
    rw [e]
    simp -implicitDefEqProofs [s18]
  · show _ = Res.ok (D.bl (((0 : Int) + (j : Int)) == (k : Int))) S
    generalize (0 : Int) + (j : Int) = u at *
    generalize (k : Int) = v at *
    simp -implicitDefEqProofs [eqD_int]
theorem one_right {S : Sto} {m : Nat} (s0 s1 s5 s6 : Slot) {k : Nat} (hk : k < 18) {x : Xn} (hx : S[m + k]? = some (.err x)) (hc : x.cls = csN.getD k "") (n : Nat) :
    exB ⟨callN Tn G0 FUEL (n + 1), G0, FUEL⟩ b_made_right_0 [s0, s1, .val (.lst (rfs m 18)), .val (.int (k : Int)), .emp, s5, s6] S = .ok (.nx, [s0, s1, .val (.lst (rfs m 18)), .val (.int (k : Int)), .emp, s5, s6]) S := by
  have e1 := at_rfs (m := m) hk
  have e2 := kinds_eq hx n
  rw [kin_is, hc, kin_row k hk] at e2
  have e3 := fun F => comp_row F S s0 s1 (.val (.lst (rfs m 18))) s5 s6 k
  have e4 := row_self hk
  have e5 : opBinD .add (.lst (((List.range 18).map fun (j : Nat) => ((0 : Int) + (j : Int)) == (k : Int)).map D.bl)) (.lst [.bl true, .bl true]) = some (.fresh (.lst ((rowB k).map D.bl))) := by
    rw [ob_addL, if_pos (by rw [List.length_map, List.length_map, List.length_range]; decide)]
    unfold rowB
    rw [List.map_append]
    rfl
  have z2 : 2 ≤ sizeLine := by decide
  generalize ((List.range 18).map fun (j : Nat) => ((0 : Int) + (j : Int)) == (k : Int)).map D.bl = w1 at *
  generalize (rowB k).map D.bl = w2 at *
  generalize rfs m 18 = w at *
  generalize (k : Int) = kk at *
  unfold b_made_right_0
  simp -implicitDefEqProofs [e1, e2, e3, e4, e5, z2]
theorem eqD_rfl {d : D} (h : SeqAt.shaped d.toP = true) : eqD d d = some true := by
  show (if _ then _ else _) = _
  rw [if_pos ⟨h, h⟩]
  exact congrArg some (SeqAt.eqv_refl _ (SeqAt.canLay_of_shaped h))
theorem due_shaped (a b : Int) {x : Str} (hx : PyData.strOk x = true) : SeqAt.shaped (D.lst [.int a, .int b, .tup [.int a], .str x, .tup [.int b], .int a, .tup [.int a], .int b, .tup [.int a, .int b], .int a, .int b]).toP = true := by
  unfold SeqAt.shaped
  rw [Bool.and_eq_true]
  refine ⟨?_, rfl⟩
  simp [D.toP, D.toPs, PyData.canLay0, PyData.canLayAll0, hx]
theorem made_right_eq (a b : Int) (n : Nat) (S : Sto) : callN Tn G0 FUEL (n + 2) "_law_made_right" [.int a, .int b] S = .ok (.val (.bl true)) (S ++ ers (LL a b)) := by
  rw [call_eq (show Tn "_law_made_right" = some ir_made_right from rfl) rfl, made_is]
  have e1 := fun s2 s3 s4 s5 s6 => x1_ok ⟨callN Tn G0 FUEL (n + 1), G0, FUEL⟩ a b s2 s3 s4 s5 s6 S
  have e2 := fun s2 s3 s4 s5 s6 => x2_ok ⟨callN Tn G0 FUEL (n + 1), G0, FUEL⟩ a b s2 s3 s4 s5 s6 (S ++ ers (L1 a b))
  have e3 := fun s2 s3 s4 s5 s6 => x3_ok ⟨callN Tn G0 FUEL (n + 1), G0, FUEL⟩ a b s2 s3 s4 s5 s6 ((S ++ ers (L1 a b)) ++ ers (L2' a b))
  have l1 : (S ++ ers (L1 a b)).length = S.length + 6 := by rw [List.length_append]; rfl
  have l2 : ((S ++ ers (L1 a b)) ++ ers (L2' a b)).length = S.length + 12 := by rw [List.length_append, l1]; rfl
  rw [l1] at e2
  rw [l2] at e3
  have eS : ((S ++ ers (L1 a b)) ++ ers (L2' a b)) ++ ers (L3 a b) = S ++ ers (LL a b) := by
    unfold LL ers
    rw [List.map_append, List.map_append, List.append_assoc, List.append_assoc]
  rw [eS] at e3
  have b1 : opBinD .add (.lst (rfs S.length 6)) (.lst (rfs (S.length + 6) 6)) = some (.fresh (.lst (rfs S.length 12))) := by
    rw [ob_addL, if_pos (by rw [rfs_len, rfs_len]; decide), rfs_app]
  have b2 : opBinD .add (.lst (rfs S.length 12)) (.lst (rfs (S.length + 12) 6)) = some (.fresh (.lst (rfs S.length 18))) := by
    rw [ob_addL, if_pos (by rw [rfs_len, rfs_len]; decide), rfs_app]
  have at_ : ∀ i t, (LL a b)[i]? = some t → (S ++ ers (LL a b))[S.length + i]? = some (.err t.x) := fun i t h => ers_at S (LL a b) i t h
  obtain ⟨sl', S', e4, rfl, x3, rfl⟩ := loop_inv0 (t := .nm 3) (b := exB ⟨callN Tn G0 FUEL (n + 1), G0, FUEL⟩ b_made_right_0) (items := rngD 0 18) (sl := [.val (.int a), .val (.int b), .val (.lst (rfs S.length 18)), .emp, .emp, .emp, .emp]) (S := S ++ ers (LL a b))
    (fun i sl S' => S' = S ++ ers (LL a b) ∧ ∃ x3, sl = [.val (.int a), .val (.int b), .val (.lst (rfs S.length 18)), x3, .emp, .emp, .emp]) ⟨rfl, _, rfl⟩ (by
      rintro i v sl S' hy ⟨rfl, x3, rfl⟩
      obtain ⟨rfl, hi⟩ := rng_get hy
      have hi : i < 18 := hi
      obtain ⟨t, ht, hc⟩ := ll_cls a b i hi
      refine ⟨_, _, _, rfl, ?_, rfl, .val (.int (i : Int)), rfl⟩
      rw [Int.zero_add]
      exact one_right _ _ _ _ hi (at_ i t ht) hc n)
  have s18 : small62 18 = true := rfl
  generalize hSS : S ++ ers (LL a b) = S1 at *
  have F := fl_ok ⟨callN Tn G0 FUEL (n + 1), G0, FUEL⟩ (S := S1) (m := S.length)
  have f0 := fun s0 s1 s3 s4 s5 s6 => F s0 s1 s3 s4 s5 s6 (i := 0) 0 rfl (by decide) (at_ 0 _ rfl) "at" (.int a) rfl
  have f1 := fun s0 s1 s3 s4 s5 s6 => F s0 s1 s3 s4 s5 s6 (i := 0) 0 rfl (by decide) (at_ 0 _ rfl) "lacks" (.int b) rfl
  have f2 := fun s0 s1 s3 s4 s5 s6 => F s0 s1 s3 s4 s5 s6 (i := 1) 1 rfl (by decide) (at_ 1 _ rfl) "place" (.tup [.int a]) rfl
  have f3 := fun s0 s1 s3 s4 s5 s6 => F s0 s1 s3 s4 s5 s6 (i := 1) 1 rfl (by decide) (at_ 1 _ rfl) "why" (.str (Str.ofString "need")) rfl
  have f4 := fun s0 s1 s3 s4 s5 s6 => F s0 s1 s3 s4 s5 s6 (i := 2) 2 rfl (by decide) (at_ 2 _ rfl) "place" (.tup [.int b]) rfl
  have f5 := fun s0 s1 s3 s4 s5 s6 => F s0 s1 s3 s4 s5 s6 (i := 3) 3 rfl (by decide) (at_ 3 _ rfl) "most" (.int a) rfl
  have f6 := fun s0 s1 s3 s4 s5 s6 => F s0 s1 s3 s4 s5 s6 (i := 8) 8 rfl (by decide) (at_ 8 _ rfl) "way" (.tup [.int a]) rfl
  have f7 := fun s0 s1 s3 s4 s5 s6 => F s0 s1 s3 s4 s5 s6 (i := 9) 9 rfl (by decide) (at_ 9 _ rfl) "purse" (.int b) rfl
  have f8 := fun s0 s1 s3 s4 s5 s6 => F s0 s1 s3 s4 s5 s6 (i := 10) 10 rfl (by decide) (at_ 10 _ rfl) "place" (.tup [.int a, .int b]) rfl
  have f9 := fun s0 s1 s3 s4 s5 s6 => F s0 s1 s3 s4 s5 s6 (i := 11) 11 rfl (by decide) (at_ 11 _ rfl) "number" (.int a) rfl
  have f10 := fun s0 s1 s3 s4 s5 s6 => F s0 s1 s3 s4 s5 s6 (i := 13) 13 rfl (by decide) (at_ 13 _ rfl) "lacks" (.int b) rfl
  have f11 := fun s0 s1 s3 s4 s5 s6 => F s0 s1 s3 s4 s5 s6 (i := 15) 15 rfl (by decide) (at_ 15 _ rfl) "place" (.tup [.int b, .int a]) rfl
  have f12 := fun s0 s1 s3 s4 s5 s6 => F s0 s1 s3 s4 s5 s6 (i := 17) 17 rfl (by decide) (at_ 17 _ rfl) "at" (.int a) rfl
  have z1 : 1 ≤ sizeLine := by decide
  have z2 : 2 ≤ sizeLine := by decide
  have z5 : 5 ≤ sizeLine := by decide
  have z6 : 6 ≤ sizeLine := by decide
  have z11 : 11 ≤ sizeLine := by decide
  have q1 : eqD (.lst [.int a, .int b, .tup [.int a], .str (Str.ofString "need"), .tup [.int b], .int a, .tup [.int a], .int b, .tup [.int a, .int b], .int a, .int b]) (.lst [.int a, .int b, .tup [.int a], .str (Str.ofString "need"), .tup [.int b], .int a, .tup [.int a], .int b, .tup [.int a, .int b], .int a, .int b]) = some true := eqD_rfl (due_shaped a b (by decide +kernel))
  have q2 : eqD (.lst [.tup [.int b, .int a], .int a]) (.lst [.tup [.int b, .int a], .int a]) = some true := eqD_rfl (by rfl)
  have t1 : ∀ s0 s1 s3 s4 s5 s6 : Slot, evE ⟨callN Tn G0 FUEL (n + 1), G0, FUEL⟩ xt1 [s0, s1, .val (.lst (rfs S.length 18)), s3, s4, s5, s6] S1 = .ok (.fresh (.lst [.int a, .int b, .tup [.int a], .str (Str.ofString "need"), .tup [.int b], .int a])) S1 := fun s0 s1 s3 s4 s5 s6 => by
    unfold xt1
    simp -implicitDefEqProofs [f0, f1, f2, f3, f4, f5, z6]
  have t2 : ∀ s0 s1 s3 s4 s5 s6 : Slot, evE ⟨callN Tn G0 FUEL (n + 1), G0, FUEL⟩ xt2 [s0, s1, .val (.lst (rfs S.length 18)), s3, s4, s5, s6] S1 = .ok (.fresh (.lst [.tup [.int a], .int b, .tup [.int a, .int b], .int a, .int b])) S1 := fun s0 s1 s3 s4 s5 s6 => by
    unfold xt2
    simp -implicitDefEqProofs [f6, f7, f8, f9, f10, z5]
  have t3 : ∀ s0 s1 s3 s4 s5 s6 : Slot, evE ⟨callN Tn G0 FUEL (n + 1), G0, FUEL⟩ xt3 [s0, s1, .val (.lst (rfs S.length 18)), s3, s4, s5, s6] S1 = .ok (.fresh (.lst [.tup [.int b, .int a], .int a])) S1 := fun s0 s1 s3 s4 s5 s6 => by
    unfold xt3
    simp -implicitDefEqProofs [f11, f12, z2]
  have t4 : ∀ s2 s3 s4 s5 s6 : Slot, evE ⟨callN Tn G0 FUEL (n + 1), G0, FUEL⟩ xd [.val (.int a), .val (.int b), s2, s3, s4, s5, s6] S1 = .ok (.fresh (.lst [.int a, .int b, .tup [.int a], .str (Str.ofString "need"), .tup [.int b], .int a, .tup [.int a], .int b, .tup [.int a, .int b], .int a, .int b])) S1 := fun s2 s3 s4 s5 s6 => by
    unfold xd
    simp -implicitDefEqProofs [z1, z2, z11]
  have t5 : ∀ s2 s3 s4 s5 s6 : Slot, evE ⟨callN Tn G0 FUEL (n + 1), G0, FUEL⟩ xe [.val (.int a), .val (.int b), s2, s3, s4, s5, s6] S1 = .ok (.fresh (.lst [.tup [.int b, .int a], .int a])) S1 := fun s2 s3 s4 s5 s6 => by
    unfold xe
    simp -implicitDefEqProofs [z2]
  clear f0 f1 f2 f3 f4 f5 f6 f7 f8 f9 f10 f11 f12 F at_ l1 l2 eS
  generalize (S ++ ers (L1 a b)) ++ ers (L2' a b) = SB at *
  generalize S ++ ers (L1 a b) = SA at *
  generalize rfs S.length 18 = w18 at *
  generalize rfs S.length 12 = w12 at *
  generalize rfs S.length 6 = w6 at *
  generalize rfs (S.length + 6) 6 = w66 at *
  generalize rfs (S.length + 12) 6 = w126 at *
  simp -implicitDefEqProofs [e1, e2, e3, b1, b2, e4, s18, t1, t2, t3, t4, t5, q1, q2, z11]
theorem inner_ok (qs : Row) (n : Nat) (S : Sto) (a b c d e : Slot) : ∀ (ms : List Int) (f g : Slot), ∃ f' g', loopL (.nm 6) (exB ⟨callN Tn G0 FUEL (n + 5), G0, FUEL⟩ b_law_0) (ms.map D.int) [a, b, c, .val (.tup (qs.map pD)), d, e, f, g] S = .ok (.nx, [a, b, c, .val (.tup (qs.map pD)), d, e, f', g']) S
  | [], f, g => ⟨f, g, rfl⟩
  | m :: ms, f, g => by
    obtain ⟨f', g', ih⟩ := inner_ok qs n S a b c d e ms (.val (.int m)) (.val (wkD (wk 0 qs m)))
    refine ⟨f', g', ?_⟩
    rw [List.map_cons]
    unfold loopL
    show (exB ⟨callN Tn G0 FUEL (n + 5), G0, FUEL⟩ b_law_0 [a, b, c, .val (.tup (qs.map pD)), d, e, .val (.int m), g] S).bind _ = _
    have e1 := walked_eq qs m (n + 4) S
    have e2 := told_eq qs m (n + 3) S
    have e3 := al_wk (wk 0 qs m) (n + 3) S
    have key : exB ⟨callN Tn G0 FUEL (n + 5), G0, FUEL⟩ b_law_0 [a, b, c, .val (.tup (qs.map pD)), d, e, .val (.int m), g] S = .ok (.nx, [a, b, c, .val (.tup (qs.map pD)), d, e, .val (.int m), .val (wkD (wk 0 qs m))]) S := by
      unfold b_law_0
      generalize wkD (wk 0 qs m) = v at *
      generalize qs.map pD = w at *
      simp -implicitDefEqProofs [e1, e2, e3]
    rw [key, Res.bind_ok]
    exact ih
def tl4 : Sxs := (.cons (.asg (.nm 4) (.ix (.call "_law_in_one" (.cons (.var 3) .nil)) (.int 0)))
 (.cons (.asg (.nm 5) (.bi .repr (.cons (.var 3) .nil)))
 (.cons (.loop (.nm 6) (.val (.list (.cons (.int 0) (.cons (.call "_law_number" (.cons (.var 1) .nil)) (.cons (.var 4) (.cons (.bi .max2 (.cons (.int 0) (.cons (.bin .sub (.var 4) (.int 1)) .nil))) (.cons (.bin .add (.var 4) (.int 1)) (.cons (.bin .add (.var 4) (.call "_law_number" (.cons (.var 1) .nil))) .nil)))))))) b_law_0)
 (.cons (.ife (.cmp .ne (.bi .repr (.cons (.var 3) .nil)) (.var 5))
 (.cons (.ret (.bl false))
 .nil)
 .nil)
 .nil))))
theorem law_is : b_law_1 = (.cons (.asg (.nm 3) (.call "_law_row" (.cons (.var 1) (.cons (.int 30) .nil))))
 (.cons (.frz 3)
 (.cons (.ife (.cmp .eq (.call "_law_take" (.cons (.var 1) (.cons (.int 4) .nil))) (.int 0))
 (.cons (.asg (.nm 3) (.sl (.bin .mul (.var 3) (.int 400)) .no (.yes (.int 400))))
 (.cons (.frz 3)
 .nil))
 .nil)
 tl4))) := rfl
theorem fin_ok (n : Nat) {S : Sto} (hS : StOk S) (qs : Row) (hq : RowOk qs) (hl : qs.length ≤ 400) (a c s4 s5 s6 s7 : Slot) :
    ∃ s4' s5' s6' s7' S', exB ⟨callN Tn G0 FUEL (n + 5), G0, FUEL⟩ tl4 [a, .val (.ref 0), c, .val (.tup (qs.map pD)), s4, s5, s6, s7] S = .ok (.nx, [a, .val (.ref 0), c, .val (.tup (qs.map pD)), s4', s5', s6', s7']) S' ∧ StOk S' := by
  obtain ⟨k, S1, e1, _, h1⟩ := L.number_ok (G := G0) (wf := FUEL) tT tN hS (n + 3)
  obtain ⟨j, S2, e2, _, h2⟩ := L.number_ok (G := G0) (wf := FUEL) tT tN h1 (n + 3)
  have sh := shw_row hq hl
  have e4 := sh.repr (by decide) (by decide)
  have e5 := in_one_eq qs (n + 4) S
  have e9 : eqD (.str (D.tup (qs.map pD)).toP.shown) (.str (D.tup (qs.map pD)).toP.shown) = some true := eqD_strSelf sh.ok
  have z6 : 6 ≤ sizeLine := by decide
  have ix : opIxD (pD (whl qs)) (.int 0) = some (.val (.int (whl qs).1)) := rfl
  generalize hw : (whl qs).1 = w1 at *
  obtain ⟨f', g', e6⟩ := inner_ok qs n S2 a (.val (.ref 0)) c (.val (.int w1)) (.val (.str (D.tup (qs.map pD)).toP.shown)) [0, k, w1, if 1 < w1 then w1 - 1 else 0, w1 + 1, w1 + j] s6 s7
  refine ⟨.val (.int w1), .val (.str (D.tup (qs.map pD)).toP.shown), f', g', S2, ?_, h2⟩
  simp only [List.map_cons, List.map_nil] at e6
  generalize (D.tup (qs.map pD)).toP.shown = sh at *
  generalize pD (whl qs) = v at *
  generalize qs.map pD = w at *
  unfold tl4
  simp -implicitDefEqProofs [e1, e2, e4, e5, e6, e9, ix, z6]
theorem turn_ok (n : Nat) {S : Sto} (hS : StOk S) (a c s3 s4 s5 s6 s7 : Slot) :
    ∃ s3' s4' s5' s6' s7' S', exB ⟨callN Tn G0 FUEL (n + 5), G0, FUEL⟩ b_law_1 [a, .val (.ref 0), c, s3, s4, s5, s6, s7] S = .ok (.nx, [a, .val (.ref 0), c, s3', s4', s5', s6', s7']) S' ∧ StOk S' := by
  obtain ⟨ps, S1, e1, hps, hl, h1⟩ := L.row_ok (G := G0) (wf := FUEL) tT tN tP tR hS (m := 30) (by decide) (by decide) (n + 1)
  obtain ⟨w, S2, e2, w0, w1, h2⟩ := L.take_ok (G := G0) (wf := FUEL) tT h1 (m := 4) (by decide) (by decide) (n + 4)
  by_cases c0 : w = 0
  · subst c0
    obtain ⟨big, eb, hb⟩ : ∃ big : Row, opBinD .mul (.tup (ps.map pD)) (.int 400) = some (.val (.tup (big.map pD))) ∧ RowOk big := by
      refine ⟨(List.replicate 400 ps).flatten, ?_, fun p hp => ?_⟩
      · rw [ob_mulT, if_pos ⟨by decide, by decide, by rw [List.length_map]; omega⟩, List.map_flatten, List.map_replicate]
        rfl
      · obtain ⟨l, hl, hp⟩ := List.mem_flatten.mp hp
        rw [List.eq_of_mem_replicate hl] at hp
        exact hps p hp
    have es : slc (big.map pD) none (some 400) = (big.take 400).map pD := by
      rw [slc_map, show (some (400 : Int)) = some ((400 : Nat) : Int) from rfl, slc_to]
    obtain ⟨s4', s5', s6', s7', S', q, h'⟩ := fin_ok n h2 (big.take 400) (fun p hp => hb p (List.mem_of_mem_take hp)) (by rw [List.length_take]; omega) a c s4 s5 s6 s7
    refine ⟨.val (.tup ((big.take 400).map pD)), s4', s5', s6', s7', S', ?_, h'⟩
    rw [law_is]
    generalize (big.take 400).map pD = w4 at *
    generalize big.map pD = w3 at *
    generalize ps.map pD = w2 at *
    simp -implicitDefEqProofs [e1, e2, eqD_int, eb, es, q]
  · obtain ⟨s4', s5', s6', s7', S', q, h'⟩ := fin_ok n h2 ps hps (by omega) a c s4 s5 s6 s7
    refine ⟨.val (.tup (ps.map pD)), s4', s5', s6', s7', S', ?_, h'⟩
    have c1 : (w == 0) = false := by simpa using c0
    rw [law_is]
    generalize ps.map pD = w2 at *
    simp -implicitDefEqProofs [e1, e2, eqD_int, c1, c0, q]
theorem plain_law (ns : List Int) (hn : ns.length ≤ 63) (_ : ∀ z ∈ ns, Builtin.Int.intBits z ≤ 1048576) : ∃ S', callN tab GD FUEL DEEP "law" [.scr (ns.map D.int)] [] = .ok (.val (.bl true)) S' := by
  rw [show DEEP = 39 + 1 from rfl, call_eq (n := 39) (show tab "law" = some ir_law from rfl) rfl]
  obtain ⟨c, e1, h1⟩ := L.stream_ok (T := Tn) (G := G0) (wf := FUEL) (z := 7262) rfl (by decide) (by decide) hn 38 []
  obtain ⟨sl', S', e2, hS, s2, s3, s4, s5, s6, s7, rfl⟩ := loop_inv0 (t := .nm 2) (b := exB ⟨callN Tn G0 FUEL 39, G0, FUEL⟩ b_law_1) (items := rngD 0 6) (sl := [.val (.scr (ns.map D.int)), .val (.ref 0), .emp, .emp, .emp, .emp, .emp, .emp]) (S := [.lst c])
    (fun i sl S => StOk S ∧ ∃ s2 s3 s4 s5 s6 s7, sl = [.val (.scr (ns.map D.int)), .val (.ref 0), s2, s3, s4, s5, s6, s7]) ⟨h1, _, _, _, _, _, _, rfl⟩ (by
      rintro i v sl S hy ⟨hS, s2, s3, s4, s5, s6, s7, rfl⟩
      obtain ⟨_, _, _, _, _, S', q, h'⟩ := turn_ok 34 hS (.val (.scr (ns.map D.int))) (.val v) s3 s4 s5 s6 s7
      exact ⟨_, _, S', rfl, q, h', _, _, _, _, _, _, rfl⟩)
  obtain ⟨w, S2, e3, _, _, h2⟩ := L.take_ok (G := G0) (wf := FUEL) tT hS (m := 90) (by decide) (by decide) 38
  obtain ⟨u, S3, e4, _, _, h3⟩ := L.take_ok (G := G0) (wf := FUEL) tT h2 (m := 90) (by decide) (by decide) 38
  have e5 := made_right_eq w u 37 S3
  have s6' : small62 6 = true := rfl
  refine ⟨S3 ++ ers (LL w u), ?_⟩
  have e1 : callN Tn G0 FUEL 39 "_law_stream" [.scr (ns.map D.int)] [] = .ok (.fresh (.lst c)) [] := e1
  generalize S3 ++ ers (LL w u) = S4 at *
  unfold ir_law
  simp -implicitDefEqProofs [e1, s6', e2, e3, e4, e5]
end Px
set_option Elab.async false
open PySem PySem.W PyProof.Rows
set_option maxRecDepth 100000 in
set_option maxHeartbeats 0 in
theorem PySem.Challenge.cw_stintpurse_k02_rows_borne_holds : PySem.Challenge.rw_stintpurse_k02_rows_borne.Holds := by
  w_on; o_law; k_head; (case hw => w_witness2)
  k_fill
  refine Px.walk_px (l := PySem.Challenge.rw_stintpurse_k02_rows_borne) (n := 63) (k := Px.DEEP) (φ := Px.callN Px.tab Px.GD Px.FUEL Px.DEEP "law") rfl (by decide) rfl rfl ⟨rfl, by decide, by decide⟩ (fun w h Y => PySem.W.kIn_of Y) (by decide) ?F Px.plain_law
  case F =>
    intro w mg h KX G
    refine' Px.all_mk KX G ?x0 ?l0 ?c0 ?k0 ?x1 ?l1 ?c1 ?k1 ?x2 ?l2 ?c2 ?k2 ?x3 ?l3 ?c3 ?k3 ?x4 ?l4 ?c4 ?k4 ?x5 ?l5 ?c5 ?k5 ?x6 ?l6 ?c6 ?k6 ?x7 ?l7 ?c7 ?k7 ?x8 ?l8 ?c8 ?k8 ?x9 ?l9 ?c9 ?k9 ?x10 ?l10 ?c10 ?k10 ?x11 ?l11 ?c11 ?k11 ?x12 ?l12 ?c12 ?k12 ?z0 ?z1 ?z2 ?z3 ?z4 ?z5 ?z6 ?z7 ?z8 ?z9 ?z10 ?z11 ?z12 ?z13 ?z14 ?z15 ?z16 ?z17 ?z18 ?z19 ?z20 ?z21 ?hhn ?hht ?yn0 ?yl0 ?ys0 ?yg0 ?yh0 ?yk0 ?ya0 ?er0 ?er1 ?er2 ?yn1 ?yl1 ?ys1 ?yg1 ?yh1 ?yk1 ?ya1 ?yf1_0 ?yf1_1 ?yi1 ?yt1 ?ym1 ?yc1 ?yj1 ?yn2 ?yl2 ?ys2 ?yg2 ?yh2 ?yk2 ?ya2 ?yf2_0 ?yf2_1 ?yi2 ?yt2 ?ym2 ?yc2 ?yj2 ?yn3 ?yl3 ?ys3 ?yg3 ?yh3 ?yk3 ?ya3 ?yf3_0 ?yi3 ?yt3 ?ym3 ?yc3 ?yj3 ?yn4 ?yl4 ?ys4 ?yg4 ?yh4 ?yk4 ?ya4 ?yf4_0 ?yi4 ?yt4 ?ym4 ?yc4 ?yj4 ?yn5 ?yl5 ?ys5 ?yg5 ?yh5 ?yk5 ?ya5 ?yx5 ?yn6 ?yl6 ?ys6 ?yg6 ?yh6 ?yk6 ?ya6 ?yx6 ?yn7 ?yl7 ?ys7 ?yg7 ?yh7 ?yk7 ?ya7 ?yx7 ?yn8 ?yl8 ?ys8 ?yg8 ?yh8 ?yk8 ?ya8 ?yx8 ?yn9 ?yl9 ?ys9 ?yg9 ?yh9 ?yk9 ?ya9 ?yf9_0 ?yi9 ?yt9 ?ym9 ?yc9 ?yj9 ?yn10 ?yl10 ?ys10 ?yg10 ?yh10 ?yk10 ?ya10 ?yf10_0 ?yi10 ?yt10 ?ym10 ?yc10 ?yj10 ?yn11 ?yl11 ?ys11 ?yg11 ?yh11 ?yk11 ?ya11 ?yf11_0 ?yi11 ?yt11 ?ym11 ?yc11 ?yj11 ?yn12 ?yl12 ?ys12 ?yg12 ?yh12 ?yk12 ?ya12 ?yf12_0 ?yi12 ?yt12 ?ym12 ?yc12 ?yj12 ?yn13 ?yl13 ?ys13 ?yg13 ?yh13 ?yk13 ?ya13 ?yx13 ?yn14 ?yl14 ?ys14 ?yg14 ?yh14 ?yk14 ?ya14 ?yf14_0 ?yi14 ?yt14 ?ym14 ?yc14 ?yj14 ?yn15 ?yl15 ?ys15 ?yg15 ?yh15 ?yk15 ?ya15 ?yx15 ?yn16 ?yl16 ?ys16 ?yg16 ?yh16 ?yk16 ?ya16 ?yf16_0 ?yi16 ?yt16 ?ym16 ?yc16 ?yj16 ?yn17 ?yl17 ?ys17 ?yg17 ?yh17 ?yk17 ?ya17 ?yx17 ?yn18 ?yl18 ?ys18 ?yg18 ?yh18 ?yk18 ?ya18 ?yf18_0 ?yi18 ?yt18 ?ym18 ?yc18 ?yj18
    (case x0 => k_is)
    (case l0 => k_is)
    (case c0 => k_is)
    (case k0 => k_is)
    (case x1 => k_is)
    (case l1 => k_is)
    (case c1 => k_is)
    (case k1 => k_is)
    (case x2 => k_is)
    (case l2 => k_is)
    (case c2 => k_is)
    (case k2 => k_is)
    (case x3 => k_is)
    (case l3 => k_is)
    (case c3 => k_is)
    (case k3 => k_is)
    (case x4 => k_is)
    (case l4 => k_is)
    (case c4 => k_is)
    (case k4 => k_is)
    (case x5 => k_is)
    (case l5 => k_is)
    (case c5 => k_is)
    (case k5 => k_is)
    (case x6 => k_is)
    (case l6 => k_is)
    (case c6 => k_is)
    (case k6 => k_is)
    (case x7 => k_is)
    (case l7 => k_is)
    (case c7 => k_is)
    (case k7 => k_is)
    (case x8 => k_is)
    (case l8 => k_is)
    (case c8 => k_is)
    (case k8 => k_is)
    (case x9 => k_is)
    (case l9 => k_is)
    (case c9 => k_is)
    (case k9 => k_is)
    (case x10 => k_is)
    (case l10 => k_is)
    (case c10 => k_is)
    (case k10 => k_is)
    (case x11 => k_is)
    (case l11 => k_is)
    (case c11 => k_is)
    (case k11 => k_is)
    (case x12 => k_is)
    (case l12 => k_is)
    (case c12 => k_is)
    (case k12 => k_is)
    (case z0 => k_is)
    (case z1 => k_is)
    (case z2 => k_is)
    (case z3 => k_is)
    (case z4 => k_is)
    (case z5 => k_is)
    (case z6 => k_is)
    (case z7 => k_is)
    (case z8 => k_is)
    (case z9 => k_is)
    (case z10 => k_is)
    (case z11 => k_is)
    (case z12 => k_is)
    (case z13 => k_is)
    (case z14 => k_is)
    (case z15 => k_is)
    (case z16 => k_is)
    (case z17 => k_is)
    (case z18 => k_is)
    (case z19 => k_is)
    (case z20 => k_is)
    (case z21 => k_is)
    (case hhn => k_is)
    (case hht => k_is)
    (case yn0 => k_is)
    (case yl0 => k_is)
    (case ys0 => k_is)
    (case yg0 => k_is)
    (case yh0 => k_is)
    (case yk0 => k_is)
    (case ya0 => k_is)
    (case er0 => k_is)
    (case er1 => k_is)
    (case er2 => k_is)
    (case yn1 => k_is)
    (case yl1 => k_is)
    (case ys1 => k_is)
    (case yg1 => k_is)
    (case yh1 => k_is)
    (case yk1 => k_is)
    (case ya1 => k_is)
    (case yf1_0 => k_is)
    (case yf1_1 => k_is)
    (case yi1 => k_is)
    (case yt1 => k_is)
    (case ym1 => k_is)
    (case yc1 => k_is)
    (case yj1 => k_is)
    (case yn2 => k_is)
    (case yl2 => k_is)
    (case ys2 => k_is)
    (case yg2 => k_is)
    (case yh2 => k_is)
    (case yk2 => k_is)
    (case ya2 => k_is)
    (case yf2_0 => k_is)
    (case yf2_1 => k_is)
    (case yi2 => k_is)
    (case yt2 => k_is)
    (case ym2 => k_is)
    (case yc2 => k_is)
    (case yj2 => k_is)
    (case yn3 => k_is)
    (case yl3 => k_is)
    (case ys3 => k_is)
    (case yg3 => k_is)
    (case yh3 => k_is)
    (case yk3 => k_is)
    (case ya3 => k_is)
    (case yf3_0 => k_is)
    (case yi3 => k_is)
    (case yt3 => k_is)
    (case ym3 => k_is)
    (case yc3 => k_is)
    (case yj3 => k_is)
    (case yn4 => k_is)
    (case yl4 => k_is)
    (case ys4 => k_is)
    (case yg4 => k_is)
    (case yh4 => k_is)
    (case yk4 => k_is)
    (case ya4 => k_is)
    (case yf4_0 => k_is)
    (case yi4 => k_is)
    (case yt4 => k_is)
    (case ym4 => k_is)
    (case yc4 => k_is)
    (case yj4 => k_is)
    (case yn5 => k_is)
    (case yl5 => k_is)
    (case ys5 => k_is)
    (case yg5 => k_is)
    (case yh5 => k_is)
    (case yk5 => k_is)
    (case ya5 => k_is)
    (case yx5 => k_exc)
    (case yn6 => k_is)
    (case yl6 => k_is)
    (case ys6 => k_is)
    (case yg6 => k_is)
    (case yh6 => k_is)
    (case yk6 => k_is)
    (case ya6 => k_is)
    (case yx6 => k_exc)
    (case yn7 => k_is)
    (case yl7 => k_is)
    (case ys7 => k_is)
    (case yg7 => k_is)
    (case yh7 => k_is)
    (case yk7 => k_is)
    (case ya7 => k_is)
    (case yx7 => k_exc)
    (case yn8 => k_is)
    (case yl8 => k_is)
    (case ys8 => k_is)
    (case yg8 => k_is)
    (case yh8 => k_is)
    (case yk8 => k_is)
    (case ya8 => k_is)
    (case yx8 => k_exc)
    (case yn9 => k_is)
    (case yl9 => k_is)
    (case ys9 => k_is)
    (case yg9 => k_is)
    (case yh9 => k_is)
    (case yk9 => k_is)
    (case ya9 => k_is)
    (case yf9_0 => k_is)
    (case yi9 => k_is)
    (case yt9 => k_is)
    (case ym9 => k_is)
    (case yc9 => k_is)
    (case yj9 => k_is)
    (case yn10 => k_is)
    (case yl10 => k_is)
    (case ys10 => k_is)
    (case yg10 => k_is)
    (case yh10 => k_is)
    (case yk10 => k_is)
    (case ya10 => k_is)
    (case yf10_0 => k_is)
    (case yi10 => k_is)
    (case yt10 => k_is)
    (case ym10 => k_is)
    (case yc10 => k_is)
    (case yj10 => k_is)
    (case yn11 => k_is)
    (case yl11 => k_is)
    (case ys11 => k_is)
    (case yg11 => k_is)
    (case yh11 => k_is)
    (case yk11 => k_is)
    (case ya11 => k_is)
    (case yf11_0 => k_is)
    (case yi11 => k_is)
    (case yt11 => k_is)
    (case ym11 => k_is)
    (case yc11 => k_is)
    (case yj11 => k_is)
    (case yn12 => k_is)
    (case yl12 => k_is)
    (case ys12 => k_is)
    (case yg12 => k_is)
    (case yh12 => k_is)
    (case yk12 => k_is)
    (case ya12 => k_is)
    (case yf12_0 => k_is)
    (case yi12 => k_is)
    (case yt12 => k_is)
    (case ym12 => k_is)
    (case yc12 => k_is)
    (case yj12 => k_is)
    (case yn13 => k_is)
    (case yl13 => k_is)
    (case ys13 => k_is)
    (case yg13 => k_is)
    (case yh13 => k_is)
    (case yk13 => k_is)
    (case ya13 => k_is)
    (case yx13 => k_exc)
    (case yn14 => k_is)
    (case yl14 => k_is)
    (case ys14 => k_is)
    (case yg14 => k_is)
    (case yh14 => k_is)
    (case yk14 => k_is)
    (case ya14 => k_is)
    (case yf14_0 => k_is)
    (case yi14 => k_is)
    (case yt14 => k_is)
    (case ym14 => k_is)
    (case yc14 => k_is)
    (case yj14 => k_is)
    (case yn15 => k_is)
    (case yl15 => k_is)
    (case ys15 => k_is)
    (case yg15 => k_is)
    (case yh15 => k_is)
    (case yk15 => k_is)
    (case ya15 => k_is)
    (case yx15 => k_exc)
    (case yn16 => k_is)
    (case yl16 => k_is)
    (case ys16 => k_is)
    (case yg16 => k_is)
    (case yh16 => k_is)
    (case yk16 => k_is)
    (case ya16 => k_is)
    (case yf16_0 => k_is)
    (case yi16 => k_is)
    (case yt16 => k_is)
    (case ym16 => k_is)
    (case yc16 => k_is)
    (case yj16 => k_is)
    (case yn17 => k_is)
    (case yl17 => k_is)
    (case ys17 => k_is)
    (case yg17 => k_is)
    (case yh17 => k_is)
    (case yk17 => k_is)
    (case ya17 => k_is)
    (case yx17 => k_exc)
    (case yn18 => k_is)
    (case yl18 => k_is)
    (case ys18 => k_is)
    (case yg18 => k_is)
    (case yh18 => k_is)
    (case yk18 => k_is)
    (case ya18 => k_is)
    (case yf18_0 => k_is)
    (case yi18 => k_is)
    (case yt18 => k_is)
    (case ym18 => k_is)
    (case yc18 => k_is)
    (case yj18 => k_is)
#print axioms PySem.Challenge.cw_stintpurse_k02_rows_borne_holds
