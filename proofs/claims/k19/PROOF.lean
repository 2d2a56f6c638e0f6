import PyProof.Rows.All
import Wide.All
import OpenK.AllK
import Wide.FinOn
import KE.DataEq
import KE.DataAny
import KE.DataMinMax
import KE.DataCmp
import KE.SortData
import HandS.ForMost
import HandS.ForExc
import HandS.TupAny
import HandS.TupMul
import HandS.Defaults
import HandS.More
import HandS.Style
import HandS.TupLe
import HandS.Text
import KE.DataIsa
import KE.SortCalls
import PyProof.Rows.FactsN_isinstance
import PyProof.Rows.FactsN_abs
import PyProof.Rows.SeqCalls
import PyProof.Rows.SeqGen
import PyProof.Rows.FactsT3
import PyProof.ListStr
import PyProof.Rows.SortWalk
import KE.KRevSl
import HandS.Comp
import HandS.Iter
import HandS.ExcOwn
import HandS.Small
import KE.KStateDown
import HandS.Head0
import HandS.Head1
import HandS.Head2
import HandS.HeadEnd
import HandS.HeadHook1
import HandS.HeadHook2
import PyProof.ExcBaseAll.ValueError
import PySem.Challenge.RW_cellsights_k19_whole_told_anew
set_option Elab.async false
set_option autoImplicit false
set_option linter.all false
set_option maxRecDepth 100000
set_option maxHeartbeats 0
/-! Ip1: a small language of defs, and what it computes on plain data. -/
namespace Ip
open PySem

abbrev D := PyData
/-- a text by its codes -/
abbrev tx (l : List Nat) : D := .str ⟨l.toArray⟩
/-- the longest list, text that is made -/
abbrev lim : Nat := 16777216

/-- a value: plain data, or a place of the store -/
inductive Val where
  | d (x : D)
  | loc (n : Nat)
  /-- the script -/
  | scr (ns : List Int)

/-- what stands at a place of the store -/
inductive Cell where
  | lst (xs : List D)
  | dct (kvs : List (D × D))
  | ins (c : Nat) (fs : List (Nat × Val))
abbrev Store := List Cell

/-- a name's state: unknown; a value that nobody changes; a list, a dict of this call's own -/
inductive Slot where
  | un
  | v (x : Val)
  | ol (xs : List D)
  | od (kvs : List (D × D))
abbrev Ev := List Slot

/-- how an expression ends: a value, an own exception, or not told -/
inductive Rs (α : Type) where
  | ok (a : α) (st : Store)
  | exc (c : Nat) (st : Store)
  | bad
def Rs.bind {α β : Type} (r : Rs α) (f : α → Store → Rs β) : Rs β :=
  match r with
  | .ok a st => f a st
  | .exc c st => .exc c st
  | .bad => .bad
/-- from what may not be told -/
def Rs.of {α : Type} (o : Option α) (st : Store) : Rs α :=
  match o with
  | some a => .ok a st
  | none => .bad
section
variable {α β : Type}
@[simp] theorem bind_ok (a : α) (st : Store) (f : α → Store → Rs β) : (Rs.ok a st).bind f = f a st := rfl
@[simp] theorem bind_exc (c : Nat) (st : Store) (f : α → Store → Rs β) : (Rs.exc c st).bind f = .exc c st := rfl
@[simp] theorem bind_bad (f : α → Store → Rs β) : (Rs.bad : Rs α).bind f = .bad := rfl
@[simp] theorem of_some (a : α) (st : Store) : Rs.of (some a) st = .ok a st := rfl
@[simp] theorem of_none (st : Store) : Rs.of (none : Option α) st = .bad := rfl
end

inductive Bop where
  | add | sub | mul | mod | fdiv | pow
inductive Cop where
  | eq | ne | lt | le | gt | ge | isin | notin
inductive Ty where
  | tuple | str | int | bool | list
/-- methods of texts -/
inductive Mt where
  | join | count
/-- built-in functions -/
inductive Bi where
  | len | abs | max2 | min2 | max1 | min1 | all | any | sum | sorted | list | tuple | int | isa (t : Ty) | lenset | sortset | index | get1 | get2 | keysL | valsL | dict

mutual
inductive Ex where
  /-- a name, its value kept -/
  | var (i : Nat)
  /-- a name, looked at only -/
  | tv (i : Nat)
  | con (d : D)
  | glob (g : Nat)
  | tup (es : Exs)
  | lst (es : Exs)
  | bin (o : Bop) (a b : Ex)
  | neg (a : Ex)
  | not (a : Ex)
  | and (a b : Ex)
  | or (a b : Ex)
  | cmp (o : Cop) (a b : Ex)
  | chain (o p : Cop) (a b c : Ex)
  | isn (neg : Bool) (a : Ex)
  | ist (neg : Bool) (a : Ex)
  | ite (c a b : Ex)
  | idx (a b : Ex)
  | slc (a lo hi : Ex)
  | slo (a lo : Ex)
  | shi (a hi : Ex)
  | rev (a : Ex)
  | call (f : Nat) (es : Exs)
  | bi (b : Bi) (es : Exs)
  | smt (m : Mt) (a e : Ex)
  | comp (own : List Nat) (elt : Ex) (t : Tg) (it : It)
  | compIf (own : List Nat) (elt : Ex) (t : Tg) (it : It) (c : Ex)
  | tab (g : Nat) (a : Ex)
  /-- len of a list of the store -/
  | lenL (i : Nat)
  /-- the script's length, an item of it, whether it is empty -/
  | lenS (i : Nat)
  | idxS (i : Nat) (a : Ex)
  | nilS (i : Nat)
inductive Exs where
  | nil
  | cons (e : Ex) (r : Exs)
inductive Tg where
  | name (i : Nat)
  | tup (ts : Tgs)
inductive Tgs where
  | nil
  | cons (t : Tg) (r : Tgs)
inductive It where
  | seq (e : Ex)
  | rng1 (e : Ex)
  | rng2 (a b : Ex)
  | enum (e : Ex)
  | zip (a b : Ex)
end

/-! ### what the operators give -/
def inr64 (i : Int) : Bool := decide (-18446744073709551616 < i) && decide (i < 18446744073709551616)
def binD (o : Bop) (x y : D) : Option D :=
  match o, x, y with
  | .add, .int i, .int j => some (.int (i + j))
  | .add, .str a, .str b => if a.cps.toList.length + b.cps.toList.length ≤ lim then some (tx (a.cps.toList ++ b.cps.toList)) else none
  | .add, .list a, .list b => if a.length + b.length ≤ lim then some (.list (a ++ b)) else none
  | .add, .tuple a, .tuple b => if a.length + b.length ≤ lim then some (.tuple (a ++ b)) else none
  | .sub, .int i, .int j => some (.int (i - j))
  | .mul, .int i, .int j => if inr64 i || inr64 j then some (.int (i * j)) else none
  | .mul, .str a, .int j => if 0 ≤ j ∧ j ≤ 100000 ∧ a.cps.toList.length * j.toNat ≤ 100000 then some (tx (List.replicate j.toNat a.cps.toList).flatten) else none
  | .mul, .tuple a, .int j => if a ≠ [] ∧ 2 ≤ j ∧ j ≤ 1000 ∧ a.length ≤ 1000 then some (.tuple (List.replicate j.toNat a).flatten) else none
  | .mul, .list a, .int j => if 0 ≤ j ∧ j ≤ 1000 ∧ a.length ≤ 1000 then some (.list (List.replicate j.toNat a).flatten) else none
  | .mod, .int i, .int j => if j ≠ 0 then some (.int (i.fmod j)) else none
  | .fdiv, .int i, .int j => if j ≠ 0 ∧ j.natAbs < 1073741824 then some (.int (i.fdiv j)) else none
  | .pow, .int i, .int j => if 0 ≤ j ∧ j ≤ 1000 ∧ i.natAbs < 18446744073709551616 then some (.int (i ^ j.toNat)) else none
  | _, _, _ => none
def shallow (x : D) : Bool := x.plain && decide (x.depth ≤ 32)
/-- the key is in the dict: its value -/
def getK (kvs : List (D × D)) (k : D) : Option D := (kvs.find? fun p => PyData.eqv p.1 k).map (·.2)
def hasK (kvs : List (D × D)) (k : D) : Bool := kvs.any fun p => PyData.eqv p.1 k
def putK (k v : D) : List (D × D) → List (D × D)
  | [] => [(k, v)]
  | p :: r => if PyData.eqv p.1 k then (p.1, v) :: r else p :: putK k v r
mutual
/-- a key of a dict: whole numbers, texts, tuples of such -/
def keyOk : D → Bool
  | .int _ => true
  | .str _ => true
  | .tuple xs => keysOk xs
  | _ => false
def keysOk : List D → Bool
  | [] => true
  | x :: xs => keyOk x && keysOk xs
end
def inD (x y : D) : Option Bool :=
  match y with
  | .str s => match x with
    | .str c => match c.cps.toList with
      | [k] => if s.cps.toList.length ≤ lim then some (s.cps.toList.contains k) else none
      | _ => none
    | _ => none
  | .list ys => if shallow x && shallow y then some (ys.any fun z => PyData.eqv z x) else none
  | .tuple ys => if shallow x && shallow y then some (ys.any fun z => PyData.eqv z x) else none
  | .dict kvs => if keyOk x && shallow x then some (hasK kvs x) else none
  | _ => none
def cmpD (o : Cop) (x y : D) : Option Bool :=
  match o with
  | .eq => if shallow x && shallow y then some (PyData.eqv x y) else none
  | .ne => if shallow x && shallow y then some (!PyData.eqv x y) else none
  | .lt => match x, y with
    | .int i, .int j => some (decide (i < j))
    | _, _ => none
  | .le => match x, y with
    | .int i, .int j => some (decide (i ≤ j))
    | _, _ => none
  | .gt => match x, y with
    | .int i, .int j => some (decide (j < i))
    | .tuple xs, .tuple ys => if PySem.W.alike x y && shallow x && shallow y then some (PySem.W.dataLt y x) else none
    | _, _ => none
  | .ge => match x, y with
    | .int i, .int j => some (decide (j ≤ i))
    | _, _ => none
  | .isin => inD x y
  | .notin => (inD x y).map (!·)
/-- a place counted from either end -/
def ixZ (n : Nat) (i : Int) : Option Nat := if 0 ≤ i then (if i < n then some i.toNat else none) else if -(n : Int) ≤ i then some (i + n).toNat else none
def idxD (x i : D) : Option D :=
  match x, i with
  | .list xs, .int i => (ixZ xs.length i).bind fun j => xs[j]?
  | .tuple xs, .int i => (ixZ xs.length i).bind fun j => xs[j]?
  | .str s, .int i => if s.cps.toList.length ≤ lim then ((ixZ s.cps.toList.length i).bind fun j => s.cps.toList[j]?).map fun c => tx [c] else none
  | .dict kvs, k => if keyOk k && shallow k then getK kvs k else none
  | _, _ => none
/-- where a slice begins, ends -/
def clip (n : Nat) (i : Int) : Nat := if i < 0 then (max (i + n) 0).toNat else (min i n).toNat
def cutL {α : Type} (xs : List α) (lo hi : Nat) : List α := (xs.drop lo).take (hi - lo)
def clipO (n d : Nat) : Option Int → Nat
  | some i => clip n i
  | none => d
def cutO {α : Type} (xs : List α) (lo hi : Option Int) : List α := cutL xs (clipO xs.length 0 lo) (clipO xs.length xs.length hi)
def cutD (x : D) (lo hi : Option Int) : Option D :=
  match x with
  | .list xs => some (.list (cutO xs lo hi))
  | .tuple xs => some (.tuple (cutO xs lo hi))
  | .str s => if s.cps.toList.length ≤ lim then some (tx (cutO s.cps.toList lo hi)) else none
  | _ => none
def revD (x : D) : Option D :=
  match x with
  | .list xs => some (.list xs.reverse)
  | .tuple xs => some (.tuple xs.reverse)
  | .str s => if s.cps.toList.length ≤ lim then some (tx s.cps.toList.reverse) else none
  | _ => none
def isaD (t : Ty) (x : D) : Bool :=
  match t, x with
  | .tuple, .tuple _ => true
  | .str, .str _ => true
  | .int, .int _ => true
  | .int, .bool _ => true
  | .bool, .bool _ => true
  | .list, .list _ => true
  | _, _ => false
def alikeL (xs : List D) : Bool := xs.all fun x => xs.all fun y => PySem.W.alike x y
def isTup1 : D → Bool
  | .tuple (_ :: _) => true
  | _ => false
def noTup : D → Bool
  | .tuple _ => false
  | .none => false
  | _ => true
def sortL (xs : List D) : Option (List D) :=
  if alikeL xs && (xs.all isTup1 || xs.all noTup) && decide (xs.length ≤ lim) && xs.all shallow then some (xs.mergeSort (PySem.W.dataLe false id)) else none
def asInts : List D → Option (List Int)
  | [] => some []
  | .int i :: r => (asInts r).map (i :: ·)
  | _ :: _ => none
def asStrs : List D → Option (List (List Nat))
  | [] => some []
  | .str s :: r => (asStrs r).map (s.cps.toList :: ·)
  | _ :: _ => none
def asBools : List D → Option (List Bool)
  | [] => some []
  | .bool b :: r => (asBools r).map (b :: ·)
  | _ :: _ => none
def charsD (s : Str) : List D := s.cps.toList.map fun c => tx [c]
def lenD : D → Option D
  | .list ys => some (.int ys.length)
  | .tuple ys => some (.int ys.length)
  | .str s => if s.cps.toList.length ≤ lim then some (.int s.cps.toList.length) else none
  | _ => none
def absD : D → Option D
  | .int i => some (.int (if i < 0 then -i else i))
  | _ => none
def max2D : D → D → Option D
  | .int i, .int j => some (.int (if j > i then j else i))
  | _, _ => none
def min2D : D → D → Option D
  | .int i, .int j => some (.int (if j < i then j else i))
  | _, _ => none
/-- what may be compared, one with another -/
def rowOk (l : List D) : Bool := alikeL l && l.all shallow && l.all (fun z => !(PyData.eqv z .none))
def max1D : D → Option D
  | .list (y :: ys) => if rowOk (y :: ys) then some (PySem.W.maxD y ys) else none
  | _ => none
def min1D : D → Option D
  | .list (y :: ys) => if rowOk (y :: ys) then some (PySem.W.minD y ys) else none
  | _ => none
def allD : D → Option D
  | .list ys => (asBools ys).map fun bs => .bool (bs.all id)
  | _ => none
def anyD : D → Option D
  | .list ys => (asBools ys).map fun bs => .bool (bs.any id)
  | _ => none
def sumD : D → Option D
  | .list ys => (asInts ys).map fun ns => .int ns.sum
  | _ => none
def sortedD : D → Option D
  | .list ys => (sortL ys).map .list
  | _ => none
def listD : D → Option D
  | .list ys => some (.list ys)
  | .tuple ys => some (.list ys)
  | .str s => if s.cps.toList.length ≤ lim then some (.list (charsD s)) else none
  | .dict kvs => some (.list (kvs.map (·.1)))
  | _ => none
def tupleD : D → Option D
  | .list ys => some (.tuple ys)
  | .tuple ys => some (.tuple ys)
  | _ => none
def intD : D → Option D
  | .int i => some (.int i)
  | .bool b => some (.int (if b then 1 else 0))
  | _ => none
def joinD : D → D → Option D
  | .str s, .list ys => if s.cps.toList = [] then (asStrs ys).bind fun l => if l.flatten.length ≤ lim then some (tx l.flatten) else none else none
  | _, _ => none
def countD : D → D → Option D
  | .str s, .str c => match c.cps.toList with
    | [k] => if s.cps.toList.length ≤ lim then some (.int (s.cps.toList.count k)) else none
    | _ => none
  | _, _ => none
def get1D : D → D → Option D
  | .dict kvs, k => if keyOk k && shallow k then some ((getK kvs k).getD .none) else none
  | _, _ => none
def get2D : D → D → D → Option D
  | .dict kvs, k, x => if keyOk k && shallow k then some ((getK kvs k).getD x) else none
  | _, _, _ => none
def mtD (m : Mt) : D → D → Option D :=
  match m with
  | .join => joinD
  | .count => countD
def u1 (f : D → Option D) : List D → Option D
  | [x] => f x
  | _ => none
def u2 (f : D → D → Option D) : List D → Option D
  | [x, y] => f x y
  | _ => none
def u3 (f : D → D → D → Option D) : List D → Option D
  | [x, y, z] => f x y z
  | _ => none
@[simp] theorem u1_one (f : D → Option D) (x : D) : u1 f [x] = f x := rfl
@[simp] theorem u2_two (f : D → D → Option D) (x y : D) : u2 f [x, y] = f x y := rfl
@[simp] theorem u3_three (f : D → D → D → Option D) (x y z : D) : u3 f [x, y, z] = f x y z := rfl
def biD (b : Bi) : List D → Option D :=
  match b with
  | .len => u1 lenD
  | .abs => u1 absD
  | .max2 => u2 max2D
  | .min2 => u2 min2D
  | .max1 => u1 max1D
  | .min1 => u1 min1D
  | .all => u1 allD
  | .any => u1 anyD
  | .sum => u1 sumD
  | .sorted => u1 sortedD
  | .list => u1 listD
  | .tuple => u1 tupleD
  | .int => u1 intD
  | .isa t => u1 fun x => some (.bool (isaD t x))
  | .get1 => u2 get1D
  | .get2 => u3 get2D
  | _ => fun _ => none

/-! ### names -/
def Slot.val : Slot → Option Val
  | .v x => some x
  | _ => none
/-- looked at only -/
def Slot.look : Slot → Option Val
  | .v x => some x
  | .ol xs => some (.d (.list xs))
  | .od kvs => some (.d (.dict kvs))
  | .un => none
def Val.dat : Val → Option D
  | .d x => some x
  | _ => none
mutual
def Tg.put (t : Tg) (x : D) (ρ : Ev) : Option Ev :=
  match t with
  | .name i => if i < ρ.length then some (ρ.set i (.v (.d x))) else none
  | .tup ts => match x with
    | .tuple xs => ts.puts xs ρ
    | _ => none
def Tgs.puts (ts : Tgs) (xs : List D) (ρ : Ev) : Option Ev :=
  match ts, xs with
  | .nil, [] => some ρ
  | .cons t r, x :: xs => match t.put x ρ with
    | some ρ' => r.puts xs ρ'
    | none => none
  | _, _ => none
end
/-- the names of a comprehension's own are unknown at its start -/
def wipeE (ρ : Ev) : List Nat → Ev
  | [] => ρ
  | i :: r => (wipeE ρ r).set i .un

/-- the turns of a comprehension -/
def compL (t : Tg) (elt : Ev → Store → Rs D) (c : Ev → Store → Rs D) (ρ : Ev) : List D → Store → Rs (List D)
  | [], st => .ok [] st
  | x :: xs, st => match t.put x ρ with
    | none => .bad
    | some ρ' => (c ρ' st).bind fun b st => match b with
      | .bool true => (elt ρ' st).bind fun y st => (compL t elt c ρ xs st).bind fun ys st => .ok (y :: ys) st
      | .bool false => compL t elt c ρ xs st
      | _ => .bad
def rngD (lo hi : Int) : List D := (List.range (hi - lo).toNat).map fun (k : Nat) => .int (lo + (k : Nat))
def enumD : Nat → List D → List D
  | _, [] => []
  | k, x :: xs => .tuple [.int (k : Nat), x] :: enumD (k + 1) xs
def zipD : List D → List D → List D
  | x :: xs, y :: ys => .tuple [x, y] :: zipD xs ys
  | _, _ => []
/-- what is walked, item by item -/
def seqD : D → Option (List D)
  | .list xs => some xs
  | .tuple xs => some xs
  | .str s => if s.cps.toList.length ≤ lim then some (charsD s) else none
  | _ => none
def rngOk (lo hi : Int) : Bool := decide (-1000000 ≤ lo) && decide (lo ≤ 1000000) && decide (-1000000 ≤ hi) && decide (hi ≤ 1000000)

abbrev CallF := Nat → List Val → Store → Rs Val
variable (gv : Nat → Option D) (tv : Nat → List (D × D)) (cf : CallF)
/-- no exception comes out of here -/
def Rs.calm {α : Type} : Rs α → Rs α
  | .exc _ _ => .bad
  | r => r
def needD (r : Rs Val) : Rs D := r.bind fun v st => Rs.of v.dat st
mutual
def evE (e : Ex) (ρ : Ev) (st : Store) : Rs Val :=
  match e with
  | .var i => Rs.of ((ρ[i]?).bind Slot.val) st
  | .tv i => Rs.of ((ρ[i]?).bind Slot.look) st
  | .con d => .ok (.d d) st
  | .glob g => Rs.of ((gv g).map Val.d) st
  | .tup es => (evs es ρ st).bind fun xs st => .ok (.d (.tuple xs)) st
  | .lst es => (evs es ρ st).bind fun xs st => .ok (.d (.list xs)) st
  | .bin o a b => (needD (evE a ρ st)).bind fun x st => (needD (evE b ρ st)).bind fun y st => Rs.of ((binD o x y).map Val.d) st
  | .neg a => (needD (evE a ρ st)).bind fun x st => match x with
    | .int i => .ok (.d (.int (-i))) st
    | _ => .bad
  | .not a => (needD (evE a ρ st)).bind fun x st => match x with
    | .bool b => .ok (.d (.bool (!b))) st
    | _ => .bad
  | .and a b => (needD (evE a ρ st)).bind fun x st => match x with
    | .bool true => evE b ρ st
    | .bool false => .ok (.d (.bool false)) st
    | _ => .bad
  | .or a b => (needD (evE a ρ st)).bind fun x st => match x with
    | .bool true => .ok (.d (.bool true)) st
    | .bool false => evE b ρ st
    | _ => .bad
  | .cmp o a b => (needD (evE a ρ st)).bind fun x st => (needD (evE b ρ st)).bind fun y st => Rs.of ((cmpD o x y).map fun b => Val.d (.bool b)) st
  | .chain o p a b c => (needD (evE a ρ st)).bind fun x st => (needD (evE b ρ st)).bind fun y st => match cmpD o x y with
    | some true => (needD (evE c ρ st)).bind fun z st => Rs.of ((cmpD p y z).map fun b => Val.d (.bool b)) st
    | some false => .ok (.d (.bool false)) st
    | none => .bad
  | .isn n a => (needD (evE a ρ st)).bind fun x st => .ok (.d (.bool (n != (match x with | .none => true | _ => false)))) st
  | .ist n a => (needD (evE a ρ st)).bind fun x st => match x with
    | .bool b => .ok (.d (.bool (n != b))) st
    | _ => .bad
  | .ite c a b => (needD (evE c ρ st)).bind fun x st => match x with
    | .bool true => evE a ρ st
    | .bool false => evE b ρ st
    | _ => .bad
  | .idx a b => (needD (evE a ρ st)).bind fun x st => (needD (evE b ρ st)).bind fun y st => Rs.of ((idxD x y).map Val.d) st
  | .slc a lo hi => (needD (evE a ρ st)).bind fun x st => (needD (evE lo ρ st)).bind fun y st => match y with
    | .int i => (needD (evE hi ρ st)).bind fun z st => match z with
      | .int j => Rs.of ((cutD x (some i) (some j)).map Val.d) st
      | _ => .bad
    | _ => .bad
  | .slo a lo => (needD (evE a ρ st)).bind fun x st => (needD (evE lo ρ st)).bind fun y st => match y with
    | .int i => Rs.of ((cutD x (some i) none).map Val.d) st
    | _ => .bad
  | .shi a hi => (needD (evE a ρ st)).bind fun x st => (needD (evE hi ρ st)).bind fun y st => match y with
    | .int i => Rs.of ((cutD x none (some i)).map Val.d) st
    | _ => .bad
  | .rev a => (needD (evE a ρ st)).bind fun x st => Rs.of ((revD x).map Val.d) st
  | .call f es => (evVs es ρ st).bind fun xs st => cf f xs st
  | .bi b es => (evs es ρ st).bind fun xs st => Rs.of ((biD b xs).map Val.d) st
  | .smt m a e => (needD (evE a ρ st)).bind fun x st => match x with
    | .str s => (needD (evE e ρ st)).bind fun y st => Rs.of ((mtD m (.str s) y).map Val.d) st
    | _ => .bad
  | .comp own elt t it => (evI it ρ st).bind fun xs st => (compL t (fun ρ' st => (needD (evE elt ρ' st)).calm) (fun _ st => .ok (.bool true) st) (wipeE ρ own) xs st).bind fun ys st => .ok (.d (.list ys)) st
  | .compIf own elt t it c => (evI it ρ st).bind fun xs st => (compL t (fun ρ' st => (needD (evE elt ρ' st)).calm) (fun ρ' st => (needD (evE c ρ' st)).calm) (wipeE ρ own) xs st).bind fun ys st => .ok (.d (.list ys)) st
  | .tab g a => (needD (evE a ρ st)).bind fun x st => match x with
    | .str s => Rs.of ((getK (tv g) (.str s)).map Val.d) st
    | _ => .bad
  | .lenL i => match (ρ[i]?).bind Slot.val with
    | some (.loc n) => match st[n]? with
      | some (.lst xs) => .ok (.d (.int xs.length)) st
      | _ => .bad
    | _ => .bad
  | .lenS i => match (ρ[i]?).bind Slot.val with
    | some (.scr ns) => .ok (.d (.int ns.length)) st
    | _ => .bad
  | .nilS i => match (ρ[i]?).bind Slot.val with
    | some (.scr ns) => .ok (.d (.bool ns.isEmpty)) st
    | _ => .bad
  | .idxS i a => match (ρ[i]?).bind Slot.val with
    | some (.scr ns) => (needD (evE a ρ st)).bind fun y st => match y with
      | .int j => Rs.of (((ixZ ns.length j).bind fun k => ns[k]?).map fun n => Val.d (.int n)) st
      | _ => .bad
    | _ => .bad
def evs (es : Exs) (ρ : Ev) (st : Store) : Rs (List D) :=
  match es with
  | .nil => .ok [] st
  | .cons e r => (needD (evE e ρ st)).bind fun x st => (evs r ρ st).bind fun xs st => .ok (x :: xs) st
def evVs (es : Exs) (ρ : Ev) (st : Store) : Rs (List Val) :=
  match es with
  | .nil => .ok [] st
  | .cons e r => (evE e ρ st).bind fun x st => (evVs r ρ st).bind fun xs st => .ok (x :: xs) st
def evI (it : It) (ρ : Ev) (st : Store) : Rs (List D) :=
  match it with
  | .seq e => (needD (evE e ρ st)).bind fun x st => Rs.of (seqD x) st
  | .rng1 e => (needD (evE e ρ st)).bind fun x st => match x with
    | .int j => if rngOk 0 j then .ok (rngD 0 j) st else .bad
    | _ => .bad
  | .rng2 a b => (needD (evE a ρ st)).bind fun x st => (needD (evE b ρ st)).bind fun y st => match x, y with
    | .int i, .int j => if rngOk i j then .ok (rngD i j) st else .bad
    | _, _ => .bad
  | .enum e => (needD (evE e ρ st)).bind fun x st => match x with
    | .list xs => .ok (enumD 0 xs) st
    | _ => .bad
  | .zip a b => (needD (evE a ρ st)).bind fun x st => (needD (evE b ρ st)).bind fun y st => match x, y with
    | .list xs, .list ys => .ok (zipD xs ys) st
    | _, _ => .bad
end

/-! ### statements -/
mutual
inductive Sm where
  /-- target = value -/
  | asg (t : Tg) (e : Ex)
  /-- name = value, any value -/
  | set (i : Nat) (e : Ex)
  /-- name = a list just made, of this call's own -/
  | own (i : Nat) (e : Ex)
  /-- name = {} -/
  | newd (i : Nat)
  /-- name = {k: v} -/
  | newd1 (i : Nat) (k v : Ex)
  /-- name = [], a list of the store -/
  | newl (i : Nat)
  /-- a, b = x, y (stored from the right) -/
  | par (is : List Nat) (es : Exs)
  | append (i : Nat) (e : Ex)
  | extend (i : Nat) (e : Ex)
  /-- name.append(e) where the list stands in the store -/
  | appendL (i : Nat) (e : Ex)
  /-- target = name.pop(0) -/
  | pop0 (t : Tg) (i : Nat)
  | putd (i : Nat) (k v : Ex)
  | puti (i : Nat) (k v : Ex)
  /-- from here on the list, the dict is shared -/
  | keep (i : Nat)
  | expr (e : Ex)
  | ifs (c : Ex) (a b : Sms)
  | fors (t : Tg) (it : It) (b : Sms)
  | whiles (c : Ex) (b : Sms)
  | ret (e : Ex)
  | raise (c : Nat)
  | brk
  | cont
  | pass
inductive Sms where
  | nil
  | cons (s : Sm) (r : Sms)
end

inductive Out where
  | nx (ρ : Ev) (st : Store)
  | ret (v : Val) (st : Store)
  | brk (ρ : Ev) (st : Store)
  | cont (ρ : Ev) (st : Store)
  | exc (c : Nat) (st : Store)
  | bad
def Rs.out {α : Type} (r : Rs α) (f : α → Store → Out) : Out :=
  match r with
  | .ok a st => f a st
  | .exc c st => .exc c st
  | .bad => .bad
section
variable {α : Type}
@[simp] theorem out_ok (a : α) (st : Store) (f : α → Store → Out) : (Rs.ok a st).out f = f a st := rfl
@[simp] theorem out_exc (c : Nat) (st : Store) (f : α → Store → Out) : (Rs.exc c st).out f = .exc c st := rfl
@[simp] theorem out_bad (f : α → Store → Out) : (Rs.bad : Rs α).out f = .bad := rfl
end
/-- go on behind a statement -/
def Out.next (o : Out) (f : Ev → Store → Out) : Out :=
  match o with
  | .nx ρ st => f ρ st
  | o => o
@[simp] theorem next_nx (ρ : Ev) (st : Store) (f : Ev → Store → Out) : (Out.nx ρ st).next f = f ρ st := rfl
@[simp] theorem next_ret (v : Val) (st : Store) (f : Ev → Store → Out) : (Out.ret v st).next f = .ret v st := rfl
@[simp] theorem next_brk (ρ : Ev) (st : Store) (f : Ev → Store → Out) : (Out.brk ρ st).next f = .brk ρ st := rfl
@[simp] theorem next_cont (ρ : Ev) (st : Store) (f : Ev → Store → Out) : (Out.cont ρ st).next f = .cont ρ st := rfl
@[simp] theorem next_exc (c : Nat) (st : Store) (f : Ev → Store → Out) : (Out.exc c st).next f = .exc c st := rfl
@[simp] theorem next_bad (f : Ev → Store → Out) : (Out.bad).next f = .bad := rfl
/-- the turns of a for -/
def forL (t : Tg) (body : Ev → Store → Out) : List D → Ev → Store → Out
  | [], ρ, st => .nx ρ st
  | x :: xs, ρ, st => match t.put x ρ with
    | none => .bad
    | some ρ' => match body ρ' st with
      | .nx ρ st => forL t body xs ρ st
      | .cont ρ st => forL t body xs ρ st
      | .brk ρ st => .nx ρ st
      | .ret v st => .ret v st
      | .exc _ _ => .bad
      | .bad => .bad
/-- the turns of a while, at most n -/
def whileL (c : Ev → Store → Rs D) (body : Ev → Store → Out) : Nat → Ev → Store → Out
  | 0, _, _ => .bad
  | n + 1, ρ, st => match (c ρ st).calm with
    | .ok (.bool true) st => match body ρ st with
      | .nx ρ st => whileL c body n ρ st
      | .cont ρ st => whileL c body n ρ st
      | .brk ρ st => .nx ρ st
      | .ret v st => .ret v st
      | .exc _ _ => .bad
      | .bad => .bad
    | .ok (.bool false) st => .nx ρ st
    | _ => .bad
def setS (ρ : Ev) (i : Nat) (s : Slot) : Option Ev := if i < ρ.length then some (ρ.set i s) else none
def Slot.isV : Slot → Bool
  | .ol _ => false
  | .od _ => false
  | _ => true
def setAll : List Nat → List Val → Ev → Option Ev
  | [], [], ρ => some ρ
  | i :: is, v :: vs, ρ => (setS ρ i (.v v)).bind (setAll is vs)
  | _, _, _ => none
def ofEv (o : Option Ev) (st : Store) : Out :=
  match o with
  | some ρ => .nx ρ st
  | none => .bad
@[simp] theorem ofEv_some (ρ : Ev) (st : Store) : ofEv (some ρ) st = .nx ρ st := rfl
@[simp] theorem ofEv_none (st : Store) : ofEv none st = .bad := rfl
/-- turns that a while may take -/
def wf : Nat := 1000000
mutual
def runS (s : Sm) (ρ : Ev) (st : Store) : Out :=
  match s with
  | .asg t e => (needD (evE gv tv cf e ρ st)).out fun x st => ofEv (t.put x ρ) st
  | .set i e => (evE gv tv cf e ρ st).out fun x st => ofEv (setS ρ i (.v x)) st
  | .own i e => (needD (evE gv tv cf e ρ st)).out fun x st => match x with
    | .list xs => ofEv (setS ρ i (.ol xs)) st
    | _ => .bad
  | .newd i => ofEv (setS ρ i (.od [])) st
  | .newd1 i k v => (needD (evE gv tv cf k ρ st)).out fun x st => (needD (evE gv tv cf v ρ st)).out fun y st => if keyOk x && shallow x then ofEv (setS ρ i (.od [(x, y)])) st else .bad
  | .newl i => ofEv (setS ρ i (.v (.loc st.length))) (st ++ [.lst []])
  | .par is es => (evVs gv tv cf es ρ st).out fun xs st => ofEv (setAll is xs ρ) st
  | .append i e => match ρ[i]? with
    | some (.ol xs) => (needD (evE gv tv cf e ρ st)).out fun x st => if xs.length < lim then .nx (ρ.set i (.ol (xs ++ [x]))) st else .bad
    | _ => .bad
  | .extend i e => match ρ[i]? with
    | some (.ol xs) => (needD (evE gv tv cf e ρ st)).out fun x st => match x with
      | .list ys => if xs.length + ys.length ≤ lim then .nx (ρ.set i (.ol (xs ++ ys))) st else .bad
      | _ => .bad
    | _ => .bad
  | .appendL i e => match ρ[i]? with
    | some (.v (.loc n)) => (needD (evE gv tv cf e ρ st)).out fun x st => match st[n]? with
      | some (.lst xs) => if xs.length < lim then .nx ρ (st.set n (.lst (xs ++ [x]))) else .bad
      | _ => .bad
    | _ => .bad
  | .pop0 t i => match ρ[i]? with
    | some (.ol (x :: xs)) => ofEv (t.put x (ρ.set i (.ol xs))) st
    | _ => .bad
  | .putd i k v => match ρ[i]? with
    | some (.od kvs) => (needD (evE gv tv cf v ρ st)).out fun y st => (needD (evE gv tv cf k ρ st)).out fun x st =>
      if keyOk x && shallow x && decide (kvs.length < lim) then .nx (ρ.set i (.od (putK x y kvs))) st else .bad
    | _ => .bad
  | .puti i k v => match ρ[i]? with
    | some (.ol xs) => (needD (evE gv tv cf v ρ st)).out fun y st => (needD (evE gv tv cf k ρ st)).out fun x st => match x with
      | .int j => match ixZ xs.length j with
        | some m => .nx (ρ.set i (.ol (xs.set m y))) st
        | none => .bad
      | _ => .bad
    | _ => .bad
  | .keep i => match ρ[i]? with
    | some (.ol xs) => .nx (ρ.set i (.v (.d (.list xs)))) st
    | some (.od kvs) => .nx (ρ.set i (.v (.d (.dict kvs)))) st
    | some _ => .nx ρ st
    | none => .bad
  | .expr e => (evE gv tv cf e ρ st).out fun _ st => .nx ρ st
  | .ifs c a b => (needD (evE gv tv cf c ρ st)).out fun x st => match x with
    | .bool true => runSs a ρ st
    | .bool false => runSs b ρ st
    | _ => .bad
  | .fors t it b => match (evI gv tv cf it ρ st).calm with
    | .ok xs st => forL t (fun ρ st => runSs b ρ st) xs ρ st
    | _ => .bad
  | .whiles c b => whileL (fun ρ st => needD (evE gv tv cf c ρ st)) (fun ρ st => runSs b ρ st) wf ρ st
  | .ret e => (evE gv tv cf e ρ st).out fun v st => .ret v st
  | .raise c => .exc c st
  | .brk => .brk ρ st
  | .cont => .cont ρ st
  | .pass => .nx ρ st
def runSs (s : Sms) (ρ : Ev) (st : Store) : Out :=
  match s with
  | .nil => .nx ρ st
  | .cons s r => (runS s ρ st).next fun ρ st => runSs r ρ st
end
/-- a def: how many parameters, how many names, its body -/
structure Fn where
  np : Nat
  ns : Nat
  body : Sms
def start0 (args : List Val) (ns : Nat) : Ev := args.map Slot.v ++ List.replicate (ns - args.length) .un
def Out.res : Out → Rs Val
  | .nx _ st => .ok (.d .none) st
  | .ret v st => .ok v st
  | .exc c st => .exc c st
  | _ => .bad
@[simp] theorem res_nx (ρ : Ev) (st : Store) : (Out.nx ρ st).res = .ok (.d .none) st := rfl
@[simp] theorem res_ret (v : Val) (st : Store) : (Out.ret v st).res = .ok v st := rfl
@[simp] theorem res_exc (c : Nat) (st : Store) : (Out.exc c st).res = .exc c st := rfl
/-- a call, at most k calls one in another -/
def callN (Γ : Nat → Option Fn) : Nat → CallF
  | 0 => fun _ _ _ => .bad
  | k + 1 => fun f args st => match Γ f with
    | none => .bad
    | some F => if args.length = F.np ∧ F.np ≤ F.ns then (runSs gv tv (callN Γ k) F.body (start0 args F.ns) st).res else .bad
end Ip
/-! Ip2: how data lie in the heap; what an expression's and a statement's reading is. -/
namespace Ip
open PySem PySem.Spec PyProof.Rows L2

abbrev Fg := PySem.W.Frag
/-! ### data in the heap -/
mutual
def Rep (K : Fg) (G : Hp) (d : D) (v : V) : Prop :=
  match d with
  | .none => v = .non
  | .bool b => v = .bl b
  | .int i => v = .int i
  | .str s => v = .str s
  | .tuple ds => ∃ a vs, v = .ref a ∧ SqT K G a vs ∧ Reps K G ds vs
  | .list ds => ∃ a vs, v = .ref a ∧ G a = some (.lst vs) ∧ Reps K G ds vs
  | .dict _ => False
def Reps (K : Fg) (G : Hp) (ds : List D) (vs : List V) : Prop :=
  match ds, vs with
  | [], [] => True
  | d :: ds, v :: vs => Rep K G d v ∧ Reps K G ds vs
  | _, _ => False
end
def Sub (G H : Hp) : Prop := ∀ a o, G a = some o → H a = some o
theorem Sub.refl (G : Hp) : Sub G G := fun _ _ h => h
theorem Sub.trans {G H J : Hp} (a : Sub G H) (b : Sub H J) : Sub G J := fun x o h => b x o (a x o h)
theorem Sub.rd {G H : Hp} (s : Sub G H) {a : Addr} {u : HO} (h : Rd G a u) : Rd H a u := by
  rcases h with h | ⟨o, h⟩
  · exact .inl (s _ _ h)
  · exact .inr ⟨o, s _ _ h⟩
theorem Sub.sqL {K : Fg} {G H : Hp} (s : Sub G H) {a : Addr} {xs : List V} (h : SqL K G a xs) : SqL K H a xs := by
  rcases h with h | h
  · exact .inl (s.rd h)
  · exact .inr h
theorem Sub.sqT {K : Fg} {G H : Hp} (s : Sub G H) {a : Addr} {xs : List V} (h : SqT K G a xs) : SqT K H a xs := by
  rcases h with h | h
  · exact .inl (s.rd h)
  · exact .inr h
mutual
theorem Rep.mono {K : Fg} {G H : Hp} (s : Sub G H) : ∀ (d : D) (v : V), Rep K G d v → Rep K H d v
  | .none, _, h => by simpa [Rep] using h
  | .bool _, _, h => by simpa [Rep] using h
  | .int _, _, h => by simpa [Rep] using h
  | .str _, _, h => by simpa [Rep] using h
  | .tuple ds, v, h => by
    rw [Rep] at h ⊢
    obtain ⟨a, vs, e, q, r⟩ := h
    exact ⟨a, vs, e, s.sqT q, Reps.mono s ds vs r⟩
  | .list ds, v, h => by
    rw [Rep] at h ⊢
    obtain ⟨a, vs, e, q, r⟩ := h
    exact ⟨a, vs, e, s _ _ q, Reps.mono s ds vs r⟩
  | .dict _, _, h => by rw [Rep] at h; exact h.elim
theorem Reps.mono {K : Fg} {G H : Hp} (s : Sub G H) : ∀ (ds : List D) (vs : List V), Reps K G ds vs → Reps K H ds vs
  | [], [], h => by rw [Reps]; trivial
  | d :: ds, v :: vs, h => by
    rw [Reps] at h ⊢
    exact ⟨Rep.mono s d v h.1, Reps.mono s ds vs h.2⟩
  | [], _ :: _, h => by simp [Reps] at h
  | _ :: _, [], h => by simp [Reps] at h
end
section
variable {K : Fg} {G H : Hp}
theorem Reps.length : ∀ {ds : List D} {vs : List V}, Reps K G ds vs → ds.length = vs.length
  | [], [], _ => rfl
  | _ :: ds, _ :: vs, h => by rw [Reps] at h; simp [Reps.length h.2]
  | [], _ :: _, h => by simp [Reps] at h
  | _ :: _, [], h => by simp [Reps] at h
theorem Reps.cons {d : D} {ds : List D} {v : V} {vs : List V} (h : Rep K G d v) (r : Reps K G ds vs) : Reps K G (d :: ds) (v :: vs) := by rw [Reps]; exact ⟨h, r⟩
theorem Reps.nil : Reps K G [] [] := by rw [Reps]; trivial
theorem Reps.get : ∀ {ds : List D} {vs : List V} {i : Nat} {d : D}, Reps K G ds vs → ds[i]? = some d → ∃ v, vs[i]? = some v ∧ Rep K G d v
  | d :: ds, v :: vs, 0, e, h, q => by
    rw [Reps] at h
    simp only [List.getElem?_cons_zero, Option.some.injEq] at q
    subst q
    exact ⟨v, rfl, h.1⟩
  | d :: ds, v :: vs, i + 1, e, h, q => by
    rw [Reps] at h
    obtain ⟨u, a, b⟩ := Reps.get (i := i) h.2 (by simpa using q)
    exact ⟨u, by simpa using a, b⟩
  | [], _, _, _, _, q => by simp at q
  | _ :: _, [], _, _, h, _ => by simp [Reps] at h
theorem Reps.append : ∀ {ds es : List D} {vs us : List V}, Reps K G ds vs → Reps K G es us → Reps K G (ds ++ es) (vs ++ us)
  | [], _, [], _, _, h => h
  | _ :: _, _, _ :: _, _, h, q => by
    rw [Reps] at h
    exact Reps.cons h.1 (Reps.append h.2 q)
  | [], _, _ :: _, _, h, _ => by simp [Reps] at h
  | _ :: _, _, [], _, h, _ => by simp [Reps] at h
theorem Reps.drop : ∀ {ds : List D} {vs : List V} (n : Nat), Reps K G ds vs → Reps K G (ds.drop n) (vs.drop n)
  | _, _, 0, h => h
  | [], [], _ + 1, h => h
  | _ :: _, _ :: _, n + 1, h => by rw [Reps] at h; exact Reps.drop n h.2
  | [], _ :: _, _, h => by simp [Reps] at h
  | _ :: _, [], _, h => by simp [Reps] at h
theorem Reps.take : ∀ {ds : List D} {vs : List V} (n : Nat), Reps K G ds vs → Reps K G (ds.take n) (vs.take n)
  | _, _, 0, h => by simpa using Reps.nil
  | [], [], _ + 1, h => h
  | _ :: _, _ :: _, n + 1, h => by rw [Reps] at h; exact Reps.cons h.1 (Reps.take n h.2)
  | [], _ :: _, _, h => by simp [Reps] at h
  | _ :: _, [], _, h => by simp [Reps] at h
theorem Reps.set {d : D} {v : V} (r : Rep K G d v) : ∀ {ds : List D} {vs : List V} (i : Nat), Reps K G ds vs → Reps K G (ds.set i d) (vs.set i v)
  | [], [], _, h => h
  | _ :: _, _ :: _, 0, h => by rw [Reps] at h; exact Reps.cons r h.2
  | _ :: _, _ :: _, i + 1, h => by rw [Reps] at h; exact Reps.cons h.1 (Reps.set r i h.2)
  | [], _ :: _, _, h => by simp [Reps] at h
  | _ :: _, [], _, h => by simp [Reps] at h
theorem Reps.reverse : ∀ {ds : List D} {vs : List V}, Reps K G ds vs → Reps K G ds.reverse vs.reverse
  | [], [], h => h
  | _ :: _, _ :: _, h => by
    rw [Reps] at h
    rw [List.reverse_cons, List.reverse_cons]
    exact Reps.append (Reps.reverse h.2) (Reps.cons h.1 Reps.nil)
  | [], _ :: _, h => by simp [Reps] at h
  | _ :: _, [], h => by simp [Reps] at h
theorem Reps.rep {ds : List D} {vs : List V} (h : Reps K G ds vs) : ∀ k : Nat, Reps K G (List.replicate k ds).flatten (List.replicate k vs).flatten
  | 0 => Reps.nil
  | k + 1 => by
    rw [List.replicate_succ, List.replicate_succ, List.flatten_cons, List.flatten_cons]
    exact Reps.append h (Reps.rep h k)
end

/-! ### the places of the store, the state of a call -/
def CellAt (K : Fg) (H G : Hp) (a : Addr) (c : Cell) : Prop :=
  match c with
  | .lst xs => ∃ vs, H a = some (.lst vs) ∧ Reps K G xs vs
  | .dct _ => False
  | .ins _ _ => False
/-- G: what nobody changes any more; β: where the store's places lie -/
structure Lay (K : Fg) (H G : Hp) (β : List Addr) (st : Store) : Prop where
  sub : Sub G H
  len : β.length = st.length
  cell : ∀ (n : Nat) (c : Cell), st[n]? = some c → ∃ a, β[n]? = some a ∧ CellAt K H G a c
  nd : β.Nodup
  free : ∀ a ∈ β, G a = none
/-- what may have come to be -/
structure Ext (H G : Hp) (β : List Addr) (H' G' : Hp) (β' : List Addr) : Prop where
  keep : ∀ a o, H a = some o → a ∉ β → H' a = some o
  sub : Sub G G'
  new : ∀ a, G a = none → H a ≠ none → G' a = none
  pre : ∃ γ, β' = β ++ γ ∧ ∀ a ∈ γ, H a = none
theorem Ext.refl (H G : Hp) (β : List Addr) : Ext H G β H G β := ⟨fun _ _ h _ => h, Sub.refl G, fun _ h _ => h, [], by simp, by simp⟩
theorem Ext.trans {H G H1 G1 H2 G2 : Hp} {β β1 β2 : List Addr} (st : ∀ a ∈ β, ∃ o, H1 a = some o) (a : Ext H G β H1 G1 β1) (b : Ext H1 G1 β1 H2 G2 β2) : Ext H G β H2 G2 β2 := by
  obtain ⟨γ, rfl, hγ⟩ := a.pre
  obtain ⟨γ2, rfl, hγ2⟩ := b.pre
  refine ⟨fun x o h hx => b.keep x o (a.keep x o h hx) ?_, a.sub.trans b.sub, fun x h1 h2 => ?_, γ ++ γ2, by simp, fun x hx => ?_⟩
  · intro hm
    rcases List.mem_append.mp hm with hm | hm
    · exact hx hm
    · rw [hγ x hm] at h; cases h
  · refine b.new x (a.new x h1 h2) ?_
    cases e : H x with
    | none => exact absurd e h2
    | some o =>
      by_cases hx : x ∈ β
      · obtain ⟨o', e'⟩ := st x hx
        rw [e']; simp
      · rw [a.keep x o e hx]; simp
  · rcases List.mem_append.mp hx with hx | hx
    · exact hγ x hx
    · cases e : H x with
      | none => rfl
      | some o =>
        have h2 := hγ2 x hx
        by_cases hb : x ∈ β
        · obtain ⟨o', e'⟩ := st x hb
          rw [e'] at h2; cases h2
        · rw [a.keep x o e hb] at h2; cases h2
theorem CellAt.there {K : Fg} {H G : Hp} {a : Addr} {c : Cell} (h : CellAt K H G a c) : ∃ o, H a = some o := by
  cases c with
  | lst xs => obtain ⟨vs, e, _⟩ := h; exact ⟨_, e⟩
  | dct _ => exact h.elim
  | ins _ _ => exact h.elim
theorem Lay.there {K : Fg} {H G : Hp} {β : List Addr} {st : Store} (l : Lay K H G β st) {a : Addr} (h : a ∈ β) : ∃ o, H a = some o := by
  obtain ⟨n, hn, e⟩ := List.getElem_of_mem h
  have hs : n < st.length := by rw [← l.len]; exact hn
  obtain ⟨b, hb, c⟩ := l.cell n st[n] (by simp [hs])
  rw [List.getElem?_eq_getElem hn, e] at hb
  cases hb
  exact c.there
/-- what is laid in H1 is there -/
theorem Lay.old {K : Fg} {H G H1 G1 : Hp} {β β1 : List Addr} {st1 : Store} (l : Lay K H1 G1 β1 st1) (x : Ext H G β H1 G1 β1) : ∀ a ∈ β, ∃ o, H1 a = some o := fun a h => by
  obtain ⟨γ, rfl, _⟩ := x.pre
  exact l.there (List.mem_append_left _ h)

/-- a value -/
def RepV (K : Fg) (G : Hp) (β : List Addr) (x : Val) (v : V) : Prop :=
  match x with
  | .d x => Rep K G x v
  | .loc n => ∃ a, β[n]? = some a ∧ v = .ref a
  | .scr ns => ∃ a, v = .ref a ∧ SqL K G a (ns.map V.int)
/-- a value that is looked at: it may be a list of this call's own -/
def RepT (K : Fg) (H G : Hp) (β : List Addr) (x : Val) (v : V) : Prop :=
  RepV K G β x v ∨ ∃ xs p vs, x = .d (.list xs) ∧ v = .ref p ∧ H p = some (.lst vs) ∧ p ∉ β ∧ Reps K G xs vs
theorem RepV.step {K : Fg} {H G H' G' : Hp} {β β' : List Addr} {x : Val} {v : V} (e : Ext H G β H' G' β') (r : RepV K G β x v) : RepV K G' β' x v := by
  cases x with
  | d x => exact Rep.mono e.sub x v r
  | loc n =>
    obtain ⟨a, h, rfl⟩ := r
    obtain ⟨γ, rfl, _⟩ := e.pre
    exact ⟨a, by rw [List.getElem?_append_left (List.getElem?_eq_some_iff.mp h).1]; exact h, rfl⟩
  | scr ns =>
    obtain ⟨a, rfl, h⟩ := r
    exact ⟨a, rfl, e.sub.sqL h⟩
theorem RepT.step {K : Fg} {H G H' G' : Hp} {β β' : List Addr} {x : Val} {v : V} (e : Ext H G β H' G' β') (r : RepT K H G β x v) : RepT K H' G' β' x v := by
  rcases r with r | ⟨xs, p, vs, rfl, rfl, h, hp, q⟩
  · exact .inl (r.step e)
  · refine .inr ⟨xs, p, vs, rfl, rfl, e.keep p _ h hp, ?_, Reps.mono e.sub _ _ q⟩
    obtain ⟨γ, rfl, hγ⟩ := e.pre
    intro hm
    rcases List.mem_append.mp hm with hm | hm
    · exact hp hm
    · rw [hγ p hm] at h; cases h
/-- data that are looked at, as data in the heap -/
def RepO (K : Fg) (H G : Hp) (d : D) (v : V) : Prop := Rep K G d v ∨ ∃ xs p vs, d = .list xs ∧ v = .ref p ∧ H p = some (.lst vs) ∧ Reps K G xs vs
theorem RepT.o {K : Fg} {H G : Hp} {β : List Addr} {x : D} {v : V} (r : RepT K H G β (.d x) v) : RepO K H G x v := by
  rcases r with r | ⟨xs, p, vs, h, rfl, hp, _, q⟩
  · exact .inl r
  · cases h; exact .inr ⟨xs, p, vs, rfl, rfl, hp, q⟩
theorem RepO.all {K : Fg} {H G : Hp} (s : Sub G H) {x : D} {v : V} (r : RepO K H G x v) : Rep K H x v := by
  rcases r with r | ⟨xs, p, vs, rfl, rfl, hp, q⟩
  · exact Rep.mono s x v r
  · rw [Rep]; exact ⟨p, vs, rfl, hp, Reps.mono s _ _ q⟩

/-- a name's place -/
def SlotOk (K : Fg) (H0 H G : Hp) (β : List Addr) (s : Slot) (o : Option V) : Prop :=
  match s with
  | .un => True
  | .v x => ∃ v, o = some v ∧ RepV K G β x v
  | .ol xs => ∃ p vs, o = some (.ref p) ∧ H p = some (.lst vs) ∧ G p = none ∧ p ∉ β ∧ H0 p = none ∧ Reps K G xs vs
  | .od _ => False
def Slot.isOwn : Slot → Bool
  | .ol _ => true
  | .od _ => true
  | _ => false
/-- the state within a call that began with H0, G0, β0 -/
structure ST (K : Fg) (H0 G0 : Hp) (β0 : List Addr) (ρ : Ev) (st : Store) (σ : L2.St) (H G : Hp) (β : List Addr) : Prop where
  lay : Lay K H G β st
  ext : Ext H0 G0 β0 H G β
  len : ρ.length = σ.length
  slot : ∀ (i : Nat) (s : Slot), ρ[i]? = some s → ∃ o, σ[i]? = some o ∧ SlotOk K H0 H G β s o
  apart : ∀ (i j : Nat) (s t : Slot) (p : Addr), ρ[i]? = some s → ρ[j]? = some t → s.isOwn = true → t.isOwn = true → σ[i]? = some (some (.ref p)) → σ[j]? = some (some (.ref p)) → i = j
theorem SlotOk.step {K : Fg} {H0 H G H' G' : Hp} {β β' : List Addr} {s : Slot} {o : Option V} (e : Ext H G β H' G' β') (r : SlotOk K H0 H G β s o) : SlotOk K H0 H' G' β' s o := by
  cases s with
  | un => trivial
  | v x => obtain ⟨v, h, q⟩ := r; exact ⟨v, h, q.step e⟩
  | ol xs =>
    obtain ⟨p, vs, h1, h2, h3, h4, h5, h6⟩ := r
    refine ⟨p, vs, h1, e.keep p _ h2 h4, e.new p h3 (by rw [h2]; simp), ?_, h5, Reps.mono e.sub _ _ h6⟩
    obtain ⟨γ, rfl, hγ⟩ := e.pre
    intro hm
    rcases List.mem_append.mp hm with hm | hm
    · exact h4 hm
    · rw [hγ p hm] at h2; cases h2
  | od _ => exact r.elim
theorem ST.step {K : Fg} {H0 G0 H G H' G' : Hp} {β0 β β' : List Addr} {ρ : Ev} {st st' : Store} {σ : L2.St} (s : ST K H0 G0 β0 ρ st σ H G β) (e : Ext H G β H' G' β') (l : Lay K H' G' β' st') : ST K H0 G0 β0 ρ st' σ H' G' β' :=
  ⟨l, Ext.trans (fun a h => s.lay.old s.ext a h) s.ext e, s.len, fun i t h => let ⟨o, a, b⟩ := s.slot i t h; ⟨o, a, b.step e⟩, s.apart⟩

/-! ### readings -/
/-- what holds through a law: the written part, what names and defs are worth, where the error classes stand, what is wanted of an error -/
structure Wd where
  K : Fg
  gv : Nat → Option D
  tv : Nat → List (D × D)
  cf : CallF
  ca : Nat → Addr
  E : XK
/-- an outcome's end -/
def Pt {α υ : Type} (Y : Wd) (r : Rs α) (Rel : Hp → Hp → List Addr → α → υ → Prop) (H G : Hp) (β : List Addr) (Q : υ → Hp → Prop) : Prop :=
  match r with
  | .ok a st' => ∀ u H' G' β', Ext H G β H' G' β' → Lay Y.K H' G' β' st' → Rel H' G' β' a u → Q u H'
  | .exc c st' => ∀ H' G' β', Ext H G β H' G' β' → Lay Y.K H' G' β' st' → Y.E (.ref (Y.ca c)) none H'
  | .bad => False
section
variable {α γ υ : Type} {Y : Wd} {Rel : Hp → Hp → List Addr → α → υ → Prop} {H G : Hp} {β : List Addr}
theorem Pt.mono {r : Rs α} {Q Q' : υ → Hp → Prop} (h : Pt Y r Rel H G β Q) (hq : ∀ u H', Q u H' → Q' u H') : Pt Y r Rel H G β Q' := by
  cases r with
  | ok a st => exact fun u H' G' β' e l q => hq _ _ (h u H' G' β' e l q)
  | exc c st => exact h
  | bad => exact h
theorem Pt.step {r : Rs α} {Q : υ → Hp → Prop} {H1 G1 : Hp} {β1 : List Addr} {st1 : Store} (e : Ext H G β H1 G1 β1) (l : Lay Y.K H1 G1 β1 st1) (h : Pt Y r Rel H G β Q) : Pt Y r Rel H1 G1 β1 Q := by
  cases r with
  | ok a st => exact fun u H' G' β' e' l' q => h u H' G' β' (Ext.trans (l.old e) e e') l' q
  | exc c st => exact fun H' G' β' e' l' => h H' G' β' (Ext.trans (l.old e) e e') l'
  | bad => exact h
theorem Pt.bind {υ' : Type} {Rel' : Hp → Hp → List Addr → γ → υ' → Prop} {r : Rs α} {f : α → Store → Rs γ} {Q : υ' → Hp → Prop} (h : Pt Y (r.bind f) Rel' H G β Q) :
    Pt Y r Rel H G β (fun u H1 => ∃ a st1 G1 β1, Ext H G β H1 G1 β1 ∧ Lay Y.K H1 G1 β1 st1 ∧ Rel H1 G1 β1 a u ∧ Pt Y (f a st1) Rel' H1 G1 β1 Q) := by
  cases r with
  | ok a st => exact fun u H1 G1 β1 e l q => ⟨a, st, G1, β1, e, l, q, Pt.step e l h⟩
  | exc c st => exact h
  | bad => exact h
end
abbrev RlT (Y : Wd) : Hp → Hp → List Addr → Val → V → Prop := fun H G β x v => RepT Y.K H G β x v
abbrev RlV (Y : Wd) : Hp → Hp → List Addr → Val → V → Prop := fun _ G β x v => RepV Y.K G β x v
/-- the reading by what is computed -/
def tR {α υ : Type} (Y : Wd) (r : Ev → Store → Rs α) (Rel : Hp → Hp → List Addr → α → υ → Prop) : L2.St → Hp → (υ → Hp → Prop) → Prop := fun σ H Q =>
  ∃ H0 G0 β0 ρ st G β, ST Y.K H0 G0 β0 ρ st σ H G β ∧ Pt Y (r ρ st) Rel H G β Q
abbrev ev (Y : Wd) (e : Ex) : Ev → Store → Rs Val := evE Y.gv Y.tv Y.cf e
abbrev tT (Y : Wd) (e : Ex) : TE := tR Y (ev Y e) (RlT Y)
abbrev tE (Y : Wd) (e : Ex) : TE := tR Y (ev Y e) (RlV Y)
theorem _root_.L2.PE.imp {X : Cx} {e : Expr} {t u : TE} (h : PE X e t) (i : ∀ σ H Q, u σ H Q → t σ H Q) : PE X e u := ⟨fun pins s σ H Q I q => h.run pins s σ H Q I (i σ H Q q)⟩
theorem _root_.L2.PT.imp {X : Cx} {e : Expr} {t u : TT} (h : PT X e t) (i : ∀ σ H Q, u σ H Q → t σ H Q) : PT X e u := ⟨fun pins s σ H Q I q => h.run pins s σ H Q I (i σ H Q q)⟩
theorem _root_.L2.PS.imp {X : Cx} {e : Stmt} {t u : TS} (h : PS X e t) (i : ∀ D σ H, u D σ H → t D σ H) : PS X e u := ⟨fun pins s σ H D I q => h.run pins s σ H D I (i D σ H q)⟩
theorem _root_.L2.PSs.imp {X : Cx} {e : List Stmt} {t u : TS} (h : PSs X e t) (i : ∀ D σ H, u D σ H → t D σ H) : PSs X e u := ⟨fun pins s σ H D I q => h.run pins s σ H D I (i D σ H q)⟩
theorem _root_.L2.PA.imp {X : Cx} {e : List Expr} {t u : TA} (h : PA X e t) (i : ∀ σ H Q, u σ H Q → t σ H Q) : PA X e u := ⟨fun pos pins s σ H Q I q => h.run pos pins s σ H Q I (i σ H Q q)⟩
/-- a value that is kept is one that is looked at -/
theorem tT_tE {Y : Wd} {e : Ex} {σ : L2.St} {H : Hp} {Q : VK} (h : tT Y e σ H Q) : tE Y e σ H Q := by
  obtain ⟨H0, G0, β0, ρ, st, G, β, s, p⟩ := h
  refine ⟨H0, G0, β0, ρ, st, G, β, s, ?_⟩
  unfold ev at p ⊢
  cases q : evE Y.gv Y.tv Y.cf e ρ st with
  | ok a st' => rw [q] at p; exact fun u H' G' β' x l r => p u H' G' β' x l (.inl r)
  | exc c st' => rw [q] at p; exact p
  | bad => rw [q] at p; exact p
end Ip
/-! Ip3: the small language's expressions against the text's, one construct after another. -/
namespace Ip
open PySem PySem.Spec PyProof.Rows L2

/-- what is asked of a def -/
def RepVs (K : Fg) (G : Hp) (β : List Addr) (xs : List Val) (vs : List V) : Prop :=
  match xs, vs with
  | [], [] => True
  | x :: xs, v :: vs => RepV K G β x v ∧ RepVs K G β xs vs
  | _, _ => False
theorem RepVs.step {K : Fg} {H G H' G' : Hp} {β β' : List Addr} (e : Ext H G β H' G' β') : ∀ {xs : List Val} {vs : List V}, RepVs K G β xs vs → RepVs K G' β' xs vs
  | [], [], h => h
  | _ :: _, _ :: _, h => ⟨h.1.step e, RepVs.step e h.2⟩
  | [], _ :: _, h => by simp [RepVs] at h
  | _ :: _, [], h => by simp [RepVs] at h
theorem RepVs.length {K : Fg} {G : Hp} {β : List Addr} : ∀ {xs : List Val} {vs : List V}, RepVs K G β xs vs → xs.length = vs.length
  | [], [], _ => rfl
  | _ :: _, _ :: _, h => by simp [RepVs.length h.2]
  | [], _ :: _, h => by simp [RepVs] at h
  | _ :: _, [], h => by simp [RepVs] at h
def spF (Y : Wd) (f : Nat) (n : Nat) : Sp := fun vs H Q E => ∃ G β st args, args.length = n ∧ Lay Y.K H G β st ∧ RepVs Y.K G β args vs ∧ Pt { Y with E := E } (Y.cf f args st) (RlV Y) H G β Q

/-- the names that a def's text sees -/
structure Sc where
  N : List Str
  sc : Scope
  fn : Str → Bool
  fname : Nat → Option (Str × Nat)
  gname : Nat → Option Str
  tname : Nat → Option Str
  cname : Nat → Option Str
def bnames : List Str := ["len", "abs", "max", "min", "all", "any", "sum", "sorted", "list", "tuple", "int", "isinstance", "set", "str", "bool", "dict", "range", "enumerate", "zip"]
structure Okx (X : Cx) (C : Sc) (Y : Wd) : Prop where
  K : X.K = Y.K
  N : X.N = C.N
  sc : X.env.scope = C.sc
  fn : X.fn = C.fn
  nd : X.N.Nodup
  calm : X.calm = true
  hu : X.A.units + 200 < cLine
  glob : ∀ g x d, C.gname g = some x → Y.gv g = some d → ∃ u v, X.mg x = some u ∧ RelV v u ∧ ∀ G, Rep Y.K G d v
  free : ∀ x, x ∈ bnames → X.mg x = none
  tab : ∀ g x, C.tname g = some x → ∃ fa, X.mg x = some (.ref fa) ∧ ∀ z d, getK (Y.tv g) (.str z) = some d → ∃ v, KDct X.K X.w fa z v ∧ ∀ G, Rep Y.K G d v
  tk : Takes X (fun c d _ H => Y.E c d H)
  exc : ∀ c x, C.cname c = some x → ∃ (fa : Addr) (B newId initId : String) (bmB : List Value), Y.ca c = fa ∧ X.mg x = some (.ref fa) ∧ PySem.W.keepIn X.K (.ref fa) = true ∧ ExcBaseFacts B newId initId bmB ∧ PySem.W.excIn X.K fa bmB newId = true ∧ Raises X (.ref fa)
  kind : C.sc.kind = .function
  call : ∀ f x n, C.fname f = some (x, n) → ∃ k fa fd ps, X.mg x = some (.ref fa) ∧ PySem.W.keepIn X.K (.ref fa) = true ∧ FnOk X.prog X.w X.K X.mg X.base (L2.CX X.prog X.w) k fa fd ps (spF Y f n) ∧ Room k X.A ∧ Binds X.K fd ps [] ∧ ps.length = n

/-! ### names -/
def visB (sc : Scope) (x : Str) : Bool := match sc.names.lookup x with
  | some .local => true
  | some .cell => true
  | some .free => true
  | _ => false
def plainName (x : Str) : Bool := !(x == ("__debug__" : Str)) && !(x == ("__classdict__" : Str)) && !(x == ("__name__" : Str))
theorem visB_ok {sc : Scope} {x : Str} (h : visB sc x = true) : Vis sc x := by
  unfold visB at h
  unfold Vis
  split at h <;> simp_all
theorem plain_d {x : Str} (h : plainName x = true) : (x == ("__debug__" : Str)) = false := by
  unfold plainName at h; simp_all
theorem plain_c {x : Str} (h : plainName x = true) : (x == ("__classdict__" : Str)) = false := by
  unfold plainName at h; simp_all
theorem plain_n {x : Str} (h : plainName x = true) : x ≠ ("__name__" : Str) := by
  unfold plainName at h; simp_all
def chkVar (C : Sc) (i : Nat) (x : Str) : Bool := (match C.N[i]? with | some y => y == x | none => false) && visB C.sc x && plainName x
section
variable {X : Cx} {C : Sc} {Y : Wd}
theorem chkVar_ok {i : Nat} {x : Str} (o : Okx X C Y) (h : chkVar C i x = true) : X.N[i]? = some x ∧ Vis X.env.scope x ∧ plainName x = true := by
  unfold chkVar at h
  rw [o.N, o.sc]
  simp only [Bool.and_eq_true] at h
  obtain ⟨⟨h1, h2⟩, h3⟩ := h
  refine ⟨?_, visB_ok h2, h3⟩
  split at h1
  · rename_i y e
    rw [e, eq_of_beq h1]
  · cases h1
theorem c_tv {i : Nat} {x : Str} {pos : Pos} (o : Okx X C Y) (h : chkVar C i x = true) : PE X (.Name x pos) (tT Y (.tv i)) := by
  obtain ⟨h1, h2, h3⟩ := chkVar_ok o h
  refine (pe_var h1 h2 (plain_d h3) (plain_c h3)).imp fun σ H Q q => ?_
  obtain ⟨H0, G0, β0, ρ, st, G, β, s, p⟩ := q
  unfold ev at p
  rw [evE] at p
  cases e : ρ[i]? with
  | none => rw [e] at p; exact p.elim
  | some t =>
    obtain ⟨ov, h4, h5⟩ := s.slot i t e
    rw [e] at p
    cases t with
    | un => exact p.elim
    | v x =>
      obtain ⟨v, rfl, r⟩ := h5
      exact ⟨v, h4, p v H G β (Ext.refl ..) s.lay (.inl r)⟩
    | ol xs =>
      obtain ⟨pp, vs, rfl, a1, a2, a3, a4, a5⟩ := h5
      exact ⟨_, h4, p _ H G β (Ext.refl ..) s.lay (.inr ⟨xs, pp, vs, rfl, rfl, a1, a3, a5⟩)⟩
    | od _ => exact h5.elim
theorem c_var {i : Nat} {x : Str} {pos : Pos} (o : Okx X C Y) (h : chkVar C i x = true) : PE X (.Name x pos) (tE Y (.var i)) := by
  obtain ⟨h1, h2, h3⟩ := chkVar_ok o h
  refine (pe_var h1 h2 (plain_d h3) (plain_c h3)).imp fun σ H Q q => ?_
  obtain ⟨H0, G0, β0, ρ, st, G, β, s, p⟩ := q
  unfold ev at p
  rw [evE] at p
  cases e : ρ[i]? with
  | none => rw [e] at p; exact p.elim
  | some t =>
    obtain ⟨ov, h4, h5⟩ := s.slot i t e
    rw [e] at p
    cases t with
    | v x =>
      obtain ⟨v, rfl, r⟩ := h5
      exact ⟨v, h4, p v H G β (Ext.refl ..) s.lay r⟩
    | _ => exact p.elim
/-- a name of the module's or a built-in -/
def chkGl (C : Sc) (x : Str) : Bool := (match C.sc.names.lookup x with | some .globalImplicit => true | _ => false) && plainName x
theorem chkGl_ok {x : Str} (o : Okx X C Y) (h : chkGl C x = true) : Gl X x ∧ plainName x = true := by
  unfold chkGl at h
  simp only [Bool.and_eq_true] at h
  refine ⟨?_, h.2⟩
  unfold Gl Env.kindOf
  rw [o.sc]
  split at h
  · assumption
  · simp at h
theorem c_glob {g : Nat} {x : Str} {pos : Pos} (o : Okx X C Y) (hx : C.gname g = some x) (h : chkGl C x = true) : PE X (.Name x pos) (tE Y (.glob g)) := by
  obtain ⟨h1, h2⟩ := chkGl_ok o h
  cases e : Y.gv g with
  | none => exact ⟨fun _ _ _ _ _ _ q => by
      obtain ⟨H0, G0, β0, ρ, st, G, β, s, p⟩ := q
      unfold ev at p
      rw [evE, e] at p
      exact p.elim⟩
  | some d =>
    obtain ⟨u, v, a1, a2, a3⟩ := o.glob g x d hx e
    refine (pe_glob h1 a1 a2 (plain_d h2)).imp fun σ H Q q => ?_
    obtain ⟨H0, G0, β0, ρ, st, G, β, s, p⟩ := q
    unfold ev at p
    rw [evE, e] at p
    exact p v H G β (Ext.refl ..) s.lay (a3 G)

/-! ### constants -/
theorem c_con {d : D} {v : V} {e : Expr} (h : PE X e (tC v)) (r : ∀ G, Rep Y.K G d v) : PE X e (tE Y (.con d)) := h.imp fun σ H Q q => by
  obtain ⟨H0, G0, β0, ρ, st, G, β, s, p⟩ := q
  unfold ev at p
  rw [evE] at p
  exact p v H G β (Ext.refl ..) s.lay (r G)
theorem c_none {j pos} : PE X (.Constant .none j pos) (tE Y (.con .none)) := c_con pe_non fun _ => by rw [Rep]
theorem c_bool {b j pos} : PE X (.Constant (.bool b) j pos) (tE Y (.con (.bool b))) := c_con pe_bl fun _ => by rw [Rep]
theorem c_int {i j pos} : PE X (.Constant (.int i) j pos) (tE Y (.con (.int i))) := c_con pe_int fun _ => by rw [Rep]
theorem c_str {x j pos} : PE X (.Constant (.str x) j pos) (tE Y (.con (.str x))) := c_con pe_str fun _ => by rw [Rep]

/-! ### one thing behind another -/
abbrev RlD (Y : Wd) : Hp → Hp → List Addr → D → V → Prop := fun H G β x v => RepT Y.K H G β (.d x) v
theorem Pt.need {Y : Wd} {γ υ' : Type} {Rel' : Hp → Hp → List Addr → γ → υ' → Prop} {H G : Hp} {β : List Addr} {r : Rs Val} {f : D → Store → Rs γ} {Q : υ' → Hp → Prop} (h : Pt Y ((needD r).bind f) Rel' H G β Q) :
    Pt Y r (RlT Y) H G β (fun u H1 => ∃ a st1 G1 β1, Ext H G β H1 G1 β1 ∧ Lay Y.K H1 G1 β1 st1 ∧ RepT Y.K H1 G1 β1 (.d a) u ∧ Pt Y (f a st1) Rel' H1 G1 β1 Q) := by
  cases r with
  | ok a st =>
    cases a with
    | d x => exact fun u H1 G1 β1 e l q => ⟨x, st, G1, β1, e, l, q, Pt.step e l h⟩
    | loc n => exact h.elim
    | scr n => exact h.elim
  | exc c st => exact h
  | bad => exact h
/-- the end of a plain computation: the heap may have grown -/
structure Grow (H G H' G' : Hp) : Prop where
  keep : Sub H H'
  sub : Sub G G'
  le : Sub G' H'
  new : ∀ a, G a = none → H a ≠ none → G' a = none
theorem Grow.refl {H G : Hp} (s : Sub G H) : Grow H G H G := ⟨Sub.refl _, Sub.refl _, s, fun _ h _ => h⟩
theorem Grow.ext {H G H' G' : Hp} (g : Grow H G H' G') (β : List Addr) : Ext H G β H' G' β := ⟨fun a o h _ => g.keep a o h, g.sub, g.new, [], by simp, by simp⟩
theorem CellAt.grow {K : Fg} {H G H' G' : Hp} {a : Addr} {c : Cell} (k : Sub H H') (s : Sub G G') (h : CellAt K H G a c) : CellAt K H' G' a c := by
  cases c with
  | lst xs => obtain ⟨vs, e, r⟩ := h; exact ⟨vs, k _ _ e, Reps.mono s _ _ r⟩
  | dct _ => exact h.elim
  | ins _ _ => exact h.elim
theorem Grow.lay {K : Fg} {H G H' G' : Hp} {β : List Addr} {st : Store} (g : Grow H G H' G') (l : Lay K H G β st) : Lay K H' G' β st :=
  ⟨g.le, l.len, fun n c h => let ⟨a, e, x⟩ := l.cell n c h; ⟨a, e, x.grow g.keep g.sub⟩, l.nd, fun a h => g.new a (l.free a h) (by obtain ⟨o, e⟩ := l.there h; rw [e]; simp)⟩
theorem Grow.trans {H G H1 G1 H2 G2 : Hp} (a : Grow H G H1 G1) (b : Grow H1 G1 H2 G2) : Grow H G H2 G2 :=
  ⟨a.keep.trans b.keep, a.sub.trans b.sub, b.le, fun x h1 h2 => b.new x (a.new x h1 h2) (by
    cases e : H x with
    | none => exact absurd e h2
    | some o => rw [a.keep x o e]; simp)⟩
theorem upd_sub {H : Hp} {p : Addr} {o : HO} (h : H p = none) : Sub H (upd H p o) := fun a u e => by rw [upd_ne (ne_of_none e h)]; exact e
theorem Grow.one {H G : Hp} {p : Addr} {o : HO} (s : Sub G H) (h : H p = none) : Grow H G (upd H p o) (upd G p o) := by
  have hg : G p = none := by
    cases e : G p with
    | none => rfl
    | some u => rw [s p u e] at h; cases h
  refine ⟨upd_sub h, upd_sub hg, fun a u e => ?_, fun a h1 h2 => ?_⟩
  · by_cases ha : a = p
    · subst ha; rw [upd_same] at e ⊢; exact e
    · rw [upd_ne ha] at e ⊢; exact s a u e
  · have ha : a ≠ p := by rintro rfl; exact h2 h
    rw [upd_ne ha]; exact h1
/-- what an operation on two values asks -/
def rD (Y : Wd) (g : D → D → Option D) : R2 := fun x y H Q => ∃ G dx dy dz, Sub G H ∧ RepO Y.K H G dx x ∧ RepO Y.K H G dy y ∧ g dx dy = some dz ∧ ∀ v H' G', Grow H G H' G' → Rep Y.K G' dz v → Q v H'
theorem Pt.fin {Y : Wd} {H G : Hp} {β : List Addr} {st : Store} {dz : D} {Q : VK} (l : Lay Y.K H G β st) (h : Pt Y (.ok (.d dz) st) (RlV Y) H G β Q) : ∀ v H' G', Grow H G H' G' → Rep Y.K G' dz v → Q v H' :=
  fun v H' G' g r => h v H' G' β (g.ext β) (g.lay l) r
/-- two operands, then an operation -/
theorem two_ops {a b : Ex} {g : D → D → Option D} {σ : L2.St} {H : Hp} {Q : VK} {r : Ev → Store → Rs Val}
    (hr : ∀ ρ st, r ρ st = (needD (ev Y a ρ st)).bind fun x st => (needD (ev Y b ρ st)).bind fun y st => Rs.of ((g x y).map Val.d) st)
    (q : tR Y r (RlV Y) σ H Q) : tOp (rD Y g) (tT Y a) (tT Y b) σ H Q := by
  obtain ⟨H0, G0, β0, ρ, st, G, β, s, p⟩ := q
  rw [hr] at p
  refine ⟨H0, G0, β0, ρ, st, G, β, s, (Pt.need p).mono fun u1 H1 ⟨x, st1, G1, β1, e1, l1, r1, p1⟩ => ?_⟩
  refine ⟨H0, G0, β0, ρ, st1, G1, β1, s.step e1 l1, (Pt.need p1).mono fun u2 H2 ⟨y, st2, G2, β2, e2, l2, r2, p2⟩ => ?_⟩
  cases z : g x y with
  | none => rw [z] at p2; exact p2.elim
  | some dz =>
    rw [z] at p2
    exact ⟨G2, x, y, dz, l2.sub, (r1.step e2).o, r2.o, z, Pt.fin l2 p2⟩
theorem one_op {a : Ex} {g : D → Option D} {σ : L2.St} {H : Hp} {Q : VK} {r : Ev → Store → Rs Val}
    (hr : ∀ ρ st, r ρ st = (needD (ev Y a ρ st)).bind fun x st => Rs.of ((g x).map Val.d) st)
    (q : tR Y r (RlV Y) σ H Q) : tT Y a σ H fun x H1 => ∃ G dx dz, Sub G H1 ∧ RepO Y.K H1 G dx x ∧ g dx = some dz ∧ ∀ v H' G', Grow H1 G H' G' → Rep Y.K G' dz v → Q v H' := by
  obtain ⟨H0, G0, β0, ρ, st, G, β, s, p⟩ := q
  rw [hr] at p
  refine ⟨H0, G0, β0, ρ, st, G, β, s, (Pt.need p).mono fun u1 H1 ⟨x, st1, G1, β1, e1, l1, r1, p1⟩ => ?_⟩
  cases z : g x with
  | none => rw [z] at p1; exact p1.elim
  | some dz =>
    rw [z] at p1
    exact ⟨G1, x, dz, l1.sub, r1.o, z, Pt.fin l1 p1⟩
theorem Ext.none {K : Fg} {H G H1 G1 : Hp} {β β1 : List Addr} {st : Store} (x : Ext H G β H1 G1 β1) (l : Lay K H1 G1 β1 st) {p : Addr} (h : H1 p = Option.none) : H p = Option.none := by
  cases e : H p with
  | none => rfl
  | some o =>
    by_cases hb : p ∈ β
    · obtain ⟨o', e'⟩ := l.old x p hb
      rw [h] at e'; cases e'
    · rw [x.keep p o e hb] at h; cases h
/-- an object of one's own, over the state -/
theorem Lay.over {K : Fg} {H G : Hp} {β : List Addr} {st : Store} (l : Lay K H G β st) {p : Addr} {o : HO} (hp : p ∉ β) (hg : G p = Option.none) : Lay K (upd H p o) G β st := by
  refine ⟨fun a u e => ?_, l.len, fun n c h => ?_, l.nd, l.free⟩
  · rw [upd_ne (by rintro rfl; rw [hg] at e; cases e)]
    exact l.sub a u e
  · obtain ⟨a, ha, x⟩ := l.cell n c h
    refine ⟨a, ha, ?_⟩
    have hne : a ≠ p := by
      rintro rfl
      exact hp (List.mem_of_getElem? ha)
    cases c with
    | lst xs =>
      obtain ⟨vs, e, r⟩ := x
      exact ⟨vs, by rw [upd_ne hne]; exact e, r⟩
    | dct _ => exact x.elim
    | ins _ _ => exact x.elim
theorem Lay.fresh {K : Fg} {H G : Hp} {β : List Addr} {st : Store} (l : Lay K H G β st) {p : Addr} (h : H p = Option.none) : p ∉ β ∧ G p = Option.none := by
  refine ⟨fun hm => ?_, ?_⟩
  · obtain ⟨o, e⟩ := l.there hm
    rw [h] at e
    cases e
  cases e : G p with
  | none => rfl
  | some u => rw [l.sub p u e] at h; cases h
theorem Ext.new1 {H G : Hp} {β : List Addr} {p : Addr} {o : HO} (h : H p = Option.none) : Ext H G β (upd H p o) G β :=
  ⟨fun a u e _ => by rw [upd_ne (by rintro rfl; rw [h] at e; cases e)]; exact e, Sub.refl _, fun _ h _ => h, [], by simp, by simp⟩
/-- a list just made, of nobody's as yet -/
def RlF (Y : Wd) (H : Hp) : Hp → Hp → List Addr → Val → V → Prop := fun H' G' β' x v => ∃ xs p vs, x = .d (.list xs) ∧ v = .ref p ∧ H p = Option.none ∧ H' p = some (.lst vs) ∧ G' p = Option.none ∧ p ∉ β' ∧ Reps Y.K G' xs vs
def tRF (Y : Wd) (r : Ev → Store → Rs Val) : TE := fun σ H Q => ∃ H0 G0 β0 ρ st G β, ST Y.K H0 G0 β0 ρ st σ H G β ∧ Pt Y (r ρ st) (RlF Y H) H G β Q
abbrev tF (Y : Wd) (e : Ex) : TE := tRF Y (ev Y e)
/-- what stands is frozen -/
theorem Lay.freeze {K : Fg} {H G : Hp} {β : List Addr} {st : Store} (l : Lay K H G β st) {p : Addr} {o : HO} (hp : H p = some o) (hg : G p = Option.none) (hb : p ∉ β) : Lay K H (upd G p o) β st := by
  refine ⟨fun a u e => ?_, l.len, fun n c h => ?_, l.nd, fun a h => ?_⟩
  · by_cases ha : a = p
    · subst ha; rw [upd_same] at e; rw [← e]; exact hp
    · rw [upd_ne ha] at e; exact l.sub a u e
  · obtain ⟨a, ha, xx⟩ := l.cell n c h
    exact ⟨a, ha, xx.grow (Sub.refl _) (upd_sub hg)⟩
  · rw [upd_ne (by rintro rfl; exact hb h)]
    exact l.free a h
theorem Ext.freeze {H G H1 G1 : Hp} {β β1 : List Addr} (x : Ext H G β H1 G1 β1) {p : Addr} {o : HO} (hp : H p = Option.none) (hg : G1 p = Option.none) : Ext H G β H1 (upd G1 p o) β1 :=
  ⟨x.keep, x.sub.trans (upd_sub hg), fun a h1 h2 => by rw [upd_ne (by rintro rfl; exact h2 hp)]; exact x.new a h1 h2, x.pre⟩
theorem tE_tF {e : Ex} {σ : L2.St} {H : Hp} {Q : VK} (q : tE Y e σ H Q) : tF Y e σ H Q := by
  obtain ⟨H0, G0, β0, ρ, st, G, β, s, p⟩ := q
  refine ⟨H0, G0, β0, ρ, st, G, β, s, ?_⟩
  cases z : ev Y e ρ st with
  | ok x st1 =>
    rw [z] at p
    rintro u H1 G1 β1 x1 l1 ⟨xs, a, vs, rfl, rfl, h1, h2, h3, h4, h5⟩
    refine p _ H1 (upd G1 a (.lst vs)) β1 (x1.freeze h1 h3) (l1.freeze h2 h3 h4) ?_
    show Rep _ _ _ _
    rw [Rep]
    exact ⟨a, vs, rfl, upd_same, Reps.mono (upd_sub h3) _ _ h5⟩
  | exc c st1 => rw [z] at p; exact p
  | bad => rw [z] at p; exact p
theorem c_fresh {a : Expr} {e : Ex} (h : PE X a (tF Y e)) : PE X a (tE Y e) := h.imp fun σ H Q q => tE_tF q
/-- the end of what makes a list -/
theorem Pt.made {H H1 G1 : Hp} {β1 : List Addr} {st1 : Store} {xs : List D} {us : List V} {Q : VK} {p : Addr} (l1 : Lay Y.K H1 G1 β1 st1) (h : Pt Y (.ok (.d (.list xs)) st1) (RlF Y H) H1 G1 β1 Q) (hH : H p = Option.none) (h1 : H1 p = Option.none) (r : Reps Y.K G1 xs us) :
    Q (.ref p) (upd H1 p (.lst us)) := by
  obtain ⟨f1, f2⟩ := l1.fresh h1
  exact h (.ref p) _ G1 β1 (Ext.new1 h1) (l1.over f1 f2) ⟨xs, p, us, rfl, rfl, hH, upd_same, f2, f1, r⟩
end
end Ip
/-! Ip4: operators on data. -/
namespace Ip
open PySem PySem.Spec PyProof.Rows L2

section
variable {K : Fg} {H G : Hp}
theorem RepO.int {i : Int} {v : V} (r : RepO K H G (.int i) v) : v = .int i := by
  rcases r with r | ⟨_, _, _, h, _⟩
  · rwa [Rep] at r
  · cases h
theorem RepO.bool {i : Bool} {v : V} (r : RepO K H G (.bool i) v) : v = .bl i := by
  rcases r with r | ⟨_, _, _, h, _⟩
  · rwa [Rep] at r
  · cases h
theorem RepO.none {v : V} (r : RepO K H G .none v) : v = .non := by
  rcases r with r | ⟨_, _, _, h, _⟩
  · rwa [Rep] at r
  · cases h
theorem RepO.str {i : Str} {v : V} (r : RepO K H G (.str i) v) : v = .str i := by
  rcases r with r | ⟨_, _, _, h, _⟩
  · rwa [Rep] at r
  · cases h
theorem RepO.tuple {ds : List D} {v : V} (r : RepO K H G (.tuple ds) v) : ∃ a vs, v = .ref a ∧ SqT K G a vs ∧ Reps K G ds vs := by
  rcases r with r | ⟨_, _, _, h, _⟩
  · rwa [Rep] at r
  · cases h
theorem RepO.list (s : Sub G H) {ds : List D} {v : V} (r : RepO K H G (.list ds) v) : ∃ a vs, v = .ref a ∧ H a = some (.lst vs) ∧ Reps K G ds vs := by
  rcases r with r | ⟨_, _, _, h, rfl, e, q⟩
  · rw [Rep] at r
    obtain ⟨a, vs, e, h, q⟩ := r
    exact ⟨a, vs, e, s _ _ h, q⟩
  · cases h; exact ⟨_, _, rfl, e, q⟩
theorem rep_int {i : Int} : Rep K G (.int i) (.int i) := by rw [Rep]
theorem rep_bool {i : Bool} : Rep K G (.bool i) (.bl i) := by rw [Rep]
theorem rep_none : Rep K G .none .non := by rw [Rep]
theorem rep_str {i : Str} : Rep K G (.str i) (.str i) := by rw [Rep]
theorem rep_tx {l : List Nat} {x : Str} (h : x.cps.toList = l) : Rep K G (tx l) (.str x) := by
  subst h
  rw [Rep]
theorem rep_tup {ds : List D} {vs : List V} {p : Addr} (hp : H p = none) (s : Sub G H) (r : Reps K G ds vs) : Rep K (upd G p (.tup vs)) (.tuple ds) (.ref p) := by
  rw [Rep]
  refine ⟨p, vs, rfl, .of upd_same, Reps.mono (upd_sub ?_) _ _ r⟩
  cases e : G p with
  | none => rfl
  | some u => rw [s p u e] at hp; cases hp
theorem rep_lst {ds : List D} {vs : List V} {p : Addr} (hp : H p = none) (s : Sub G H) (r : Reps K G ds vs) : Rep K (upd G p (.lst vs)) (.list ds) (.ref p) := by
  rw [Rep]
  refine ⟨p, vs, rfl, upd_same, Reps.mono (upd_sub ?_) _ _ r⟩
  cases e : G p with
  | none => rfl
  | some u => rw [s p u e] at hp; cases hp
theorem tup_rep {ds : List D} {a : Addr} {vs : List V} (h : SqT K G a vs) (r : Reps K G ds vs) : Rep K G (.tuple ds) (.ref a) := by
  rw [Rep]; exact ⟨a, vs, rfl, h, r⟩
end
theorem lim_eq : (lim : Nat) = sizeLine := by rw [sizeLine_eq]
theorem str_len (x : Str) : x.length = x.cps.toList.length := by simp [Str.length]
theorem str_app (x y : Str) : (x ++ y).cps.toList = x.cps.toList ++ y.cps.toList := TL.tl_append x y
theorem inr64_ok {i : Int} (h : inr64 i = true) : -(2 ^ 64) < i ∧ i < 2 ^ 64 := by
  unfold inr64 at h
  simp only [Bool.and_eq_true, decide_eq_true_eq] at h
  constructor <;> omega
section
variable {X : Cx} {C : Sc} {Y : Wd}
theorem o_add (hK : X.K = Y.K) : OpR X (binaryOp .Add) (rD Y (binD .add)) := by
  intro pins s σ H x y v u Q I rx ry h
  obtain ⟨G, dx, dy, dz, sg, r1, r2, e, q⟩ := h
  cases dx with
  | int i =>
    cases dy with
    | int j =>
      cases e
      cases r1.int; cases r2.int
      exact op_add pins s σ H _ _ v u Q I rx ry ⟨i, j, rfl, rfl, q _ _ _ (Grow.refl sg) rep_int⟩
    | _ => cases e
  | str a =>
    cases dy with
    | str b =>
      simp only [binD] at e
      split at e
      · rename_i hz
        cases e
        cases r1.str; cases r2.str
        refine op_add_str pins s σ H _ _ v u Q I rx ry ⟨a, b, rfl, rfl, ?_, q _ _ _ (Grow.refl sg) (rep_tx (str_app a b))⟩
        rw [str_len, str_len, ← lim_eq]; exact hz
      · cases e
    | _ => cases e
  | list a =>
    cases dy with
    | list b =>
      simp only [binD] at e
      split at e
      · rename_i hz
        cases e
        obtain ⟨l, vs, rfl, h1, h2⟩ := r1.list sg
        obtain ⟨m, us, rfl, h3, h4⟩ := r2.list sg
        refine op_cat pins s σ H _ _ v u Q I rx ry ⟨l, m, vs, us, rfl, rfl, h1, h3, ?_, fun p hp => q _ _ _ (Grow.one sg hp) (rep_lst hp sg (Reps.append h2 h4))⟩
        rw [← h2.length, ← h4.length, ← lim_eq]; exact hz
      · cases e
    | _ => cases e
  | tuple a =>
    cases dy with
    | tuple b =>
      simp only [binD] at e
      split at e
      · rename_i hz
        cases e
        obtain ⟨l, vs, rfl, h1, h2⟩ := r1.tuple
        obtain ⟨m, us, rfl, h3, h4⟩ := r2.tuple
        have l1 := h2.length
        have l2 := h4.length
        refine op_catA pins s σ H _ _ v u Q I rx ry ⟨l, m, vs, us, rfl, rfl, by rw [hK]; exact sg.sqT h1, by rw [hK]; exact sg.sqT h3, ?_, fun e0 => ?_, fun e0 e1 => ?_, fun e0 e1 p hp => ?_⟩
        · rw [← l1, ← l2, ← lim_eq]; exact hz
        · subst e0
          cases a with
          | nil => exact q _ _ _ (Grow.refl sg) (tup_rep h3 h4)
          | cons _ _ => simp at l1
        · subst e1
          cases b with
          | nil => rw [List.append_nil] at q; exact q _ _ _ (Grow.refl sg) (tup_rep h1 h2)
          | cons _ _ => simp at l2
        · exact q _ _ _ (Grow.one sg hp) (rep_tup hp sg (Reps.append h2 h4))
      · cases e
    | _ => cases e
  | _ => cases dy <;> cases e
theorem o_sub : OpR X (binaryOp .Sub) (rD Y (binD .sub)) := by
  intro pins s σ H x y v u Q I rx ry h
  obtain ⟨G, dx, dy, dz, sg, r1, r2, e, q⟩ := h
  cases dx with
  | int i =>
    cases dy with
    | int j =>
      cases e
      cases r1.int; cases r2.int
      exact op_sub pins s σ H _ _ v u Q I rx ry ⟨i, j, rfl, rfl, q _ _ _ (Grow.refl sg) rep_int⟩
    | _ => cases e
  | _ => cases dy <;> cases e
theorem o_mod : OpR X (binaryOp .Mod) (rD Y (binD .mod)) := by
  intro pins s σ H x y v u Q I rx ry h
  obtain ⟨G, dx, dy, dz, sg, r1, r2, e, q⟩ := h
  cases dx with
  | int i =>
    cases dy with
    | int j =>
      simp only [binD] at e
      split at e
      · rename_i hz
        cases e
        cases r1.int; cases r2.int
        exact op_modN pins s σ H _ _ v u Q I rx ry ⟨i, j, rfl, rfl, hz, q _ _ _ (Grow.refl sg) rep_int⟩
      · cases e
    | _ => cases e
  | _ => cases dy <;> cases e
theorem o_fdiv : OpR X (binaryOp .FloorDiv) (rD Y (binD .fdiv)) := by
  intro pins s σ H x y v u Q I rx ry h
  obtain ⟨G, dx, dy, dz, sg, r1, r2, e, q⟩ := h
  cases dx with
  | int i =>
    cases dy with
    | int j =>
      simp only [binD] at e
      split at e
      · rename_i hz
        cases e
        cases r1.int; cases r2.int
        exact op_fdivN pins s σ H _ _ v u Q I rx ry ⟨i, j, rfl, rfl, hz, q _ _ _ (Grow.refl sg) rep_int⟩
      · cases e
    | _ => cases e
  | _ => cases dy <;> cases e
theorem o_pow : OpR X (binaryOp .Pow) (rD Y (binD .pow)) := by
  intro pins s σ H x y v u Q I rx ry h
  obtain ⟨G, dx, dy, dz, sg, r1, r2, e, q⟩ := h
  cases dx with
  | int i =>
    cases dy with
    | int j =>
      simp only [binD] at e
      split at e
      · rename_i hz
        cases e
        cases r1.int; cases r2.int
        exact op_pow pins s σ H _ _ v u Q I rx ry ⟨i, j, rfl, rfl, ⟨hz.1, by omega, hz.2.2⟩, q _ _ _ (Grow.refl sg) rep_int⟩
      · cases e
    | _ => cases e
  | _ => cases dy <;> cases e
theorem o_mulI (hK : X.K = Y.K) {pins : List (Addr × Obj)} {s : Shared} {σ : L2.St} {H G : Hp} {i j : Int} {v u : Value} {Q : VK} (I : Inv X pins σ H s) (rx : RelV (.int i) v) (ry : RelV (.int j) u) (h : (inr64 i || inr64 j) = true) (q : Q (.int (i * j)) H) :
    wpAny (model X.prog X.w) X.A (binaryOp .Mult v u) (EP X pins σ Q) X.xe s := by
  refine op_mul pins s σ H _ _ v u Q I rx ry ⟨i, j, rfl, rfl, ?_, q⟩
  simp only [Bool.or_eq_true] at h
  rcases h with h | h
  · exact .inl (inr64_ok h)
  · exact .inr (inr64_ok h)

theorem flat_rep {α : Type} (a : Array α) : ∀ (n : Nat) (acc : Array α), ((List.replicate n a).foldl (· ++ ·) acc).toList = acc.toList ++ (List.replicate n a.toList).flatten
  | 0, acc => by simp
  | n + 1, acc => by
    rw [List.replicate_succ, List.foldl_cons, flat_rep a n, List.replicate_succ, List.flatten_cons, Array.toList_append, List.append_assoc]
theorem o_mul (hK : X.K = Y.K) : OpR X (binaryOp .Mult) (rD Y (binD .mul)) := by
  intro pins s σ H x y v u Q I rx ry h
  obtain ⟨G, dx, dy, dz, sg, r1, r2, e, q⟩ := h
  cases dx with
  | int i =>
    cases dy with
    | int j =>
      simp only [binD] at e
      split at e
      · rename_i hz
        cases e
        cases r1.int; cases r2.int
        exact o_mulI hK (G := G) I rx ry hz (q _ _ _ (Grow.refl sg) rep_int)
      · cases e
    | _ => cases e
  | str a =>
    cases dy with
    | int j =>
      simp only [binD] at e
      split at e
      · rename_i hz
        cases e
        cases r1.str; cases r2.int
        obtain ⟨t, rfl⟩ := rx
        obtain ⟨t', rfl⟩ := ry
        obtain ⟨h0, h63, h1⟩ := hz
        by_cases hj : j < 1
        · have hj0 : j = 0 := by omega
          subst hj0
          refine PySem.P.mul_str_none hj (by decide) ⟨.str _, H, I.tok _, ⟨_, rfl⟩, q _ _ _ (Grow.refl sg) (rep_tx ?_)⟩
          exact rfl
        · have hl : a.length * j.toNat ≤ 100000 := by rw [str_len]; exact h1
          have hc : (a.length : Int) * j ≤ 100000 := by
            have e1 : ((j.toNat : Nat) : Int) = j := Int.toNat_of_nonneg h0
            rw [← e1]
            have h2 := Int.ofNat_le.mpr hl
            rw [Int.natCast_mul] at h2
            exact h2
          refine PySem.P.mul_str ?_ (fun _ hn => ?_) (fun _ hn => ?_) ?_
          · have e1 : decide (j < -(2 ^ 63 : Int)) = false := decide_eq_false (by omega)
            have e2 : decide (j ≥ 2 ^ 63) = false := decide_eq_false (by omega)
            rw [e1, e2]; rfl
          · have : (a.length : Int) ≤ (2 ^ 63 - 1) / j := (Int.le_ediv_iff_mul_le (by omega)).mpr (by omega)
            omega
          · unfold PySem.Builtin.Str.tooLong
            rw [sizeLine_eq]
            simp only [decide_eq_false_iff_not]
            omega
          · rw [if_neg hj]
            split
            · rename_i hn
              refine ⟨.str a, H, I, ⟨_, rfl⟩, q _ _ _ (Grow.refl sg) (rep_tx ?_)⟩
              simp only [Bool.or_eq_true, beq_iff_eq] at hn
              rcases hn with hn | hn
              · subst hn; simp
              · have : a.cps.toList = [] := by rw [str_len] at hn; exact List.eq_nil_of_length_eq_zero hn
                rw [this]; simp
            · have e3 : (List.foldl (fun x1 x2 => x1 ++ x2) #[] (List.replicate j.toNat a.cps)).toList = (List.replicate j.toNat a.cps.toList).flatten := by
                have := flat_rep a.cps j.toNat #[]
                simpa using this
              refine ⟨?_, ⟨.str _, H, I.tok _, ⟨_, rfl⟩, q _ _ _ (Grow.refl sg) (rep_tx e3)⟩⟩
              rw [str_len, e3, PyProof.Rows.lm_len_rep_flat, sizeLine_eq, Nat.mul_comm]
              omega
      · cases e
    | _ => cases e
  | list a =>
    cases dy with
    | int j =>
      simp only [binD] at e
      split at e
      · rename_i hz
        cases e
        cases r2.int
        obtain ⟨l, vs, rfl, h1, h2⟩ := r1.list sg
        refine op_rep pins s σ H _ _ v u Q I rx ry ⟨l, j, vs, rfl, rfl, h1, by omega, by omega, ?_, fun p hp => q _ _ _ (Grow.one sg hp) (rep_lst hp sg (Reps.rep h2 _))⟩
        rw [← h2.length, ← lim_eq]
        have : a.length * j.toNat ≤ 1000 * 1000 := Nat.mul_le_mul hz.2.2 (by omega)
        show a.length * j.toNat ≤ 16777216
        omega
      · cases e
    | _ => cases e
  | tuple a =>
    cases dy with
    | int j =>
      simp only [binD] at e
      split at e
      · rename_i hz
        cases e
        cases r2.int
        obtain ⟨l, vs, rfl, h1, h2⟩ := r1.tuple
        have hl := h2.length
        refine op_repT pins s σ H _ _ v u Q I rx ry ⟨l, j, vs, rfl, rfl, by rw [hK]; exact sg.sqT h1, ?_, hz.2.1, hz.2.2.1, by rw [← hl]; exact hz.2.2.2, fun p hp => q _ _ _ (Grow.one sg hp) (rep_tup hp sg (Reps.rep h2 _))⟩
        rintro rfl
        cases a with
        | nil => exact hz.1 rfl
        | cons _ _ => simp at hl
      · cases e
    | _ => cases e
  | _ => cases dy <;> cases e

/-! ### data, as the library's rules read them -/
mutual
theorem rep_reads {pins : List (Addr × Obj)} {σ : L2.St} {H : Hp} {s : Shared} (I : Inv X pins σ H s) : ∀ (d : D) (v : V) (u : Value), Rep X.K H d v → RelV v u → ∃ as, Reads s.heap u d as
  | .none, v, u, h, r => by
    rw [Rep] at h; subst h; cases r; exact ⟨[], .none⟩
  | .bool b, v, u, h, r => by
    rw [Rep] at h; subst h; cases r; exact ⟨[], .bool b⟩
  | .int i, v, u, h, r => by
    rw [Rep] at h; subst h; obtain ⟨t, rfl⟩ := r; exact ⟨[], .int i t⟩
  | .str x, v, u, h, r => by
    rw [Rep] at h; subst h; obtain ⟨t, rfl⟩ := r; exact ⟨[], .str x t⟩
  | .tuple ds, v, u, h, r => by
    rw [Rep] at h
    obtain ⟨a, vs, rfl, q, rs⟩ := h
    cases r
    obtain ⟨its, rv, ⟨o, ho, hc, n, hd⟩, _⟩ := I.tuple q
    obtain ⟨as, z⟩ := reps_reads I ds vs its rs rv
    exact ⟨as, .tuple ho hc hd (by simpa using z)⟩
  | .list ds, v, u, h, r => by
    rw [Rep] at h
    obtain ⟨a, vs, rfl, q, rs⟩ := h
    cases r
    obtain ⟨its, rv, ⟨o, n, ho, hc, _, hd⟩, _⟩ := I.list (.of q)
    obtain ⟨as, z⟩ := reps_reads I ds vs its rs rv
    exact ⟨a :: as, .list ho hc hd (by simpa using z)⟩
  | .dict _, v, u, h, r => by rw [Rep] at h; exact h.elim
theorem reps_reads {pins : List (Addr × Obj)} {σ : L2.St} {H : Hp} {s : Shared} (I : Inv X pins σ H s) : ∀ (ds : List D) (vs : List V) (us : List Value), Reps X.K H ds vs → Vals vs us → ∃ as, ReadsAll s.heap us ds as
  | [], [], _, _, r => by cases r; exact ⟨[], .nil⟩
  | d :: ds, v :: vs, _, h, r => by
    rw [Reps] at h
    cases r with
    | cons r1 r2 =>
      obtain ⟨as, z⟩ := rep_reads I d v _ h.1 r1
      obtain ⟨bs, y⟩ := reps_reads I ds vs _ h.2 r2
      exact ⟨as ++ bs, .cons z y⟩
  | [], _ :: _, _, h, _ => by simp [Reps] at h
  | _ :: _, [], _, h, _ => by simp [Reps] at h
end
theorem shallow_ok {d : D} (h : shallow d = true) : d.plain = true ∧ d.depth ≤ 32 := by
  unfold shallow at h
  simpa using h
/-- a comparison's answer -/
abbrev cB (o : Cop) : D → D → Option D := fun x y => (cmpD o x y).map PyData.bool
theorem cB_some {o : Cop} {x y z : D} (h : cB o x y = some z) : ∃ b, cmpD o x y = some b ∧ z = .bool b := by
  unfold cB at h
  cases e : cmpD o x y with
  | none => rw [e] at h; cases h
  | some b => rw [e] at h; exact ⟨b, rfl, (Option.some.inj h).symm⟩
theorem o_eq (hK : X.K = Y.K) (hu : X.A.units + 200 < cLine) : OpR X (compareOp .Eq) (rD Y (cB .eq)) := by
  intro pins s σ H x y v u Q I rx ry h
  obtain ⟨G, dx, dy, dz, sg, r1, r2, e, q⟩ := h
  replace e := cB_some e
  obtain ⟨b, e, rfl⟩ := e
  simp only [cmpD] at e
  split at e
  · rename_i hs
    cases e
    simp only [Bool.and_eq_true] at hs
    obtain ⟨p1, d1⟩ := shallow_ok hs.1
    obtain ⟨p2, d2⟩ := shallow_ok hs.2
    obtain ⟨as, z1⟩ := rep_reads I dx x v (by rw [hK]; exact r1.all sg) rx
    obtain ⟨bs, z2⟩ := rep_reads I dy y u (by rw [hK]; exact r2.all sg) ry
    exact PySem.SeqAt.eq_plain z1 z2 p1 p2 (by omega) ⟨.bl _, H, I, rfl, q _ _ _ (Grow.refl sg) rep_bool⟩
  · cases e
theorem o_ne (hK : X.K = Y.K) (hu : X.A.units + 200 < cLine) : OpR X (compareOp .NotEq) (rD Y (cB .ne)) := by
  intro pins s σ H x y v u Q I rx ry h
  obtain ⟨G, dx, dy, dz, sg, r1, r2, e, q⟩ := h
  replace e := cB_some e
  obtain ⟨b, e, rfl⟩ := e
  simp only [cmpD] at e
  split at e
  · rename_i hs
    cases e
    simp only [Bool.and_eq_true] at hs
    obtain ⟨p1, d1⟩ := shallow_ok hs.1
    obtain ⟨p2, d2⟩ := shallow_ok hs.2
    obtain ⟨as, z1⟩ := rep_reads I dx x v (by rw [hK]; exact r1.all sg) rx
    obtain ⟨bs, z2⟩ := rep_reads I dy y u (by rw [hK]; exact r2.all sg) ry
    exact PySem.SeqAt.ne_plain z1 z2 p1 p2 (by omega) ⟨.bl _, H, I, rfl, q _ _ _ (Grow.refl sg) rep_bool⟩
  · cases e
theorem o_cmpI {op : CmpOp} {o : Cop} {g : Int → Int → Bool} (ho : OpR X (compareOp op) (rI0 fun i j => .bl (g i j))) (h1 : ∀ i j, cmpD o (.int i) (.int j) = some (g i j)) (h2 : ∀ x y b, cmpD o x y = some b → ∃ i j, x = .int i ∧ y = .int j) :
    OpR X (compareOp op) (rD Y (cB o)) := by
  intro pins s σ H x y v u Q I rx ry h
  obtain ⟨G, dx, dy, dz, sg, r1, r2, e, q⟩ := h
  replace e := cB_some e
  obtain ⟨b, e, rfl⟩ := e
  obtain ⟨i, j, rfl, rfl⟩ := h2 _ _ _ e
  rw [h1] at e
  cases e
  cases r1.int; cases r2.int
  exact ho pins s σ H _ _ v u Q I rx ry ⟨i, j, rfl, rfl, q _ _ _ (Grow.refl sg) rep_bool⟩
theorem o_lt : OpR X (compareOp .Lt) (rD Y (cB .lt)) := o_cmpI op_lt (fun _ _ => rfl) fun x y b e => by
  simp only [cmpD] at e
  split at e
  · exact ⟨_, _, rfl, rfl⟩
  · cases e
theorem o_le : OpR X (compareOp .LtE) (rD Y (cB .le)) := o_cmpI op_le (fun _ _ => rfl) fun x y b e => by
  simp only [cmpD] at e
  split at e
  · exact ⟨_, _, rfl, rfl⟩
  · cases e
theorem o_ge : OpR X (compareOp .GtE) (rD Y (cB .ge)) := o_cmpI op_ge (fun _ _ => rfl) fun x y b e => by
  simp only [cmpD] at e
  split at e
  · exact ⟨_, _, rfl, rfl⟩
  · cases e
theorem o_gt (hK : X.K = Y.K) (hu : X.A.units + 200 < cLine) : OpR X (compareOp .Gt) (rD Y (cB .gt)) := by
  intro pins s σ H x y v u Q I rx ry h
  obtain ⟨G, dx, dy, dz, sg, r1, r2, e, q⟩ := h
  replace e := cB_some e
  obtain ⟨b, e, rfl⟩ := e
  simp only [cmpD] at e
  split at e
  · rename_i i j
    cases e
    cases r1.int; cases r2.int
    exact op_gt pins s σ H _ _ v u Q I rx ry ⟨i, j, rfl, rfl, q _ _ _ (Grow.refl sg) rep_bool⟩
  · rename_i xs ys
    split at e
    · rename_i hs
      cases e
      simp only [Bool.and_eq_true] at hs
      obtain ⟨p1, d1⟩ := shallow_ok hs.1.2
      obtain ⟨p2, d2⟩ := shallow_ok hs.2
      obtain ⟨as, z1⟩ := rep_reads I _ x v (by rw [hK]; exact r1.all sg) rx
      obtain ⟨bs, z2⟩ := rep_reads I _ y u (by rw [hK]; exact r2.all sg) ry
      exact PySem.W.gt_data z1 z2 hs.1.1 (fun z => by cases z) (by omega) ⟨.bl _, H, I, rfl, q _ _ _ (Grow.refl sg) rep_bool⟩
    · cases e
  · cases e
theorem in_chars (a : Str) (k : Nat) (c : Str) (h : c.cps.toList = [k]) : (!(Builtin.Str.occurrences a c 0 a.length 1).isEmpty) = a.cps.toList.contains k := by
  have e : c = ⟨#[k]⟩ := TL.ext_tl (by show c.cps.toList = _; rw [h])
  subst e
  rw [PySem.StrLaws.found_one, List.contains_eq_mem]
theorem o_in (hK : X.K = Y.K) (hu : X.A.units + 200 < cLine) : OpR X (compareOp .In) (rD Y (cB .isin)) := by
  intro pins s σ H x y v u Q I rx ry h
  obtain ⟨G, dx, dy, dz, sg, r1, r2, e, q⟩ := h
  replace e := cB_some e
  obtain ⟨b, e, rfl⟩ := e
  simp only [cmpD, inD] at e
  split at e
  · rename_i t
    split at e
    · rename_i c
      split at e
      · rename_i k hk
        split at e
        · cases e
          cases r1.str; cases r2.str
          exact op_in_str pins s σ H _ _ v u Q I rx ry ⟨c, t, rfl, rfl, by rw [in_chars t k c hk]; exact q _ _ _ (Grow.refl sg) rep_bool⟩
        · cases e
      · cases e
    · cases e
  · rename_i ys
    split at e
    · rename_i hs
      cases e
      simp only [Bool.and_eq_true] at hs
      obtain ⟨p1, d1⟩ := shallow_ok hs.1
      obtain ⟨p2, d2⟩ := shallow_ok hs.2
      obtain ⟨as, z1⟩ := rep_reads I dx x v (by rw [hK]; exact r1.all sg) rx
      obtain ⟨bs, z2⟩ := rep_reads I _ y u (by rw [hK]; exact r2.all sg) ry
      simp only [PyData.plain] at p2
      exact PySem.SeqAt.in_list_data z2 z1 p2 p1 (by omega) ⟨.bl _, H, I, rfl, q _ _ _ (Grow.refl sg) rep_bool⟩
    · cases e
  · rename_i ys
    split at e
    · rename_i hs
      cases e
      simp only [Bool.and_eq_true] at hs
      obtain ⟨p1, d1⟩ := shallow_ok hs.1
      obtain ⟨p2, d2⟩ := shallow_ok hs.2
      obtain ⟨as, z1⟩ := rep_reads I dx x v (by rw [hK]; exact r1.all sg) rx
      obtain ⟨bs, z2⟩ := rep_reads I _ y u (by rw [hK]; exact r2.all sg) ry
      simp only [PyData.plain] at p2
      exact PySem.SeqAt.in_tuple_data z2 z1 p2 p1 (by omega) ⟨.bl _, H, I, rfl, q _ _ _ (Grow.refl sg) rep_bool⟩
    · cases e
  · rename_i kvs
    exact absurd (r2.all sg) (by rw [Rep]; exact id)
  · cases e
theorem o_notin (hK : X.K = Y.K) (hu : X.A.units + 200 < cLine) : OpR X (compareOp .NotIn) (rD Y (cB .notin)) := by
  intro pins s σ H x y v u Q I rx ry h
  obtain ⟨G, dx, dy, dz, sg, r1, r2, e, q⟩ := h
  replace e := cB_some e
  obtain ⟨b, e, rfl⟩ := e
  simp only [cmpD, Option.map_eq_some_iff] at e
  obtain ⟨c0, e, rfl⟩ := e
  simp only [inD] at e
  split at e
  · rename_i t
    split at e
    · rename_i c
      split at e
      · rename_i k hk
        split at e
        · cases e
          cases r1.str; cases r2.str
          exact op_notIn_str pins s σ H _ _ v u Q I rx ry ⟨c, t, rfl, rfl, by rw [in_chars t k c hk]; exact q _ _ _ (Grow.refl sg) rep_bool⟩
        · cases e
      · cases e
    · cases e
  · rename_i ys
    split at e
    · rename_i hs
      cases e
      simp only [Bool.and_eq_true] at hs
      obtain ⟨p1, d1⟩ := shallow_ok hs.1
      obtain ⟨p2, d2⟩ := shallow_ok hs.2
      obtain ⟨as, z1⟩ := rep_reads I dx x v (by rw [hK]; exact r1.all sg) rx
      obtain ⟨bs, z2⟩ := rep_reads I _ y u (by rw [hK]; exact r2.all sg) ry
      simp only [PyData.plain] at p2
      exact PySem.SeqAt.notIn_list_data z2 z1 p2 p1 (by omega) ⟨.bl _, H, I, rfl, q _ _ _ (Grow.refl sg) rep_bool⟩
    · cases e
  · rename_i ys
    split at e
    · rename_i hs
      cases e
      simp only [Bool.and_eq_true] at hs
      obtain ⟨p1, d1⟩ := shallow_ok hs.1
      obtain ⟨p2, d2⟩ := shallow_ok hs.2
      obtain ⟨as, z1⟩ := rep_reads I dx x v (by rw [hK]; exact r1.all sg) rx
      obtain ⟨bs, z2⟩ := rep_reads I _ y u (by rw [hK]; exact r2.all sg) ry
      simp only [PyData.plain] at p2
      exact PySem.SeqAt.notIn_tuple_data z2 z1 p2 p1 (by omega) ⟨.bl _, H, I, rfl, q _ _ _ (Grow.refl sg) rep_bool⟩
    · cases e
  · rename_i kvs
    exact absurd (r2.all sg) (by rw [Rep]; exact id)
  · cases e
end
end Ip
/-! Ip5: expressions. -/
namespace Ip
open PySem PySem.Spec PyProof.Rows L2

theorem Rs.eta {α : Type} (r : Rs α) : (r.bind fun a st => .ok a st) = r := by cases r <;> rfl
section
variable {X : Cx} {C : Sc} {Y : Wd} {a b c : Expr} {e1 e2 e3 : Ex} {pos : Pos}
theorem c_bin {op : Operator} {o : Bop} (ho : OpR X (binaryOp op) (rD Y (binD o))) (ha : PE X a (tT Y e1)) (hb : PE X b (tT Y e2)) : PE X (.BinOp a op b pos) (tE Y (.bin o e1 e2)) :=
  (pe_op ho ha hb).imp fun σ H Q q => two_ops (a := e1) (b := e2) (g := binD o) (fun ρ st => by simp only [ev, evE]) q
theorem c_cmp {op : CmpOp} {o : Cop} (ho : OpR X (compareOp op) (rD Y (cB o))) (ha : PE X a (tT Y e1)) (hb : PE X b (tT Y e2)) (hm : behindInMarks op b = false) : PE X (.Compare a [op] [b] pos) (tE Y (.cmp o e1 e2)) :=
  (pe_cmpR ho ha hb hm).imp fun σ H Q q => two_ops (a := e1) (b := e2) (g := cB o) (fun ρ st => by simp only [ev, evE, cB, Option.map_map]; rfl) q
/-! ### tests -/
def needB (r : Rs Val) : Rs Bool := (needD r).bind fun x st => match x with
  | .bool b => .ok b st
  | _ => .bad
abbrev RlB : Hp → Hp → List Addr → Bool → Bool → Prop := fun _ _ _ b c => c = b
abbrev tQ (Y : Wd) (e : Ex) : TT := tR Y (fun ρ st => needB (ev Y e ρ st)) RlB
theorem Pt.needB {γ υ' : Type} {Rel' : Hp → Hp → List Addr → γ → υ' → Prop} {H G : Hp} {β : List Addr} {r : Rs Val} {f : Bool → Store → Rs γ} {Q : υ' → Hp → Prop}
    (h : Pt Y ((needB r).bind f) Rel' H G β Q) :
    Pt Y r (RlT Y) H G β (fun u H1 => ∃ b st1 G1 β1, u = .bl b ∧ Ext H G β H1 G1 β1 ∧ Lay Y.K H1 G1 β1 st1 ∧ Pt Y (f b st1) Rel' H1 G1 β1 Q) := by
  cases r with
  | ok x st =>
    cases x with
    | d x =>
      cases x with
      | bool b => exact fun u H1 G1 β1 e l q => ⟨b, st, G1, β1, q.o.bool, e, l, Pt.step e l h⟩
      | _ => exact h.elim
    | loc n => exact h.elim
    | scr n => exact h.elim
  | exc c st => exact h
  | bad => exact h
/-- a test by the value -/
theorem c_val {a : Expr} {e : Ex} (h : PE X a (tT Y e)) (he : ∀ whole, isTrue a X.env whole = (do let v ← whole; standAt a.pos; holding [v] (truthy v))) : PT X a (tQ Y e) :=
  (pt_val h he).imp fun σ H Q q => by
    obtain ⟨H0, G0, β0, ρ, st, G, β, s, p⟩ := q
    refine ⟨H0, G0, β0, ρ, st, G, β, s, ?_⟩
    have p' : Pt Y ((needB (ev Y e ρ st)).bind fun b st => .ok b st) RlB H G β Q := by
      rw [Rs.eta]; exact p
    refine (Pt.needB p').mono fun u H1 ⟨b, st1, G1, β1, hu, e1, l1, p1⟩ => ⟨b, hu, p1 b H1 G1 β1 (Ext.refl ..) l1 rfl⟩
theorem q_cmp {op : CmpOp} {o : Cop} (ho : OpR X (compareOp op) (rD Y (cB o))) (ha : PE X a (tT Y e1)) (hb : PE X b (tT Y e2)) (hm : behindInMarks op b = false) : PT X (.Compare a [op] [b] pos) (tQ Y (.cmp o e1 e2)) :=
  (pt_cmpR ho ha hb hm).imp fun σ H Q q => by
    refine two_ops (a := e1) (b := e2) (g := cB o) (r := ev Y (.cmp o e1 e2)) (fun ρ st => by simp only [ev, evE, cB, Option.map_map]; rfl) ?_
    obtain ⟨H0, G0, β0, ρ, st, G, β, s, p⟩ := q
    refine ⟨H0, G0, β0, ρ, st, G, β, s, ?_⟩
    have p' : Pt Y ((needB (ev Y (.cmp o e1 e2) ρ st)).bind fun b st => .ok b st) RlB H G β Q := by
      rw [Rs.eta]; exact p
    refine tT_weak (Pt.needB p') fun u H1 ⟨b, st1, G1, β1, hu, e1, l1, p1⟩ => ⟨b, hu, p1 b H1 G1 β1 (Ext.refl ..) l1 rfl⟩
where
  tT_weak {r : Rs Val} {H G : Hp} {β : List Addr} {Q Q' : VK} (h : Pt Y r (RlT Y) H G β Q) (hq : ∀ u H', Q u H' → Q' u H') : Pt Y r (RlV Y) H G β Q' := by
    cases r with
    | ok x st => exact fun u H' G' β' e l q => hq _ _ (h u H' G' β' e l (.inl q))
    | exc c st => exact h
    | bad => exact h
theorem q_not (h : PT X a (tQ Y e1)) : PT X (.UnaryOp .Not a pos) (tQ Y (.not e1)) :=
  (pt_not h).imp fun σ H Q q => by
    obtain ⟨H0, G0, β0, ρ, st, G, β, s, p⟩ := q
    refine ⟨H0, G0, β0, ρ, st, G, β, s, ?_⟩
    simp only [ev, evE] at p ⊢
    cases z : evE Y.gv Y.tv Y.cf e1 ρ st with
    | ok x st1 =>
      rw [z] at p
      cases x with
      | d x =>
        cases x with
        | bool b => exact fun c H' G' β' e l hc => p (!c) H' G' β' e l (by rw [hc])
        | _ => exact p.elim
      | loc n => exact p.elim
      | scr n => exact p.elim
    | exc c st1 => rw [z] at p; exact p
    | bad => rw [z] at p; exact p
theorem Pt.rest {α γ υ υ' : Type} {Rel : Hp → Hp → List Addr → α → υ → Prop} {Rel' : Hp → Hp → List Addr → γ → υ' → Prop} {H G : Hp} {β : List Addr} {r : Rs α} {f : α → Store → Rs γ} {Q : υ' → Hp → Prop} (h : Pt Y (r.bind f) Rel' H G β Q) :
    Pt Y r Rel H G β (fun u H1 => ∃ a st1 G1 β1, Ext H G β H1 G1 β1 ∧ Lay Y.K H1 G1 β1 st1 ∧ Rel H1 G1 β1 a u ∧ Pt Y (f a st1) Rel' H1 G1 β1 Q) := Pt.bind h
theorem evB_and (ρ : Ev) (st : Store) : needB (ev Y (.and e1 e2) ρ st) = (needB (ev Y e1 ρ st)).bind fun b st => if b = true then needB (ev Y e2 ρ st) else .ok false st := by
  simp only [ev, evE, needB, needD]
  cases evE Y.gv Y.tv Y.cf e1 ρ st with
  | ok x st1 =>
    cases x with
    | d x =>
      cases x with
      | bool b => cases b <;> rfl
      | _ => rfl
    | _ => rfl
  | _ => rfl
theorem evB_or (ρ : Ev) (st : Store) : needB (ev Y (.or e1 e2) ρ st) = (needB (ev Y e1 ρ st)).bind fun b st => if b = true then .ok true st else needB (ev Y e2 ρ st) := by
  simp only [ev, evE, needB, needD]
  cases evE Y.gv Y.tv Y.cf e1 ρ st with
  | ok x st1 =>
    cases x with
    | d x =>
      cases x with
      | bool b => cases b <;> rfl
      | _ => rfl
    | _ => rfl
  | _ => rfl
theorem and_read {σ : L2.St} {H : Hp} {Q : Bool → Hp → Prop} (q : tQ Y (.and e1 e2) σ H Q) : tAnd (tQ Y e1) (tQ Y e2) σ H Q := by
  obtain ⟨H0, G0, β0, ρ, st, G, β, s, p⟩ := q
  dsimp only at p
  rw [evB_and] at p
  refine ⟨H0, G0, β0, ρ, st, G, β, s, (Pt.rest (Rel := RlB) p).mono fun u H1 ⟨b, st1, G1, β1, x1, l1, hu, p1⟩ => ?_⟩
  subst hu
  cases u with
  | true => exact ⟨H0, G0, β0, ρ, st1, G1, β1, s.step x1 l1, p1⟩
  | false => exact p1 false H1 G1 β1 (Ext.refl ..) l1 rfl
theorem or_read {σ : L2.St} {H : Hp} {Q : Bool → Hp → Prop} (q : tQ Y (.or e1 e2) σ H Q) : tOr (tQ Y e1) (tQ Y e2) σ H Q := by
  obtain ⟨H0, G0, β0, ρ, st, G, β, s, p⟩ := q
  dsimp only at p
  rw [evB_or] at p
  refine ⟨H0, G0, β0, ρ, st, G, β, s, (Pt.rest (Rel := RlB) p).mono fun u H1 ⟨b, st1, G1, β1, x1, l1, hu, p1⟩ => ?_⟩
  subst hu
  cases u with
  | true => exact p1 true H1 G1 β1 (Ext.refl ..) l1 rfl
  | false => exact ⟨H0, G0, β0, ρ, st1, G1, β1, s.step x1 l1, p1⟩
theorem q_and2 (ha : PT X a (tQ Y e1)) (hb : PT X b (tQ Y e2)) : PW X (.BoolOp .And [a, b] pos) (tQ Y (.and e1 e2)) :=
  ⟨fun wh pins s σ H Q I q => (pw_and ha (pw_and1 hb)).run wh pins s σ H Q I (and_read q)⟩
theorem q_and {rest : List Expr} (ha : PT X a (tQ Y e1)) (hb : PW X (.BoolOp .And (b :: rest) pos) (tQ Y e2)) : PW X (.BoolOp .And (a :: b :: rest) pos) (tQ Y (.and e1 e2)) :=
  ⟨fun wh pins s σ H Q I q => (pw_and ha hb).run wh pins s σ H Q I (and_read q)⟩
theorem q_or2 (ha : PT X a (tQ Y e1)) (hb : PT X b (tQ Y e2)) : PW X (.BoolOp .Or [a, b] pos) (tQ Y (.or e1 e2)) :=
  ⟨fun wh pins s σ H Q I q => (pw_or ha (pw_or1 hb)).run wh pins s σ H Q I (or_read q)⟩
theorem q_or {rest : List Expr} (ha : PT X a (tQ Y e1)) (hb : PW X (.BoolOp .Or (b :: rest) pos) (tQ Y e2)) : PW X (.BoolOp .Or (a :: b :: rest) pos) (tQ Y (.or e1 e2)) :=
  ⟨fun wh pins s σ H Q I q => (pw_or ha hb).run wh pins s σ H Q I (or_read q)⟩
/-! ### the same as values -/
theorem Pt.asB {γ υ' : Type} {Rel' : Hp → Hp → List Addr → γ → υ' → Prop} {H G : Hp} {β : List Addr} {r : Rs Val} {f g : Store → Rs γ} {Q : υ' → Hp → Prop}
    (h : Pt Y ((needD r).bind fun x st => match x with | .bool true => f st | .bool false => g st | _ => .bad) Rel' H G β Q) :
    Pt Y r (RlT Y) H G β (fun u H1 => ∃ b st1 G1 β1, u = .bl b ∧ Ext H G β H1 G1 β1 ∧ Lay Y.K H1 G1 β1 st1 ∧ (if b = true then Pt Y (f st1) Rel' H1 G1 β1 Q else Pt Y (g st1) Rel' H1 G1 β1 Q)) := by
  refine (Pt.need h).mono fun u H1 ⟨x, st1, G1, β1, e1, l1, r1, p1⟩ => ?_
  cases x with
  | bool b =>
    refine ⟨b, st1, G1, β1, r1.o.bool, e1, l1, ?_⟩
    cases b with
    | true => rw [if_pos rfl]; exact p1
    | false => rw [if_neg Bool.false_ne_true]; exact p1
  | _ => exact p1.elim
theorem c_and2 (ha : PE X a (tT Y e1)) (hb : PE X b (tE Y e2)) : PE X (.BoolOp .And [a, b] pos) (tE Y (.and e1 e2)) :=
  (pe_and ha (pe_one hb)).imp fun σ H Q q => and_val q
where
  and_val {σ : L2.St} {H : Hp} {Q : VK} (q : tE Y (.and e1 e2) σ H Q) : tAndV (tT Y e1) (tE Y e2) σ H Q := by
    obtain ⟨H0, G0, β0, ρ, st, G, β, s, p⟩ := q
    simp only [ev, evE] at p
    refine ⟨H0, G0, β0, ρ, st, G, β, s, (Pt.asB p).mono fun u H1 ⟨b, st1, G1, β1, hu, x1, l1, p1⟩ => ⟨b, hu, ?_⟩⟩
    cases b with
    | true => exact ⟨H0, G0, β0, ρ, st1, G1, β1, s.step x1 l1, p1⟩
    | false => exact p1 _ H1 G1 β1 (Ext.refl ..) l1 (rep_bool (K := Y.K) (G := G1))
theorem c_and {rest : List Expr} (ha : PE X a (tT Y e1)) (hb : PE X (.BoolOp .And (b :: rest) pos) (tE Y e2)) : PE X (.BoolOp .And (a :: b :: rest) pos) (tE Y (.and e1 e2)) :=
  (pe_and ha hb).imp fun σ H Q q => c_and2.and_val q
theorem or_val {σ : L2.St} {H : Hp} {Q : VK} (q : tE Y (.or e1 e2) σ H Q) : tOrV (tT Y e1) (tE Y e2) σ H Q := by
  obtain ⟨H0, G0, β0, ρ, st, G, β, s, p⟩ := q
  simp only [ev, evE] at p
  refine ⟨H0, G0, β0, ρ, st, G, β, s, (Pt.asB p).mono fun u H1 ⟨b, st1, G1, β1, hu, x1, l1, p1⟩ => ⟨b, hu, ?_⟩⟩
  cases b with
  | false => exact ⟨H0, G0, β0, ρ, st1, G1, β1, s.step x1 l1, p1⟩
  | true => exact p1 _ H1 G1 β1 (Ext.refl ..) l1 (rep_bool (K := Y.K) (G := G1))
theorem c_or2 (ha : PE X a (tT Y e1)) (hb : PE X b (tE Y e2)) : PE X (.BoolOp .Or [a, b] pos) (tE Y (.or e1 e2)) := (pe_or ha (pe_one hb)).imp fun σ H Q q => or_val q
theorem c_or {rest : List Expr} (ha : PE X a (tT Y e1)) (hb : PE X (.BoolOp .Or (b :: rest) pos) (tE Y e2)) : PE X (.BoolOp .Or (a :: b :: rest) pos) (tE Y (.or e1 e2)) := (pe_or ha hb).imp fun σ H Q q => or_val q
theorem c_not (ha : PE X a (tT Y e1)) : PE X (.UnaryOp .Not a pos) (tE Y (.not e1)) :=
  (pe_not ha).imp fun σ H Q q => by
    obtain ⟨H0, G0, β0, ρ, st, G, β, s, p⟩ := q
    simp only [ev, evE] at p
    refine ⟨H0, G0, β0, ρ, st, G, β, s, (Pt.need p).mono fun u H1 ⟨x, st1, G1, β1, x1, l1, r1, p1⟩ => ?_⟩
    cases x with
    | bool b => exact ⟨b, r1.o.bool, p1 _ H1 G1 β1 (Ext.refl ..) l1 (rep_bool (K := Y.K) (G := G1))⟩
    | _ => exact p1.elim
theorem c_neg (ha : PE X a (tT Y e1)) : PE X (.UnaryOp .USub a pos) (tE Y (.neg e1)) :=
  (pe_un un_neg ha).imp fun σ H Q q => by
    obtain ⟨H0, G0, β0, ρ, st, G, β, s, p⟩ := q
    simp only [ev, evE] at p
    refine ⟨H0, G0, β0, ρ, st, G, β, s, (Pt.need p).mono fun u H1 ⟨x, st1, G1, β1, x1, l1, r1, p1⟩ => ?_⟩
    cases x with
    | int i => exact ⟨i, r1.o.int, p1 _ H1 G1 β1 (Ext.refl ..) l1 (rep_int (K := Y.K) (G := G1))⟩
    | _ => exact p1.elim
theorem c_ite {cc : Expr} {e0 : Ex} (hc : PT X cc (tQ Y e0)) (ha : PE X a (tE Y e1)) (hb : PE X b (tE Y e2)) : PE X (.IfExp cc a b pos) (tE Y (.ite e0 e1 e2)) :=
  (pe_ifExp hc ha hb).imp fun σ H Q q => by
    obtain ⟨H0, G0, β0, ρ, st, G, β, s, p⟩ := q
    have e : ev Y (.ite e0 e1 e2) ρ st = (needB (ev Y e0 ρ st)).bind fun b st => if b = true then ev Y e1 ρ st else ev Y e2 ρ st := by
      simp only [ev, evE, needB, needD]
      cases evE Y.gv Y.tv Y.cf e0 ρ st with
      | ok x st1 =>
        cases x with
        | d x =>
          cases x with
          | bool b => cases b <;> rfl
          | _ => rfl
        | _ => rfl
      | _ => rfl
    rw [e] at p
    refine ⟨H0, G0, β0, ρ, st, G, β, s, (Pt.rest (Rel := RlB) p).mono fun u H1 ⟨b, st1, G1, β1, x1, l1, hu, p1⟩ => ?_⟩
    subst hu
    cases u with
    | true => exact ⟨H0, G0, β0, ρ, st1, G1, β1, s.step x1 l1, p1⟩
    | false => exact ⟨H0, G0, β0, ρ, st1, G1, β1, s.step x1 l1, p1⟩
def isNoneD : D → Bool
  | .none => true
  | _ => false
theorem none_iff {d : D} {v : V} {H G : Hp} {K : Fg} (r : RepO K H G d v) : decide (v = .non) = isNoneD d := by
  cases d with
  | none => rw [r.none]; rfl
  | bool b => rw [r.bool]; rfl
  | int b => rw [r.int]; rfl
  | str b => rw [r.str]; rfl
  | tuple ds => obtain ⟨a, vs, rfl, _⟩ := r.tuple; rfl
  | list ds =>
    rcases r with r | ⟨_, p, _, _, rfl, _⟩
    · rw [Rep] at r; obtain ⟨a, vs, rfl, _⟩ := r; rfl
    · rfl
  | dict ds =>
    rcases r with r | ⟨_, p, _, h, _⟩
    · rw [Rep] at r; exact r.elim
    · cases h
theorem c_isn {j pos'} (ha : PE X a (tT Y e1)) : PE X (.Compare a [.Is] [.Constant .none j pos'] pos) (tE Y (.isn false e1)) :=
  (pe_cmp (pc_isN ha)).imp fun σ H Q q => by
    obtain ⟨H0, G0, β0, ρ, st, G, β, s, p⟩ := q
    simp only [ev, evE] at p
    refine ⟨H0, G0, β0, ρ, st, G, β, s, (Pt.need p).mono fun u H1 ⟨x, st1, G1, β1, x1, l1, r1, p1⟩ => ?_⟩
    rw [none_iff r1.o]
    refine p1 _ H1 G1 β1 (Ext.refl ..) l1 ?_
    show Rep _ _ _ _
    rw [Rep]
    cases x <;> rfl
theorem c_isnt {j pos'} (ha : PE X a (tT Y e1)) : PE X (.Compare a [.IsNot] [.Constant .none j pos'] pos) (tE Y (.isn true e1)) :=
  (pe_cmp (pc_notN ha)).imp fun σ H Q q => by
    obtain ⟨H0, G0, β0, ρ, st, G, β, s, p⟩ := q
    simp only [ev, evE] at p
    refine ⟨H0, G0, β0, ρ, st, G, β, s, (Pt.need p).mono fun u H1 ⟨x, st1, G1, β1, x1, l1, r1, p1⟩ => ?_⟩
    rw [none_iff r1.o]
    refine p1 _ H1 G1 β1 (Ext.refl ..) l1 ?_
    show Rep _ _ _ _
    rw [Rep]
    cases x <;> rfl
end
end Ip
/-! Ip6: expressions: is, chains, items, slices, displays, calls. -/
namespace Ip
open PySem PySem.Spec PyProof.Rows L2

section
variable {X : Cx} {C : Sc} {Y : Wd} {a b c : Expr} {e1 e2 e3 : Ex} {pos : Pos}
/-! ### is True -/
theorem c_ist {v : Bool} {j pos'} (ha : PE X a (tT Y e1)) : PE X (.Compare a [.Is] [.Constant (.bool true) j pos'] pos) (tE Y (.ist false e1)) :=
  (pe_cmpR op_is_bl ha pe_bl rfl).imp fun σ H Q q => by
    obtain ⟨H0, G0, β0, ρ, st, G, β, s, p⟩ := q
    simp only [ev, evE] at p
    refine ⟨H0, G0, β0, ρ, st, G, β, s, (Pt.need p).mono fun u H1 ⟨x, st1, G1, β1, x1, l1, r1, p1⟩ => ?_⟩
    cases x with
    | bool b =>
      refine ⟨b, true, r1.o.bool, rfl, p1 _ H1 G1 β1 (Ext.refl ..) l1 ?_⟩
      show Rep _ _ _ _
      rw [Rep]
      cases b <;> rfl
    | _ => exact p1.elim
theorem c_ist' {v : Bool} {j pos'} (ha : PE X a (tT Y e1)) : PE X (.Compare a [.IsNot] [.Constant (.bool true) j pos'] pos) (tE Y (.ist true e1)) :=
  (pe_cmpR op_isnot_bl ha pe_bl rfl).imp fun σ H Q q => by
    obtain ⟨H0, G0, β0, ρ, st, G, β, s, p⟩ := q
    simp only [ev, evE] at p
    refine ⟨H0, G0, β0, ρ, st, G, β, s, (Pt.need p).mono fun u H1 ⟨x, st1, G1, β1, x1, l1, r1, p1⟩ => ?_⟩
    cases x with
    | bool b =>
      refine ⟨b, true, r1.o.bool, rfl, p1 _ H1 G1 β1 (Ext.refl ..) l1 ?_⟩
      show Rep _ _ _ _
      rw [Rep]
      cases b <;> rfl
    | _ => exact p1.elim
/-! ### a < b < c -/
theorem c_chain {op op' : CmpOp} {o o' : Cop} (ho : OpR X (compareOp op) (rD Y (cB o))) (ho' : OpR X (compareOp op') (rD Y (cB o'))) (ha : PE X a (tT Y e1)) (hb : PE X b (tT Y e2)) (hc : PE X c (tT Y e3)) (hm : lastMarks [op, op'] [b, c] = false) :
    PE X (.Compare a [op, op'] [b, c] pos) (tE Y (.chain o o' e1 e2 e3)) :=
  (pe_chain ho ho' ha hb hc hm).imp fun σ H Q q => chain_read q
where
  chain_read {o o' : Cop} {σ : L2.St} {H : Hp} {Q : VK} (q : tE Y (.chain o o' e1 e2 e3) σ H Q) : tChain (rD Y (cB o)) (rD Y (cB o')) (tT Y e1) (tT Y e2) (tT Y e3) σ H Q := by
    obtain ⟨H0, G0, β0, ρ, st, G, β, s, p⟩ := q
    simp only [ev, evE] at p
    refine ⟨H0, G0, β0, ρ, st, G, β, s, (Pt.need p).mono fun u1 H1 ⟨x, st1, G1, β1, x1, l1, r1, p1⟩ => ?_⟩
    refine ⟨H0, G0, β0, ρ, st1, G1, β1, s.step x1 l1, (Pt.need p1).mono fun u2 H2 ⟨y, st2, G2, β2, x2, l2, r2, p2⟩ => ?_⟩
    cases z : cmpD o x y with
    | none => rw [z] at p2; exact p2.elim
    | some k =>
      refine ⟨G2, x, y, .bool k, l2.sub, (r1.step x2).o, r2.o, by unfold cB; rw [z]; rfl, fun v H3 G3 g3 r3 => ⟨k, by rwa [Rep] at r3, ?_⟩⟩
      have s3 := (s.step x1 l1).step x2 l2
      have l3 := g3.lay l2
      have x3 := g3.ext β2
      rw [z] at p2
      cases k with
      | false => exact p2 _ H3 G3 β2 x3 l3 (rep_bool (K := Y.K) (G := G3))
      | true =>
        refine ⟨H0, G0, β0, ρ, st2, G3, β2, s3.step x3 l3, ?_⟩
        refine (Pt.need (Pt.step x3 l3 p2)).mono fun u4 H4 ⟨w, st4, G4, β4, x4, l4, r4, p4⟩ => ?_
        cases z2 : cmpD o' y w with
        | none => rw [z2] at p4; exact p4.elim
        | some k2 =>
          rw [z2] at p4
          exact ⟨G4, y, w, .bool k2, l4.sub, ((r2.step x3).step x4).o, r4.o, by unfold cB; rw [z2]; rfl, Pt.fin l4 p4⟩
theorem q_chain {op op' : CmpOp} {o o' : Cop} (ho : OpR X (compareOp op) (rD Y (cB o))) (ho' : OpR X (compareOp op') (rD Y (cB o'))) (ha : PE X a (tT Y e1)) (hb : PE X b (tT Y e2)) (hc : PE X c (tT Y e3)) (hm : lastMarks [op, op'] [b, c] = false) :
    PT X (.Compare a [op, op'] [b, c] pos) (tQ Y (.chain o o' e1 e2 e3)) :=
  (pt_chain ho ho' ha hb hc hm).imp fun σ H Q q => by
    refine c_chain.chain_read (Q := fun x H' => ∃ k, x = .bl k ∧ Q k H') ?_
    obtain ⟨H0, G0, β0, ρ, st, G, β, s, p⟩ := q
    refine ⟨H0, G0, β0, ρ, st, G, β, s, ?_⟩
    have p' : Pt Y ((needB (ev Y (.chain o o' e1 e2 e3) ρ st)).bind fun b st => .ok b st) RlB H G β Q := by
      rw [Rs.eta]; exact p
    refine q_cmp.tT_weak (Pt.needB p') fun u H1 ⟨b, st1, G1, β1, hu, x1, l1, p1⟩ => ⟨b, hu, p1 b H1 G1 β1 (Ext.refl ..) l1 rfl⟩

/-! ### items -/
theorem Reps.at {K : Fg} {G : Hp} {ds : List D} {vs : List V} {i : Int} {d : D} (h : Reps K G ds vs) (e : ((ixZ ds.length i).bind fun j => ds[j]?) = some d) : ∃ v, atI vs i = some v ∧ Rep K G d v := by
  unfold atI
  have hl := h.length
  have hz : ixN vs.length i = ixZ ds.length i := by rw [hl]; rfl
  rw [hz]
  cases z : ixZ ds.length i with
  | none => rw [z] at e; cases e
  | some j =>
    rw [z] at e
    exact h.get e
theorem ix_data (hK : X.K = Y.K) : IxR X (rD Y idxD) := by
  intro value slice pins s σ H x y v u Q I rx ry h hs
  obtain ⟨G, dx, dy, dz, sg, r1, r2, e, q⟩ := h
  cases dx with
  | list xs =>
    cases dy with
    | int i =>
      cases r2.int
      obtain ⟨a, vs, rfl, h1, h2⟩ := r1.list sg
      obtain ⟨w, hw, hr⟩ := h2.at e
      exact ix_list value slice pins s σ H _ _ v u Q I rx ry ⟨a, vs, i, w, rfl, rfl, .of h1, hw, q _ _ _ (Grow.refl sg) hr⟩ hs
    | _ => cases e
  | tuple xs =>
    cases dy with
    | int i =>
      cases r2.int
      obtain ⟨a, vs, rfl, h1, h2⟩ := r1.tuple
      obtain ⟨w, hw, hr⟩ := h2.at e
      exact ix_tup value slice pins s σ H _ _ v u Q I rx ry ⟨a, vs, i, w, rfl, rfl, by rw [hK]; exact sg.sqT h1, hw, q _ _ _ (Grow.refl sg) hr⟩ hs
    | _ => cases e
  | str x =>
    cases dy with
    | int i =>
      simp only [idxD] at e
      split at e
      · rename_i hl
        cases r1.str; cases r2.int
        simp only [Option.map_eq_some_iff] at e
        obtain ⟨c, hc, rfl⟩ := e
        refine ix_str value slice pins s σ H _ _ v u Q I rx ry ⟨x, i, c, rfl, rfl, by rw [str_len, ← lim_eq]; exact hl, hc, q _ _ _ (Grow.refl sg) (rep_tx rfl)⟩ hs
      · cases e
    | _ => cases e
  | dict kvs => exact absurd (r1.all sg) (by rw [Rep]; exact id)
  | _ => cases e
def notSlice : Expr → Bool
  | .Slice .. => false
  | _ => true
theorem plainIx_of : ∀ {b : Expr}, notSlice b = true → PlainIx b := by
  intro b h
  cases b with
  | Slice => cases h
  | _ => intro o i; rfl
theorem c_idx (hK : X.K = Y.K) (ha : PE X a (tT Y e1)) (hb : PE X b (tT Y e2)) (hs : notSlice b = true) : PE X (.Subscript a b pos) (tE Y (.idx e1 e2)) :=
  (pe_ix (ix_data hK) ha hb (plainIx_of hs)).imp fun σ H Q q => two_ops (a := e1) (b := e2) (g := idxD) (fun ρ st => by simp only [ev, evE]) q

/-! ### slices -/
theorem sIx_clip (n d : Nat) (o : Option Int) : HT.sIx n d o = clipO n d o := by
  cases o with
  | none => rfl
  | some v =>
    show (if v < 0 then (v + (n : Int)).toNat else min v.toNat n) = clip n v
    unfold clip
    split <;> omega
theorem Reps.cut {K : Fg} {G : Hp} {ds : List D} {vs : List V} (h : Reps K G ds vs) (lo hi : Option Int) : Reps K G (cutO ds lo hi) (cutV vs lo hi) := by
  unfold cutO cutL cutV
  rw [← h.length, sIx_clip, sIx_clip]
  exact Reps.take _ (Reps.drop _ h)
def rSlD (Y : Wd) : V → Option Int → Option Int → Hp → VK → Prop := fun x lo hi H Q => ∃ G dx dz, Sub G H ∧ RepO Y.K H G dx x ∧ cutD dx lo hi = some dz ∧ ∀ v H' G', Grow H G H' G' → Rep Y.K G' dz v → Q v H'
theorem cut_all {α : Type} (xs : List α) (lo hi : Option Int) (h : clipO xs.length 0 lo = 0 ∧ clipO xs.length xs.length hi = xs.length) : cutO xs lo hi = xs := by
  unfold cutO cutL
  rw [h.1, h.2]
  simp
theorem sl_data (hK : X.K = Y.K) : SlR X (rSlD Y) := by
  intro pins s σ H x v vl vu lo hi sl Q I rx hs pl pu h
  obtain ⟨G, dx, dz, sg, r1, e, q⟩ := h
  cases dx with
  | list xs =>
    cases e
    obtain ⟨a, vs, rfl, h1, h2⟩ := r1.list sg
    exact sl_list pins s σ H _ v vl vu lo hi sl Q I rx hs pl pu ⟨a, vs, rfl, .of h1, fun p hp => q _ _ _ (Grow.one sg hp) (rep_lst hp sg (h2.cut lo hi))⟩
  | tuple xs =>
    cases e
    obtain ⟨a, vs, rfl, h1, h2⟩ := r1.tuple
    have hl := h2.length
    refine sl_tupA pins s σ H _ v vl vu lo hi sl Q I rx hs pl pu ⟨a, vs, rfl, by rw [hK]; exact sg.sqT h1, fun h0 => ?_, fun h0 p hp => q _ _ _ (Grow.one sg hp) (rep_tup hp sg (h2.cut lo hi))⟩
    rw [sIx_clip, sIx_clip, ← hl] at h0
    rw [cut_all xs lo hi h0] at q
    exact q _ _ _ (Grow.refl sg) (tup_rep h1 h2)
  | str x =>
    simp only [cutD] at e
    split at e
    · rename_i hl
      cases e
      cases r1.str
      refine sl_str pins s σ H _ v vl vu lo hi sl Q I rx hs pl pu ⟨x, rfl, by rw [str_len, ← lim_eq]; exact hl, q _ _ _ (Grow.refl sg) (rep_tx ?_)⟩
      unfold cutS cutO cutL
      rw [sIx_clip, sIx_clip, str_len]
    · cases e
  | _ => cases e
theorem c_slc (hK : X.K = Y.K) {lo hi : Expr} {p2 : Pos} (ha : PE X a (tT Y e1)) (hl : PE X lo (tT Y e2)) (hh : PE X hi (tT Y e3)) : PE X (.Subscript a (.Slice (some lo) (some hi) none p2) pos) (tE Y (.slc e1 e2 e3)) :=
  (pe_slice (sl_data hK) ha (po_some hl) (po_some hh)).imp fun σ H Q q => by
    obtain ⟨H0, G0, β0, ρ, st, G, β, s, p⟩ := q
    simp only [ev, evE] at p
    refine ⟨H0, G0, β0, ρ, st, G, β, s, (Pt.need p).mono fun u1 H1 ⟨x, st1, G1, β1, x1, l1, r1, p1⟩ => ?_⟩
    refine ⟨H0, G0, β0, ρ, st1, G1, β1, s.step x1 l1, (Pt.need p1).mono fun u2 H2 ⟨y, st2, G2, β2, x2, l2, r2, p2⟩ => ?_⟩
    cases y with
    | int i =>
      refine ⟨i, r2.o.int, H0, G0, β0, ρ, st2, G2, β2, (s.step x1 l1).step x2 l2, (Pt.need p2).mono fun u3 H3 ⟨z, st3, G3, β3, x3, l3, r3, p3⟩ => ?_⟩
      cases z with
      | int j =>
        refine ⟨j, r3.o.int, ?_⟩
        dsimp only at p3
        cases z : cutD x (some i) (some j) with
        | none => rw [z] at p3; exact p3.elim
        | some dz =>
          rw [z] at p3
          exact ⟨G3, x, dz, l3.sub, ((r1.step x2).step x3).o, z, Pt.fin l3 p3⟩
      | _ => exact p3.elim
    | _ => exact p2.elim
theorem c_slo (hK : X.K = Y.K) {lo : Expr} {p2 : Pos} (ha : PE X a (tT Y e1)) (hl : PE X lo (tT Y e2)) : PE X (.Subscript a (.Slice (some lo) none none p2) pos) (tE Y (.slo e1 e2)) :=
  (pe_slice (sl_data hK) ha (po_some hl) po_none).imp fun σ H Q q => by
    obtain ⟨H0, G0, β0, ρ, st, G, β, s, p⟩ := q
    simp only [ev, evE] at p
    refine ⟨H0, G0, β0, ρ, st, G, β, s, (Pt.need p).mono fun u1 H1 ⟨x, st1, G1, β1, x1, l1, r1, p1⟩ => ?_⟩
    refine ⟨H0, G0, β0, ρ, st1, G1, β1, s.step x1 l1, (Pt.need p1).mono fun u2 H2 ⟨y, st2, G2, β2, x2, l2, r2, p2⟩ => ?_⟩
    cases y with
    | int i =>
      refine ⟨i, r2.o.int, ?_⟩
      dsimp only at p2
      show rSlD Y _ _ _ _ _
      cases z : cutD x (some i) none with
      | none => rw [z] at p2; exact p2.elim
      | some dz =>
        rw [z] at p2
        exact ⟨G2, x, dz, l2.sub, (r1.step x2).o, z, Pt.fin l2 p2⟩
    | _ => exact p2.elim
theorem c_shi (hK : X.K = Y.K) {hi : Expr} {p2 : Pos} (ha : PE X a (tT Y e1)) (hl : PE X hi (tT Y e2)) : PE X (.Subscript a (.Slice none (some hi) none p2) pos) (tE Y (.shi e1 e2)) :=
  (pe_slice (sl_data hK) ha po_none (po_some hl)).imp fun σ H Q q => by
    obtain ⟨H0, G0, β0, ρ, st, G, β, s, p⟩ := q
    simp only [ev, evE] at p
    refine ⟨H0, G0, β0, ρ, st, G, β, s, (Pt.need p).mono fun u1 H1 ⟨x, st1, G1, β1, x1, l1, r1, p1⟩ => ?_⟩
    refine ⟨H0, G0, β0, ρ, st1, G1, β1, s.step x1 l1, (Pt.need p1).mono fun u2 H2 ⟨y, st2, G2, β2, x2, l2, r2, p2⟩ => ?_⟩
    cases y with
    | int i =>
      refine ⟨i, r2.o.int, ?_⟩
      dsimp only at p2
      show rSlD Y _ _ _ _ _
      cases z : cutD x none (some i) with
      | none => rw [z] at p2; exact p2.elim
      | some dz =>
        rw [z] at p2
        exact ⟨G2, x, dz, l2.sub, (r1.step x2).o, z, Pt.fin l2 p2⟩
    | _ => exact p2.elim
end
end Ip
/-! Ip7: displays, calls, built-in functions. -/
namespace Ip
open PySem PySem.Spec PyProof.Rows L2

section
variable {X : Cx} {C : Sc} {Y : Wd} {a b c : Expr} {e1 e2 e3 : Ex} {es : Exs} {l : List Expr} {pos : Pos}
/-! ### rows of values -/
def RepOs (K : Fg) (H G : Hp) (xs : List D) (vs : List V) : Prop :=
  match xs, vs with
  | [], [] => True
  | x :: xs, v :: vs => RepO K H G x v ∧ RepOs K H G xs vs
  | _, _ => False
def RepTs (K : Fg) (H G : Hp) (β : List Addr) (xs : List D) (vs : List V) : Prop :=
  match xs, vs with
  | [], [] => True
  | x :: xs, v :: vs => RepT K H G β (.d x) v ∧ RepTs K H G β xs vs
  | _, _ => False
theorem RepTs.o {K : Fg} {H G : Hp} {β : List Addr} : ∀ {xs : List D} {vs : List V}, RepTs K H G β xs vs → RepOs K H G xs vs
  | [], [], _ => trivial
  | _ :: _, _ :: _, h => ⟨h.1.o, RepTs.o h.2⟩
  | [], _ :: _, h => by simp [RepTs] at h
  | _ :: _, [], h => by simp [RepTs] at h
abbrev RlTs (Y : Wd) : Hp → Hp → List Addr → List D → List V → Prop := fun H G β xs vs => RepTs Y.K H G β xs vs
abbrev RlKs (Y : Wd) : Hp → Hp → List Addr → List D → List V → Prop := fun _ G _ xs vs => Reps Y.K G xs vs
abbrev RlVs (Y : Wd) : Hp → Hp → List Addr → List Val → List V → Prop := fun _ G β xs vs => RepVs Y.K G β xs vs
/-- looked at only -/
abbrev tAs (Y : Wd) (es : Exs) : TA := tR Y (evs Y.gv Y.tv Y.cf es) (RlTs Y)
/-- kept -/
abbrev tAk (Y : Wd) (es : Exs) : TA := tR Y (evs Y.gv Y.tv Y.cf es) (RlKs Y)
abbrev tAv (Y : Wd) (es : Exs) : TA := tR Y (evVs Y.gv Y.tv Y.cf es) (RlVs Y)
def noStar : Expr → Bool
  | .Starred .. => false
  | _ => true
theorem star_of {env : Env} : ∀ {e : Expr} (es : List Expr), noStar e = true → starEach (e :: es) env = (false, eval e env) :: starEach es env := by
  intro e es h
  cases e with
  | Starred => cases h
  | _ => rfl
def noStars : List Expr → Bool
  | [] => true
  | e :: r => noStar e && noStars r
theorem noStars_cons {e : Expr} {r : List Expr} (h : noStars (e :: r) = true) : noStar e = true ∧ noStars r = true := by
  unfold noStars at h
  simpa using h
theorem back_of {env : Env} {p : Pos} : ∀ (es : List Expr), noStars es = true → (backTo p (starEach es env)).any (·.1) = false
  | [], _ => rfl
  | e :: r, h => by
    obtain ⟨h1, h2⟩ := noStars_cons h
    rw [star_of r h1]
    show (false || (backTo p (starEach r env)).any (·.1)) = false
    rw [back_of r h2]
    rfl
theorem pa_nilT : PA X [] (tAs Y .nil) := pa_nil.imp fun σ H Q q => by
  obtain ⟨H0, G0, β0, ρ, st, G, β, s, p⟩ := q
  simp only [evs] at p
  exact p [] H G β (Ext.refl ..) s.lay trivial
theorem pa_nilK : PA X [] (tAk Y .nil) := pa_nil.imp fun σ H Q q => by
  obtain ⟨H0, G0, β0, ρ, st, G, β, s, p⟩ := q
  simp only [evs] at p
  exact p [] H G β (Ext.refl ..) s.lay Reps.nil
theorem pa_nilV : PA X [] (tAv Y .nil) := pa_nil.imp fun σ H Q q => by
  obtain ⟨H0, G0, β0, ρ, st, G, β, s, p⟩ := q
  simp only [evVs] at p
  exact p [] H G β (Ext.refl ..) s.lay trivial
theorem pa_consT (ha : PE X a (tT Y e1)) (hr : PA X l (tAs Y es)) (hs : noStar a = true) : PA X (a :: l) (tAs Y (.cons e1 es)) :=
  (pa_cons ha hr (star_of l hs)).imp fun σ H Q q => by
    obtain ⟨H0, G0, β0, ρ, st, G, β, s, p⟩ := q
    simp only [evs] at p
    refine ⟨H0, G0, β0, ρ, st, G, β, s, (Pt.need p).mono fun u1 H1 ⟨x, st1, G1, β1, x1, l1, r1, p1⟩ => ?_⟩
    refine ⟨H0, G0, β0, ρ, st1, G1, β1, s.step x1 l1, (Pt.bind (Rel := RlTs Y) p1).mono fun us H2 ⟨xs, st2, G2, β2, x2, l2, r2, p2⟩ => ?_⟩
    exact p2 (u1 :: us) H2 G2 β2 (Ext.refl ..) l2 ⟨r1.step x2, r2⟩
/-- a value that is kept -/
theorem Pt.needV {Y : Wd} {γ υ' : Type} {Rel' : Hp → Hp → List Addr → γ → υ' → Prop} {H G : Hp} {β : List Addr} {r : Rs Val} {f : D → Store → Rs γ} {Q : υ' → Hp → Prop} (h : Pt Y ((needD r).bind f) Rel' H G β Q) :
    Pt Y r (RlV Y) H G β (fun u H1 => ∃ a st1 G1 β1, Ext H G β H1 G1 β1 ∧ Lay Y.K H1 G1 β1 st1 ∧ Rep Y.K G1 a u ∧ Pt Y (f a st1) Rel' H1 G1 β1 Q) := by
  cases r with
  | ok a st =>
    cases a with
    | d x => exact fun u H1 G1 β1 e l q => ⟨x, st, G1, β1, e, l, q, Pt.step e l h⟩
    | loc n => exact h.elim
    | scr n => exact h.elim
  | exc c st => exact h
  | bad => exact h
theorem pa_consK (ha : PE X a (tE Y e1)) (hr : PA X l (tAk Y es)) (hs : noStar a = true) : PA X (a :: l) (tAk Y (.cons e1 es)) :=
  (pa_cons ha hr (star_of l hs)).imp fun σ H Q q => by
    obtain ⟨H0, G0, β0, ρ, st, G, β, s, p⟩ := q
    simp only [evs] at p
    refine ⟨H0, G0, β0, ρ, st, G, β, s, (Pt.needV p).mono fun u1 H1 ⟨x, st1, G1, β1, x1, l1, r1, p1⟩ => ?_⟩
    refine ⟨H0, G0, β0, ρ, st1, G1, β1, s.step x1 l1, (Pt.bind (Rel := RlKs Y) p1).mono fun us H2 ⟨xs, st2, G2, β2, x2, l2, r2, p2⟩ => ?_⟩
    exact p2 (u1 :: us) H2 G2 β2 (Ext.refl ..) l2 (Reps.cons (Rep.mono x2.sub _ _ r1) r2)
theorem pa_consV (ha : PE X a (tE Y e1)) (hr : PA X l (tAv Y es)) (hs : noStar a = true) : PA X (a :: l) (tAv Y (.cons e1 es)) :=
  (pa_cons ha hr (star_of l hs)).imp fun σ H Q q => by
    obtain ⟨H0, G0, β0, ρ, st, G, β, s, p⟩ := q
    simp only [evVs] at p
    refine ⟨H0, G0, β0, ρ, st, G, β, s, (Pt.bind (Rel := RlV Y) p).mono fun u1 H1 ⟨x, st1, G1, β1, x1, l1, r1, p1⟩ => ?_⟩
    refine ⟨H0, G0, β0, ρ, st1, G1, β1, s.step x1 l1, (Pt.bind (Rel := RlVs Y) p1).mono fun us H2 ⟨xs, st2, G2, β2, x2, l2, r2, p2⟩ => ?_⟩
    exact p2 (u1 :: us) H2 G2 β2 (Ext.refl ..) l2 ⟨r1.step x2, r2⟩
def Exs.len : Exs → Nat
  | .nil => 0
  | .cons _ r => r.len + 1
theorem evs_len : ∀ (es : Exs) (ρ : Ev) (st : Store) (xs : List D) (st' : Store), evs Y.gv Y.tv Y.cf es ρ st = .ok xs st' → xs.length = es.len
  | .nil, _, _, _, _, h => by simp only [evs, Rs.ok.injEq] at h; rw [← h.1]; rfl
  | .cons e r, ρ, st, xs, st', h => by
    simp only [evs] at h
    cases z : needD (evE Y.gv Y.tv Y.cf e ρ st) with
    | ok x st1 =>
      rw [z, bind_ok] at h
      cases z2 : evs Y.gv Y.tv Y.cf r ρ st1 with
      | ok ys st2 =>
        rw [z2, bind_ok, Rs.ok.injEq] at h
        rw [← h.1]
        show ys.length + 1 = _
        rw [evs_len r ρ st1 ys st2 z2]
        rfl
      | exc _ _ => rw [z2] at h; cases h
      | bad => rw [z2] at h; cases h
    | exc _ _ => rw [z] at h; cases h
    | bad => rw [z] at h; cases h
theorem c_tup {k : Nat} (h : PA X l (tAk Y es)) (hn : es.len ≤ 1000) : PE X (.Tuple l k pos) (tE Y (.tup es)) :=
  (pe_tup h).imp fun σ H Q q => by
    obtain ⟨H0, G0, β0, ρ, st, G, β, s, p⟩ := q
    simp only [ev, evE] at p
    refine ⟨H0, G0, β0, ρ, st, G, β, s, ?_⟩
    cases z : evs Y.gv Y.tv Y.cf es ρ st with
    | ok xs st1 =>
      rw [z] at p
      intro us H1 G1 β1 x1 l1 r1
      refine ⟨?_, fun a ha => Pt.fin l1 (Pt.step x1 l1 p) _ _ _ (Grow.one l1.sub ha) (rep_tup ha l1.sub r1)⟩
      rw [← r1.length, evs_len es ρ st xs st1 z, sizeLine_eq]
      omega
    | exc c st1 => rw [z] at p; exact p
    | bad => rw [z] at p; exact p
theorem f_lst (h : PA X l (tAk Y es)) (hn : es.len ≤ 1000) : PE X (.List l pos) (tF Y (.lst es)) :=
  (pe_lst h).imp fun σ H Q q => by
    obtain ⟨H0, G0, β0, ρ, st, G, β, s, p⟩ := q
    simp only [ev, evE] at p
    refine ⟨H0, G0, β0, ρ, st, G, β, s, ?_⟩
    cases z : evs Y.gv Y.tv Y.cf es ρ st with
    | ok xs st1 =>
      rw [z] at p
      intro us H1 G1 β1 x1 l1 r1
      refine ⟨?_, fun a ha => Pt.made l1 (Pt.step x1 l1 p) (x1.none l1 ha) ha r1⟩
      rw [← r1.length, evs_len es ρ st xs st1 z, sizeLine_eq]
      omega
    | exc c st1 => rw [z] at p; exact p
    | bad => rw [z] at p; exact p
theorem evVs_len : ∀ (es : Exs) (ρ : Ev) (st : Store) (xs : List Val) (st' : Store), evVs Y.gv Y.tv Y.cf es ρ st = .ok xs st' → xs.length = es.len
  | .nil, _, _, _, _, h => by simp only [evVs, Rs.ok.injEq] at h; rw [← h.1]; rfl
  | .cons e r, ρ, st, xs, st', h => by
    simp only [evVs] at h
    cases z : evE Y.gv Y.tv Y.cf e ρ st with
    | ok x st1 =>
      rw [z, bind_ok] at h
      cases z2 : evVs Y.gv Y.tv Y.cf r ρ st1 with
      | ok ys st2 =>
        rw [z2, bind_ok, Rs.ok.injEq] at h
        rw [← h.1]
        show ys.length + 1 = _
        rw [evVs_len r ρ st1 ys st2 z2]
        rfl
      | exc _ _ => rw [z2] at h; cases h
      | bad => rw [z2] at h; cases h
    | exc _ _ => rw [z] at h; cases h
    | bad => rw [z] at h; cases h
/-! ### calls of own defs -/
theorem call_read {f : Nat} {σ : L2.St} {H : Hp} {Q : VK} (q : tE Y (.call f es) σ H Q) : tCall (spF Y f es.len) [] Y.E (tAv Y es) σ H Q := by
  obtain ⟨H0, G0, β0, ρ, st, G, β, s, p⟩ := q
  simp only [ev, evE] at p
  refine ⟨H0, G0, β0, ρ, st, G, β, s, ?_⟩
  cases z : evVs Y.gv Y.tv Y.cf es ρ st with
  | ok xs st1 =>
    rw [z] at p
    intro us H1 G1 β1 x1 l1 r1
    rw [List.append_nil]
    exact ⟨G1, β1, st1, xs, evVs_len es ρ st xs st1 z, l1, r1, Pt.step x1 l1 p⟩
  | exc c st1 => rw [z] at p; exact p
  | bad => rw [z] at p; exact p
theorem c_call0 {f : Nat} {x : Str} {p : Pos} (o : Okx X C Y) (hf : C.fname f = some (x, 0)) (hx : chkGl C x = true) : PE X (.Call (.Name x p) [] [] pos) (tE Y (.call f .nil)) := by
  obtain ⟨k, fa, fd, ps, h1, h2, F, hr, hb, hl⟩ := o.call f x _ hf
  obtain ⟨g1, g2⟩ := chkGl_ok o hx
  refine (pe_call0 (dvs := []) F hr g1 h1 h2 hb .nil (L2.passes_call o.tk fun _ _ _ _ h => h) (plain_d g2)).imp fun σ H Q q => ?_
  obtain ⟨H0, G0, β0, ρ, st, G, β, s, p⟩ := call_read q
  simp only [evVs] at p
  exact p [] H G β (Ext.refl ..) s.lay trivial
theorem c_call {f : Nat} {x : Str} {p : Pos} (o : Okx X C Y) (hf : C.fname f = some (x, es.len)) (hx : chkGl C x = true) (ha : PA X (a :: l) (tAv Y es)) (hs : noStars (a :: l) = true) : PE X (.Call (.Name x p) (a :: l) [] pos) (tE Y (.call f es)) := by
  obtain ⟨k, fa, fd, ps, h1, h2, F, hr, hb, hl⟩ := o.call f x _ hf
  obtain ⟨g1, g2⟩ := chkGl_ok o hx
  obtain ⟨s1, s2⟩ := noStars_cons hs
  exact (pe_call (dvs := []) F hr g1 h1 h2 hb .nil (L2.passes_call o.tk fun _ _ _ _ h => h) ha (plain_d g2) (star_of l s1) (back_of l s2)).imp fun σ H Q q => call_read q

/-! ### built-in functions -/
def rB (Y : Wd) (b : Bi) : List V → Hp → VK → Prop := fun vs H Q => ∃ G xs dz, Sub G H ∧ RepOs Y.K H G xs vs ∧ biD b xs = some dz ∧ ∀ v H' G', Grow H G H' G' → Rep Y.K G' dz v → Q v H'
theorem bi_read {b : Bi} {σ : L2.St} {H : Hp} {Q : VK} (q : tE Y (.bi b es) σ H Q) : tCB (rB Y b) (tAs Y es) σ H Q := by
  obtain ⟨H0, G0, β0, ρ, st, G, β, s, p⟩ := q
  simp only [ev, evE] at p
  refine ⟨H0, G0, β0, ρ, st, G, β, s, (Pt.bind (Rel := RlTs Y) p).mono fun us H1 ⟨xs, st1, G1, β1, x1, l1, r1, p1⟩ => ?_⟩
  cases z : biD b xs with
  | none => rw [z] at p1; exact p1.elim
  | some dz =>
    rw [z] at p1
    exact ⟨G1, xs, dz, l1.sub, r1.o, z, Pt.fin l1 p1⟩
def rBF (Y : Wd) (b : Bi) : List V → Hp → VK → Prop := fun vs H Q => ∃ G xs zs, Sub G H ∧ RepOs Y.K H G xs vs ∧ biD b xs = some (.list zs) ∧ ∀ p us, H p = none → Reps Y.K G zs us → Q (.ref p) (upd H p (.lst us))
theorem bi_readF {b : Bi} (hb : ∀ xs dz, biD b xs = some dz → ∃ zs, dz = .list zs) {σ : L2.St} {H : Hp} {Q : VK} (q : tF Y (.bi b es) σ H Q) : tCB (rBF Y b) (tAs Y es) σ H Q := by
  obtain ⟨H0, G0, β0, ρ, st, G, β, s, p⟩ := q
  simp only [ev, evE] at p
  refine ⟨H0, G0, β0, ρ, st, G, β, s, (Pt.bind (Rel := RlTs Y) p).mono fun us H1 ⟨xs, st1, G1, β1, x1, l1, r1, p1⟩ => ?_⟩
  cases z : biD b xs with
  | none => rw [z] at p1; exact p1.elim
  | some dz =>
    rw [z] at p1
    obtain ⟨zs, rfl⟩ := hb _ _ z
    exact ⟨G1, xs, zs, l1.sub, r1.o, z, fun a ws ha hr => Pt.made l1 p1 (x1.none l1 ha) ha hr⟩
theorem RepOs.one {K : Fg} {H G : Hp} {x : D} {vs : List V} (h : RepOs K H G [x] vs) : ∃ v, vs = [v] ∧ RepO K H G x v := by
  match vs, h with
  | [v], h => exact ⟨v, rfl, h.1⟩
  | [], h => simp [RepOs] at h
  | _ :: _ :: _, h => simp [RepOs] at h
theorem RepOs.two {K : Fg} {H G : Hp} {x y : D} {vs : List V} (h : RepOs K H G [x, y] vs) : ∃ v u, vs = [v, u] ∧ RepO K H G x v ∧ RepO K H G y u := by
  match vs, h with
  | [v, u], h => exact ⟨v, u, rfl, h.1, h.2.1⟩
  | [], h => simp [RepOs] at h
  | [_], h => simp [RepOs] at h
  | _ :: _ :: _ :: _, h => simp [RepOs] at h
theorem u1_some {f : D → Option D} {xs : List D} {z : D} (h : u1 f xs = some z) : ∃ x, xs = [x] ∧ f x = some z := by
  match xs, h with
  | [x], h => exact ⟨x, rfl, h⟩
theorem u2_some {f : D → D → Option D} {xs : List D} {z : D} (h : u2 f xs = some z) : ∃ x y, xs = [x, y] ∧ f x y = some z := by
  match xs, h with
  | [x, y], h => exact ⟨x, y, rfl, h⟩
theorem r1_callF {v : Value} {b : Bi} {f : D → Option D} (hf : biD b = u1 f)
    (h : ∀ (pins : List (Addr × Obj)) (s : Shared) (σ : L2.St) (H G : Hp) (x : D) (zs : List D) (w : V) (u : Value) (Q : VK), L2.Inv X pins σ H s → RelV w u → Sub G H → RepO Y.K H G x w → f x = some (.list zs) → (∀ p us, H p = none → Reps Y.K G zs us → Q (.ref p) (upd H p (.lst us))) →
      wpAny (model X.prog X.w) X.A (call v [u]) (EP X pins σ Q) X.xe s) : CallR X v (rBF Y b) := by
  intro pins s σ H vs us Q I r ⟨G, xs, dz, sg, rs, e, q⟩
  rw [hf] at e
  obtain ⟨x, rfl, e⟩ := u1_some e
  obtain ⟨w, rfl, r1⟩ := rs.one
  cases r with
  | cons rw1 rt => cases rt; exact h pins s σ H G x dz w _ Q I rw1 sg r1 e q
/-- one argument -/
theorem r1_call {v : Value} {b : Bi} {f : D → Option D} (hf : biD b = u1 f)
    (h : ∀ (pins : List (Addr × Obj)) (s : Shared) (σ : L2.St) (H G : Hp) (x z : D) (w : V) (u : Value) (Q : VK), L2.Inv X pins σ H s → RelV w u → Sub G H → RepO Y.K H G x w → f x = some z → (∀ v H' G', Grow H G H' G' → Rep Y.K G' z v → Q v H') →
      wpAny (model X.prog X.w) X.A (call v [u]) (EP X pins σ Q) X.xe s) : CallR X v (rB Y b) := by
  intro pins s σ H vs us Q I r ⟨G, xs, dz, sg, rs, e, q⟩
  rw [hf] at e
  obtain ⟨x, rfl, e⟩ := u1_some e
  obtain ⟨w, rfl, r1⟩ := rs.one
  cases r with
  | cons rw1 rt => cases rt; exact h pins s σ H G x dz w _ Q I rw1 sg r1 e q
theorem r2_call {v : Value} {b : Bi} {f : D → D → Option D} (hf : biD b = u2 f)
    (h : ∀ (pins : List (Addr × Obj)) (s : Shared) (σ : L2.St) (H G : Hp) (x y z : D) (w t : V) (u i : Value) (Q : VK), L2.Inv X pins σ H s → RelV w u → RelV t i → Sub G H → RepO Y.K H G x w → RepO Y.K H G y t → f x y = some z → (∀ v H' G', Grow H G H' G' → Rep Y.K G' z v → Q v H') →
      wpAny (model X.prog X.w) X.A (call v [u, i]) (EP X pins σ Q) X.xe s) : CallR X v (rB Y b) := by
  intro pins s σ H vs us Q I r ⟨G, xs, dz, sg, rs, e, q⟩
  rw [hf] at e
  obtain ⟨x, y, rfl, e⟩ := u2_some e
  obtain ⟨w, t, rfl, r1, r2⟩ := rs.two
  cases r with
  | cons rw1 rt => cases rt with
    | cons rw2 rt => cases rt; exact h pins s σ H G x y dz w t _ _ Q I rw1 rw2 sg r1 r2 e q
theorem one1 {w : V} {u : Value} (r : RelV w u) : Vals [w] [u] := .cons r .nil
theorem two2 {w t : V} {u i : Value} (r : RelV w u) (r' : RelV t i) : Vals [w, t] [u, i] := .cons r (.cons r' .nil)
theorem b_len (hK : X.K = Y.K) : CallR X (.builtin "len") (rB Y .len) := r1_call rfl fun pins s σ H G x z w u Q I rw1 sg r1 e q => by
  cases x with
  | list ys =>
    cases e
    obtain ⟨a, ws, rfl, h1, h2⟩ := r1.list sg
    exact call_len pins s σ H _ _ Q I (one1 rw1) ⟨_, _, rfl, .inl ⟨ws, .of h1, rfl⟩, by rw [← h2.length]; exact q _ _ _ (Grow.refl sg) rep_int⟩
  | tuple ys =>
    cases e
    obtain ⟨a, ws, rfl, h1, h2⟩ := r1.tuple
    exact call_len pins s σ H _ _ Q I (one1 rw1) ⟨_, _, rfl, .inr ⟨ws, by rw [hK]; exact sg.sqT h1, rfl⟩, by rw [← h2.length]; exact q _ _ _ (Grow.refl sg) rep_int⟩
  | str x =>
    simp only [lenD] at e
    split at e
    · rename_i hl
      cases e
      cases r1.str
      exact call_len pins s σ H _ _ Q I (one1 rw1) ⟨_, _, rfl, ⟨by rw [str_len, ← lim_eq]; exact hl, rfl⟩, by rw [str_len]; exact q _ _ _ (Grow.refl sg) rep_int⟩
    · cases e
  | _ => cases e
theorem b_abs : CallR X (.builtin "abs") (rB Y .abs) := r1_call rfl fun pins s σ H G x z w u Q I rw1 sg r1 e q => by
  cases x with
  | int i =>
    cases e
    cases r1.int
    exact call_abs pins s σ H _ _ Q I (one1 rw1) ⟨i, rfl, q _ _ _ (Grow.refl sg) rep_int⟩
  | _ => cases e
theorem b_max2 (hc : X.calm = true) : CallR X (.builtin "max") (rB Y .max2) := r2_call rfl fun pins s σ H G x y z w t u i Q I rw1 rw2 sg r1 r2 e q => by
  cases x with
  | int i =>
    cases y with
    | int j =>
      cases e
      cases r1.int; cases r2.int
      exact call_max2 hc pins s σ H _ _ Q I (two2 rw1 rw2) ⟨i, j, rfl, q _ _ _ (Grow.refl sg) rep_int⟩
    | _ => cases e
  | _ => cases y <;> cases e
theorem b_min2 (hc : X.calm = true) : CallR X (.builtin "min") (rB Y .min2) := r2_call rfl fun pins s σ H G x y z w t u i Q I rw1 rw2 sg r1 r2 e q => by
  cases x with
  | int i =>
    cases y with
    | int j =>
      cases e
      cases r1.int; cases r2.int
      exact call_min2 hc pins s σ H _ _ Q I (two2 rw1 rw2) ⟨i, j, rfl, q _ _ _ (Grow.refl sg) rep_int⟩
    | _ => cases e
  | _ => cases y <;> cases e
theorem asInts_rep {K : Fg} {G : Hp} : ∀ {ys : List D} {ns : List Int} {vs : List V}, asInts ys = some ns → Reps K G ys vs → vs = ns.map V.int
  | [], _, [], h, _ => by simp only [asInts, Option.some.injEq] at h; subst h; rfl
  | .int i :: ys, ns, v :: vs, h, r => by
    simp only [asInts, Option.map_eq_some_iff] at h
    obtain ⟨ms, h, rfl⟩ := h
    rw [Reps, Rep] at r
    rw [r.1, asInts_rep h r.2]
    rfl
  | [], _, _ :: _, _, r => by simp [Reps] at r
  | _ :: _, _, [], _, r => by simp [Reps] at r
  | .none :: _, _, _, h, _ => by simp [asInts] at h
  | .bool _ :: _, _, _, h, _ => by simp [asInts] at h
  | .str _ :: _, _, _, h, _ => by simp [asInts] at h
  | .list _ :: _, _, _, h, _ => by simp [asInts] at h
  | .tuple _ :: _, _, _, h, _ => by simp [asInts] at h
  | .dict _ :: _, _, _, h, _ => by simp [asInts] at h
theorem asBools_rep {K : Fg} {G : Hp} : ∀ {ys : List D} {ns : List Bool} {vs : List V}, asBools ys = some ns → Reps K G ys vs → vs = ns.map V.bl
  | [], _, [], h, _ => by simp only [asBools, Option.some.injEq] at h; subst h; rfl
  | .bool i :: ys, ns, v :: vs, h, r => by
    simp only [asBools, Option.map_eq_some_iff] at h
    obtain ⟨ms, h, rfl⟩ := h
    rw [Reps, Rep] at r
    rw [r.1, asBools_rep h r.2]
    rfl
  | [], _, _ :: _, _, r => by simp [Reps] at r
  | _ :: _, _, [], _, r => by simp [Reps] at r
  | .none :: _, _, _, h, _ => by simp [asBools] at h
  | .int _ :: _, _, _, h, _ => by simp [asBools] at h
  | .str _ :: _, _, _, h, _ => by simp [asBools] at h
  | .list _ :: _, _, _, h, _ => by simp [asBools] at h
  | .tuple _ :: _, _, _, h, _ => by simp [asBools] at h
  | .dict _ :: _, _, _, h, _ => by simp [asBools] at h
theorem asStrs_rep {K : Fg} {G : Hp} : ∀ {ys : List D} {ns : List (List Nat)} {vs : List V}, asStrs ys = some ns → Reps K G ys vs → ∃ zs : List Str, vs = zs.map V.str ∧ ns = zs.map (·.cps.toList)
  | [], _, [], h, _ => by simp only [asStrs, Option.some.injEq] at h; subst h; exact ⟨[], rfl, rfl⟩
  | .str i :: ys, ns, v :: vs, h, r => by
    simp only [asStrs, Option.map_eq_some_iff] at h
    obtain ⟨ms, h, rfl⟩ := h
    rw [Reps, Rep] at r
    obtain ⟨zs, rfl, rfl⟩ := asStrs_rep h r.2
    exact ⟨i :: zs, by rw [r.1]; rfl, rfl⟩
  | [], _, _ :: _, _, r => by simp [Reps] at r
  | _ :: _, _, [], _, r => by simp [Reps] at r
  | .none :: _, _, _, h, _ => by simp [asStrs] at h
  | .int _ :: _, _, _, h, _ => by simp [asStrs] at h
  | .bool _ :: _, _, _, h, _ => by simp [asStrs] at h
  | .list _ :: _, _, _, h, _ => by simp [asStrs] at h
  | .tuple _ :: _, _, _, h, _ => by simp [asStrs] at h
  | .dict _ :: _, _, _, h, _ => by simp [asStrs] at h
theorem b_all (hc : X.calm = true) : CallR X (.builtin "all") (rB Y .all) := r1_call rfl fun pins s σ H G x z w u Q I rw1 sg r1 e q => by
  cases x with
  | list ys =>
    simp only [allD, Option.map_eq_some_iff] at e
    obtain ⟨bs, e, rfl⟩ := e
    obtain ⟨a, ws, rfl, h1, h2⟩ := r1.list sg
    exact cr_all hc pins s σ H _ _ Q I (one1 rw1) ⟨a, bs, rfl, .of (by rw [← asBools_rep e h2]; exact h1), q _ _ _ (Grow.refl sg) rep_bool⟩
  | _ => cases e
theorem b_any (hc : X.calm = true) : CallR X (.builtin "any") (rB Y .any) := r1_call rfl fun pins s σ H G x z w u Q I rw1 sg r1 e q => by
  cases x with
  | list ys =>
    simp only [anyD, Option.map_eq_some_iff] at e
    obtain ⟨bs, e, rfl⟩ := e
    obtain ⟨a, ws, rfl, h1, h2⟩ := r1.list sg
    exact cr_any hc pins s σ H _ _ Q I (one1 rw1) ⟨a, bs, rfl, .of (by rw [← asBools_rep e h2]; exact h1), q _ _ _ (Grow.refl sg) rep_bool⟩
  | _ => cases e
theorem b_sum (hc : X.calm = true) : CallR X (.builtin "sum") (rB Y .sum) := r1_call rfl fun pins s σ H G x z w u Q I rw1 sg r1 e q => by
  cases x with
  | list ys =>
    simp only [sumD, Option.map_eq_some_iff] at e
    obtain ⟨bs, e, rfl⟩ := e
    obtain ⟨a, ws, rfl, h1, h2⟩ := r1.list sg
    exact cr_sum hc pins s σ H _ _ Q I (one1 rw1) ⟨a, bs, rfl, .of (by rw [← asInts_rep e h2]; exact h1), q _ _ _ (Grow.refl sg) rep_int⟩
  | _ => cases e
theorem b_int : CallR X (.type "int") (rB Y .int) := r1_call rfl fun pins s σ H G x z w u Q I rw1 sg r1 e q => by
  cases x with
  | int i =>
    cases e
    cases r1.int
    exact call_int1 pins s σ H _ _ Q I (one1 rw1) (.inl ⟨i, rfl, q _ _ _ (Grow.refl sg) rep_int⟩)
  | bool i =>
    cases e
    cases r1.bool
    exact call_int1 pins s σ H _ _ Q I (one1 rw1) (.inr ⟨i, rfl, q _ _ _ (Grow.refl sg) rep_int⟩)
  | _ => cases e
theorem b_tuple (hK : X.K = Y.K) : CallR X (.type "tuple") (rB Y .tuple) := r1_call rfl fun pins s σ H G x z w u Q I rw1 sg r1 e q => by
  cases x with
  | list ys =>
    cases e
    obtain ⟨a, ws, rfl, h1, h2⟩ := r1.list sg
    exact call_tuple_of pins s σ H _ _ Q I (one1 rw1) ⟨_, _, rfl, .inl ⟨.of h1, fun l hl => q _ _ _ (Grow.one sg hl) (rep_tup hl sg h2)⟩⟩
  | tuple ys =>
    cases e
    obtain ⟨a, ws, rfl, h1, h2⟩ := r1.tuple
    exact call_tuple_of pins s σ H _ _ Q I (one1 rw1) ⟨_, _, rfl, .inr ⟨by rw [hK]; exact sg.sqT h1, q _ _ _ (Grow.refl sg) (tup_rep h1 h2)⟩⟩
  | _ => cases e
end
end Ip
/-! Ip8: built-in functions on data. -/
namespace Ip
open PySem PySem.Spec PyProof.Rows L2

section
variable {X : Cx} {C : Sc} {Y : Wd} {a b c : Expr} {e1 e2 e3 : Ex} {es : Exs} {l : List Expr} {pos : Pos}
theorem vals_signs : ∀ (cs : List Nat) (its : List Value), its.length = cs.length → (∀ (j : Nat) (v : Value), its[j]? = some v → ∃ c u, cs[j]? = some c ∧ v = .str ⟨#[c]⟩ u) → Vals (cs.map fun c => V.str ⟨#[c]⟩) its
  | [], [], _, _ => .nil
  | c :: cs, v :: its, hl, h => by
    obtain ⟨c', u, h1, h2⟩ := h 0 v rfl
    simp only [List.getElem?_cons_zero, Option.some.injEq] at h1
    subst h1
    refine .cons ⟨u, h2⟩ (vals_signs cs its (by simpa using hl) fun j w hw => h (j + 1) w (by simpa using hw))
  | [], _ :: _, hl, _ => by simp at hl
  | _ :: _, [], hl, _ => by simp at hl
theorem reps_signs {K : Fg} {G : Hp} : ∀ (cs : List Nat), Reps K G (cs.map fun c => tx [c]) (cs.map fun c => V.str ⟨#[c]⟩)
  | [] => Reps.nil
  | c :: cs => Reps.cons (rep_tx rfl) (reps_signs cs)
theorem b_list (hK : X.K = Y.K) (hc : X.calm = true) : CallR X (.type "list") (rBF Y .list) := r1_callF rfl fun pins s σ H G x z w u Q I rw1 sg r1 e q => by
  cases x with
  | list ys =>
    cases e
    obtain ⟨a, ws, rfl, h1, h2⟩ := r1.list sg
    exact call_list_of pins s σ H _ _ Q I (one1 rw1) ⟨_, _, rfl, .inl (.of h1), fun l hl => q _ _ hl h2⟩
  | tuple ys =>
    cases e
    obtain ⟨a, ws, rfl, h1, h2⟩ := r1.tuple
    exact call_list_of pins s σ H _ _ Q I (one1 rw1) ⟨_, _, rfl, .inr (by rw [hK]; exact sg.sqT h1), fun l hl => q _ _ hl h2⟩
  | str x =>
    simp only [listD] at e
    split at e
    · rename_i hl
      cases e
      cases r1.str
      obtain ⟨t, rfl⟩ := rw1
      have hz : x.cps.toList.length ≤ sizeLine := by rw [← lim_eq]; exact hl
      refine call_list_str (I.ok.hd hc) x t (fun h' tk acc c' hk hD hacc => ?_) (by simpa using hz)
      have hn := I.hok.fresh (Nat.le_refl s.heap.objs.size)
      have hv : Vals (x.cps.toList.map fun c => V.str ⟨#[c]⟩) acc.toList := vals_signs _ _ (by rw [Array.length_toList, hacc.1, Array.length_toList]) fun j v hj => by
        obtain ⟨c, u, h1, h2⟩ := hacc.2 j v (by rw [← Array.getElem?_toList]; exact hj)
        exact ⟨c, u, by rw [Array.getElem?_toList]; exact h1, h2⟩
      exact ⟨.ref s.heap.objs.size, upd H s.heap.objs.size (.lst (x.cps.toList.map fun c => V.str ⟨#[c]⟩)), I.laid (t' := tk) hk (Nat.le_refl _)
        (show ObjOk X.prog X.w _ _ _ (.lst (x.cps.toList.map fun c => V.str ⟨#[c]⟩)) from ⟨by rw [List.length_map]; exact hz, acc.toList, c', hv, by rw [Array.toArray_toList]; exact hD⟩), rfl, q _ _ hn (reps_signs _)⟩
    · cases e
  | dict kvs => exact absurd (r1.all sg) (by rw [Rep]; exact id)
  | _ => cases e
/-! ### rows that may be sorted -/
theorem each_of {K : Fg} {G : Hp} : ∀ {ys : List D} {ws : List V} {its : List Value}, Reps K G ys ws → Vals ws its → PySem.W.EachIs (fun v b => ∃ w, RelV w v ∧ Rep K G b w) its ys
  | [], [], _, _, r => by cases r; exact .nil
  | _ :: _, _ :: _, _, h, r => by
    rw [Reps] at h
    cases r with
    | cons r1 r2 => exact .cons ⟨_, r1, h.1⟩ (each_of h.2 r2)
  | [], _ :: _, _, h, _ => by simp [Reps] at h
  | _ :: _, [], _, h, _ => by simp [Reps] at h
theorem of_each {K : Fg} {G : Hp} {its : List Value} {ys : List D} (h : PySem.W.EachIs (fun v b => ∃ w, RelV w v ∧ Rep K G b w) its ys) : ∃ ws, Vals ws its ∧ Reps K G ys ws := by
  induction h with
  | nil => exact ⟨[], .nil, Reps.nil⟩
  | cons h _ ih =>
    obtain ⟨w, h1, h2⟩ := h
    obtain ⟨ws, h3, h4⟩ := ih
    exact ⟨w :: ws, .cons h1 h3, Reps.cons h2 h4⟩
theorem alikeL_ok {ys : List D} (h : alikeL ys = true) : ∀ x ∈ ys, ∀ y ∈ ys, PySem.W.alike x y = true := by
  unfold alikeL at h
  simpa [List.all_eq_true] using h
theorem depthAll_le {n : Nat} : ∀ {ys : List D}, (∀ y ∈ ys, y.depth ≤ n) → PyData.depthAll ys ≤ n
  | [], _ => by simp [PyData.depthAll]
  | y :: ys, h => by
    have h1 := h y (by simp)
    have h2 := depthAll_le (ys := ys) fun z hz => h z (by simp [hz])
    simp only [PyData.depthAll]
    omega
theorem b_sorted (hK : X.K = Y.K) (hu : X.A.units + 200 < cLine) : CallR X (.builtin "sorted") (rBF Y .sorted) := r1_callF rfl fun pins s σ H G x z w u Q I rw1 sg r1 e q => by
  cases x with
  | list ys =>
    simp only [sortedD, sortL, Option.map_eq_some_iff] at e
    obtain ⟨zs, e, e2⟩ := e
    cases e2
    split at e
    · rename_i hs
      cases e
      simp only [Bool.and_eq_true, decide_eq_true_eq, List.all_eq_true, Bool.or_eq_true] at hs
      obtain ⟨⟨⟨ha, hk⟩, hL⟩, hsh⟩ := hs
      obtain ⟨a, ws, rfl, h1, h2⟩ := r1.list sg
      cases rw1
      obtain ⟨its, rv, pl, hz⟩ := I.list (.of h1)
      obtain ⟨as, hr⟩ := reps_reads I ys ws its (by rw [hK]; exact Reps.mono sg _ _ h2) rv
      have hsrt : PySem.W.Sortable ys := by
        rcases hk with hk | hk
        · refine .inl fun d hd => ?_
          have := hk d hd
          match d, this with
          | .tuple (x :: r), _ => exact ⟨x, r, rfl⟩
        · refine .inr fun d hd => ?_
          have := hk d hd
          match d, this with
          | .bool _, _ => exact ⟨by simp, by simp⟩
          | .int _, _ => exact ⟨by simp, by simp⟩
          | .str _, _ => exact ⟨by simp, by simp⟩
          | .list _, _ => exact ⟨by simp, by simp⟩
          | .dict _, _ => exact ⟨by simp, by simp⟩
      refine PySem.W.sorted_data (enc := fun d : D => d) (R := fun v b => ∃ w, RelV w v ∧ Rep Y.K G b w) pl.isList (each_of h2 rv) (PySem.W.readsAll_each (fun d : D => d) (by rw [List.map_id']; exact hr)) (by rw [List.map_id']; exact alikeL_ok ha) (by rw [List.map_id']; exact hsrt) (by rw [← lim_eq]; exact hL) (fun b hb => ?_) fun out ho eo => ?_
      · have := (shallow_ok (hsh b hb)).2
        omega
      · obtain ⟨us, hv, hr2⟩ := of_each eo
        have hn := I.hok.fresh (Nat.le_succ s.heap.objs.size)
        obtain ⟨ep, hat⟩ := sortedAll_at s.heap its out.toArray
        have hlen : us.length ≤ sizeLine := by
          rw [hv.length, ho, ← lim_eq]; exact hL
        exact ⟨.ref (s.heap.objs.size + 1), upd H (s.heap.objs.size + 1) (.lst us), I.laid (t' := s.toks) (fun b o hb => sortedAll_old hb) (Nat.le_succ _)
          (show ObjOk X.prog X.w _ _ _ (.lst us) from ⟨hlen, out, ep, hv, hat⟩), rfl, q _ _ hn hr2⟩
    · cases e
  | _ => cases e
theorem rowOk_ok {l : List D} (h : rowOk l = true) : PySem.W.AlikeAll l ∧ (∀ x ∈ l, x.plain = true) ∧ PyData.depthAll l ≤ 32 := by
  unfold rowOk at h
  simp only [Bool.and_eq_true, List.all_eq_true] at h
  obtain ⟨⟨h1, h2⟩, h3⟩ := h
  refine ⟨⟨alikeL_ok h1, fun x hx e => ?_⟩, fun x hx => (shallow_ok (h2 x hx)).1, depthAll_le fun y hy => (shallow_ok (h2 y hy)).2⟩
  have := h3 x hx
  subst e
  revert this
  decide
theorem best_rep {pins : List (Addr × Obj)} {σ : L2.St} {H G : Hp} {s : Shared} (hK : X.K = Y.K) (I : L2.Inv X pins σ H s) (sg : Sub G H) {ys : List D} {ws : List V} {its : List Value} (h2 : Reps Y.K G ys ws) (rv : Vals ws its) {i : Nat} {v : Value} (hv : its[i]? = some v) {h' : Heap} {d : D} {bs : List Addr}
    (hd : Reads h' v d bs) (hk : ∀ b o, s.heap.get? b = some o → h'.get? b = some o) (hp : ∀ x ∈ ys, x.plain = true) : ∃ w, RelV w v ∧ Rep Y.K G d w := by
  have hi : i < ys.length := by
    rw [h2.length, rv.length]
    exact (List.getElem?_eq_some_iff.mp hv).1
  obtain ⟨w, hw, hr⟩ := h2.get (i := i) (List.getElem?_eq_getElem hi)
  obtain ⟨v', hv', rw'⟩ := rv.get hw
  rw [hv] at hv'
  cases hv'
  obtain ⟨as, hr1⟩ := rep_reads I ys[i] w v (by rw [hK]; exact Rep.mono sg _ _ hr) rw'
  have := PySem.SeqAt.plain_unique ys[i] d v as bs (hp _ (List.getElem_mem hi)) (PySem.W.reads_keeps hk hr1) hd
  subst this
  exact ⟨w, rw', hr⟩
theorem b_max1 (hK : X.K = Y.K) (hc : X.calm = true) (hu : X.A.units + 200 < cLine) : CallR X (.builtin "max") (rB Y .max1) := r1_call rfl fun pins s σ H G x z w u Q I rw1 sg r1 e q => by
  cases x with
  | list ys =>
    cases ys with
    | nil => cases e
    | cons y ys =>
      simp only [max1D] at e
      split at e
      · rename_i hs
        cases e
        obtain ⟨ha, hp, hd⟩ := rowOk_ok hs
        obtain ⟨a, ws, rfl, h1, h2⟩ := r1.list sg
        cases rw1
        obtain ⟨its, rv, pl, hz⟩ := I.list (.of h1)
        obtain ⟨as, hr⟩ := reps_reads I _ ws its (by rw [hK]; exact Reps.mono sg _ _ h2) rv
        refine PySem.W.max_list_data (I.ok.hd hc) pl.isList hr ha (by omega) fun i v h' tk bs hv hr' hk => ?_
        obtain ⟨w, r1, r2⟩ := best_rep hK I sg h2 rv (by simpa using hv) hr' hk hp
        exact ⟨w, H, I.kept hk, r1, q _ _ _ (Grow.refl sg) r2⟩
      · cases e
  | _ => cases e
theorem b_min1 (hK : X.K = Y.K) (hc : X.calm = true) (hu : X.A.units + 200 < cLine) : CallR X (.builtin "min") (rB Y .min1) := r1_call rfl fun pins s σ H G x z w u Q I rw1 sg r1 e q => by
  cases x with
  | list ys =>
    cases ys with
    | nil => cases e
    | cons y ys =>
      simp only [min1D] at e
      split at e
      · rename_i hs
        cases e
        obtain ⟨ha, hp, hd⟩ := rowOk_ok hs
        obtain ⟨a, ws, rfl, h1, h2⟩ := r1.list sg
        cases rw1
        obtain ⟨its, rv, pl, hz⟩ := I.list (.of h1)
        obtain ⟨as, hr⟩ := reps_reads I _ ws its (by rw [hK]; exact Reps.mono sg _ _ h2) rv
        refine PySem.W.min_list_data (I.ok.hd hc) pl.isList hr ha (by omega) fun i v h' tk bs hv hr' hk => ?_
        obtain ⟨w, r1, r2⟩ := best_rep hK I sg h2 rv (by simpa using hv) hr' hk hp
        exact ⟨w, H, I.kept hk, r1, q _ _ _ (Grow.refl sg) r2⟩
      · cases e
  | _ => cases e

/-! ### isinstance -/
def tyOf : Ty → Str × String
  | .tuple => ("tuple", "tuple")
  | .str => ("str", "str")
  | .int => ("int", "int")
  | .bool => ("bool", "bool")
  | .list => ("list", "list")
theorem isa_call (hK : X.K = Y.K) {t : Ty} {pins : List (Addr × Obj)} {s : Shared} {σ : L2.St} {H G : Hp} {x : D} {w : V} {u : Value} {Q : VK} (I : L2.Inv X pins σ H s) (rw1 : RelV w u) (sg : Sub G H) (r1 : RepO Y.K H G x w)
    (q : Q (.bl (isaD t x)) H) : wpAny (model X.prog X.w) X.A (call (.builtin "isinstance") [u, .type (tyOf t).2]) (EP X pins σ Q) X.xe s := by
  obtain ⟨as, hr⟩ := rep_reads I x w u (by rw [hK]; exact r1.all sg) rw1
  have fin : ∀ tk, EP X pins σ Q (.bool (isaD t x)) { s with toks := tk } := fun tk => ⟨.bl (isaD t x), H, I.tok tk, rfl, q⟩
  cases t with
  | tuple => exact PySem.W.isinstance_tuple_data hr fun tk _ => by have := fin tk; cases x <;> exact this
  | str => exact PySem.W.isinstance_str_data hr fun tk _ => by have := fin tk; cases x <;> exact this
  | int => exact PySem.W.isinstance_int_data hr fun tk _ => by have := fin tk; cases x <;> exact this
  | bool => exact PySem.W.isinstance_bool_data hr fun tk _ => by have := fin tk; cases x <;> exact this
  | list => exact PySem.W.isinstance_list_data hr fun tk _ => by have := fin tk; cases x <;> exact this
/-! ### texts -/
theorem m_join (hK : X.K = Y.K) : MtR X "str.join" (fun x xs H Q => ∃ G dx dy dz y, xs = [y] ∧ Sub G H ∧ RepO Y.K H G dx x ∧ RepO Y.K H G dy y ∧ joinD dx dy = some dz ∧ ∀ v H' G', Grow H G H' G' → Rep Y.K G' dz v → Q v H') := by
  intro pins s σ H x xs v us Q I rx rxs ⟨G, dx, dy, dz, y, hy, sg, r1, r2, e, q⟩
  cases dx with
  | str a =>
    cases dy with
    | list ys =>
      simp only [joinD] at e
      split at e
      · rename_i h0
        simp only [Option.bind_eq_some_iff] at e
        obtain ⟨l, hl, e⟩ := e
        split at e
        · rename_i hz
          cases e
          obtain ⟨p, ws, rfl, h1, h2⟩ := r2.list sg
          obtain ⟨zs, rfl, rfl⟩ := asStrs_rep hl h2
          cases r1.str
          have h0' : a.cps = #[] := by
            apply Array.ext'
            rw [h0]
          refine mt_join pins s σ H _ xs v us Q I rx rxs ⟨a, p, zs, rfl, hy, .inl (.of h1), ?_, q _ _ _ (Grow.refl sg) (rep_tx ?_)⟩
          · have e1 : a.length = 0 := by rw [str_len, h0]; rfl
            have e2 : (zs.map (·.length)).sum = (zs.map (·.cps.toList)).flatten.length := by
              rw [List.length_flatten, List.map_map]
              congr 1
            rw [e1, Nat.mul_zero, Nat.add_zero, e2]
            exact hz
          · show (⟨(zs.drop 1).foldl (fun acc p => acc ++ a.cps ++ p.cps) (zs.headD Str.empty).cps⟩ : Str).cps.toList = _
            rw [h0']
            cases zs with
            | nil => rfl
            | cons z zs =>
              show (zs.foldl (fun acc p => acc ++ #[] ++ p.cps) z.cps).toList = _
              have gen : ∀ (zs : List Str) (acc : Array Nat), (zs.foldl (fun acc p => acc ++ #[] ++ p.cps) acc).toList = acc.toList ++ (zs.map (·.cps.toList)).flatten := by
                intro zs
                induction zs with
                | nil => intro acc; simp
                | cons z zs ih => intro acc; rw [List.foldl_cons, ih]; simp
              rw [gen]
              rfl
        · cases e
      · cases e
    | _ => cases e
  | _ => cases dy <;> cases e
theorem m_count : MtR X "str.count" (fun x xs H Q => ∃ G dx dy dz y, xs = [y] ∧ Sub G H ∧ RepO Y.K H G dx x ∧ RepO Y.K H G dy y ∧ countD dx dy = some dz ∧ ∀ v H' G', Grow H G H' G' → Rep Y.K G' dz v → Q v H') := by
  intro pins s σ H x xs v us Q I rx rxs ⟨G, dx, dy, dz, y, hy, sg, r1, r2, e, q⟩
  cases dx with
  | str a =>
    cases dy with
    | str c =>
      simp only [countD] at e
      split at e
      · rename_i k hk
        split at e
        · cases e
          cases r1.str
          cases r2.str
          refine mt_count pins s σ H _ xs v us Q I rx rxs ⟨a, c, rfl, hy, ?_⟩
          have hc : c = ⟨#[k]⟩ := TL.ext_tl (by show c.cps.toList = _; rw [hk])
          subst hc
          have e1 : Txt.count a ⟨#[k]⟩ = (a.cps.toList.count k : Int) := by
            rw [count_is]
            generalize a.cps.toList = l
            induction l with
            | nil => rfl
            | cons x l ih =>
              rw [List.map_cons, countIn, ih, List.count_cons]
              have : same (PyData.str ⟨#[x]⟩) (PyData.str ⟨#[k]⟩) = (x == k) := same_sign ..
              rw [this]
              split <;> omega
          rw [e1]
          exact q _ _ _ (Grow.refl sg) rep_int
        · cases e
      · cases e
    | _ => cases e
  | _ => cases dy <;> cases e
end
end Ip
/-! IpR: xs[::-1] of lists, tuples, texts. -/
namespace Ip
open PySem PySem.Spec PyProof.Rows L2

theorem rev_picks (n : Nat) : Builtin.Str.strSliceIndices none none (-1) n = (List.range n).reverse := by
  show sliceRange ((n : Int) - 1) (-1) (-1) = _
  rw [PySem.W.krv_sliceRange, PySem.W.krv_range]
theorem rev_text (x : Str) : (((List.range x.length).reverse).filterMap (x.cps[·]?)) = x.cps.toList.reverse := by
  have e : x.length = x.cps.size := by rw [str_len]; simp
  rw [e, List.filterMap_reverse, PySem.W.krv_all]
theorem rev_at (xs : Array Value) : ((List.range xs.size).filterMap fun (k : Nat) => xs[(((xs.size : Int) - 1) + (k : Int) * (-1)).toNat]?) = xs.toList.reverse := by
  have e : (List.range xs.size).filterMap (fun (k : Nat) => xs[(((xs.size : Int) - 1) + (k : Int) * (-1)).toNat]?) = ((List.range xs.size).map fun k => xs.size - 1 - k).filterMap (xs[·]?) := by
    rw [List.filterMap_map]
    have gen : ∀ l : List Nat, (∀ k ∈ l, k < xs.size) → l.filterMap (fun (k : Nat) => xs[(((xs.size : Int) - 1) + (k : Int) * (-1)).toNat]?) = l.filterMap ((xs[·]?) ∘ fun k => xs.size - 1 - k) := by
      intro l
      induction l with
      | nil => intro _; rfl
      | cons k l ih =>
        intro hl
        rw [List.filterMap_cons, List.filterMap_cons, ih fun j hj => hl j (by simp [hj])]
        have hk := hl k (by simp)
        have hk2 : (((xs.size : Int) - 1) + (k : Int) * (-1)).toNat = xs.size - 1 - k := by omega
        rw [hk2]
        rfl
    exact gen _ fun k hk => List.mem_range.mp hk
  rw [e, PySem.W.krv_range, List.filterMap_reverse, PySem.W.krv_all]
section
variable {prog : Program} {w : World} {A : Around} {s : Shared} {E : Value → Shared → Prop}
theorem applied_rev {sl : Addr} {vs : Value} {n : Nat} {Q : Int × Int × Nat → Shared → Prop} (hs : s.heap.IsSliceOf sl .none .none vs) (ps : IsPart vs (some (-1)))
    (h : Q ((n : Int) - 1, -1, n) s) : wpAny (model prog w) A (Builtin.Slice.sliceApplied (.ref sl) (pure (n : Int))) Q E s := by
  obtain ⟨os, hos, hcs, hds⟩ := hs
  unfold Builtin.Slice.sliceApplied Builtin.Slice.sliceFields
  refine wpAny_bind (wpAny_bind (wpAny_field hos hds (x := .none) rfl (wpAny_bind (wpAny_field hos hds (x := .none) rfl (wpAny_bind (wpAny_field hos hds (x := vs) rfl (wpAny_pure ?_)))))))
  refine wpAny_bind (HT.slicePart_ ps ?_)
  show wpAny _ _ (if ((-1 : Int) == 0) = true then _ else _) _ _ s
  rw [if_neg (by decide)]
  refine wpAny_bind (HT.slicePart_ .none (wpAny_bind (HT.slicePart_ .none (wpAny_bind (wpAny_pure ?_)))))
  have e1 : Builtin.Slice.sliceAdjust none none (-1) (n : Int) = ((n : Int) - 1, -1) := by
    unfold Builtin.Slice.sliceAdjust
    rfl
  have e2 : Builtin.Slice.slicePlaces ((n : Int) - 1) (-1) (-1) = n := by
    unfold Builtin.Slice.slicePlaces
    have h1 : ¬ ((-1 : Int) > 0) := by decide
    simp only [h1, if_false]
    have h2 : (((n : Int) - 1 - -1 - 1) / - -1) = (n : Int) - 1 := by
      rw [show (- -1 : Int) = 1 by decide, Int.ediv_one]
      omega
    rw [h2]
    split <;> omega
  show wpAny _ _ (match Builtin.Slice.sliceAdjust none none (-1) (n : Int) with | (lo, hi) => pure (lo, (-1 : Int), Builtin.Slice.slicePlaces lo hi (-1))) _ _ s
  rw [e1]
  show wpAny _ _ (pure ((n : Int) - 1, (-1 : Int), Builtin.Slice.slicePlaces ((n : Int) - 1) (-1) (-1))) _ _ s
  rw [e2]
  exact wpAny_pure h
theorem getItem_tuple_rev {t sl : Addr} {items : Array Value} {vs : Value} {Q : Value → Shared → Prop} (ht : IsTup s.heap t items) (hs : s.heap.IsSliceOf sl .none .none vs) (ps : IsPart vs (some (-1)))
    (h : Q (.ref s.heap.objs.size) { s with heap := s.heap.push { cls := .type "tuple", data := .seq items.toList.reverse.toArray } }) (hsz : items.size ≤ sizeLine) : wpAny (model prog w) A (getItem (.ref t) (.ref sl)) Q E s := by
  have hmade : sizeOk (.seq items.toList.reverse.toArray) := by
    show items.toList.reverse.toArray.size ≤ sizeLine
    rw [List.size_toArray, List.length_reverse, Array.length_toList]
    exact hsz
  obtain ⟨os, hos, hcs, hds⟩ := id hs
  have hTs : s.TypeIs (.ref sl) "slice" := ⟨os, hos, hcs⟩
  unfold getItem
  try with_reducible refine wpAny_holding ?_
  first | refine wpAny_bind (wpAny_pure ?_) | skip
  refine wpAny_bind (wpAny_sequenceKey ht.typeIs (by decide) ?_)
  refine wpAny_bind (wpAny_callSpecial?_slot (name := Str.ofString "__getitem__") ht.typeIs PyProof.Rows.slot_tuple_getitem (wpAny_call_entry PyProof.Rows.slot_tuple_getitem ht.typeIs PyProof.Rows.entry_tuple_getitem ?_ (PyProof.Rows.args_tuple_getitem _ _)))
  show wpAny _ _ (Builtin.Tuple.tupleItemsOf (.ref t) >>= _) _ _ s
  refine wpAny_bind (tupleItemsOf_ ht ?_)
  refine wpAny_bind (wpAny_typeOf hTs ?_)
  rw [if_pos (by decide)]
  refine wpAny_bind (applied_rev hs ps ?_)
  have hno : ¬ ((((items.size : Int) - 1) == 0 && (-1 : Int) == 1 && items.size == items.size) = true) := by
    intro q
    rw [Bool.and_eq_true, Bool.and_eq_true] at q
    exact absurd q.1.2 (by decide)
  show wpAny _ _ (if (((items.size : Int) - 1) == 0 && (-1 : Int) == 1 && items.size == items.size) = true then _ else _) _ _ s
  rw [if_neg hno, rev_at]
  first
    | exact wpAny_bind (m := Builtin.Tuple.tupleExact _) (wpAny_newObj_type (wpAny_pure ⟨_, rfl, wpAny_pure h⟩) hmade)
    | exact wpAny_bind (m := Builtin.Tuple.tupleExact _) (wpAny_newObj_type (wpAny_bind (wpAny_pure (wpAny_pure ⟨_, rfl, wpAny_pure h⟩))) hmade)
    | exact wpAny_bind (wpAny_bind (m := Builtin.Tuple.tupleExact _) (wpAny_newObj_type (wpAny_pure (wpAny_pure ⟨_, rfl, wpAny_pure h⟩)) hmade))
    | exact wpAny_bind (wpAny_bind (m := Builtin.Tuple.tupleExact _) (wpAny_newObj_type (wpAny_pure ⟨_, rfl, wpAny_pure h⟩) hmade))
end
section
variable {X : Cx} {C : Sc} {Y : Wd}
theorem Reps.revs {K : Fg} {G : Hp} {ds : List D} {vs : List V} (h : Reps K G ds vs) : Reps K G ds.reverse vs.reverse := h.reverse
theorem c_rev {a : Expr} {e1 : Ex} {k : Nat} {p1 p2 p3 pos : Pos} (hK : X.K = Y.K) (he : PE X a (tT Y e1)) : PE X (.Subscript a (.Slice none none (some (.UnaryOp .USub (.Constant (.int 1) k p1) p2)) p3) pos) (tE Y (.rev e1)) := by
  refine ⟨fun pins s σ H Q I h => ?_⟩
  have h' := one_op (a := e1) (g := revD) (fun ρ st => by simp only [ev, evE]) h
  refine Subscript_ (thn (he.run pins s σ H _ I h') fun v s1 ⟨x, H1, I1, r1, G, dx, dz, sg, rp, e, q⟩ => ?_)
  have hst : PO X (some (.UnaryOp .USub (.Constant (.int 1) k p1) p2)) (tPart (tUn (rU fun i => .int (-i)) (tC (.int 1)))) := po_some (pe_un un_neg pe_int)
  refine wpAny_Slice (thn (po_none.run pins s1 σ H1 (fun o H2 => o = none ∧ H2 = H1) I1 ⟨rfl, rfl⟩) fun vl s2 ⟨l, H2, I2, pl, el, e2⟩ => ?_)
  subst el e2
  refine thn (po_none.run pins s2 σ H2 (fun o H3 => o = none ∧ H3 = H2) I2 ⟨rfl, rfl⟩) fun vu s3 ⟨u, H3, I3, pu, eu, e3⟩ => ?_
  subst eu e3
  refine thn (hst.run pins s3 σ H3 (fun o H4 => o = some (-1) ∧ H4 = H3) I3 ⟨1, rfl, -1, rfl, rfl, rfl⟩) fun vs s4 ⟨o, H4, I4, ps, eo, e4⟩ => ?_
  subst eo e4
  have I5 : Inv X pins σ H4 { s4 with heap := s4.heap.push { cls := .type "slice", data := .fields #[vl, vu, vs] } } := I4.kept (t' := s4.toks) fun b ob q => Heap.get?_push_of_some _ q
  have hsl : Heap.IsSliceOf (s4.heap.push { cls := .type "slice", data := .fields #[vl, vu, vs] }) s4.heap.objs.size vl vu vs := Heap.IsSliceOf.new _ vl vu vs
  cases pl
  cases pu
  have hrev : ∀ o i, subscripted (.Slice none none (some (.UnaryOp .USub (.Constant (.int 1) k p1) p2)) p3) false o i = operate [o, i] (getItem o i) := fun o i => by with_unfolding_all rfl
  show wpAny (model X.prog X.w) X.A (subscriptTail a (.Slice none none (some (.UnaryOp .USub (.Constant (.int 1) k p1) p2)) p3) v (.ref s4.heap.objs.size)) (EP X pins σ Q) X.xe { s4 with heap := s4.heap.push { cls := .type "slice", data := .fields #[.none, .none, vs] } }
  cases dx with
  | list ys =>
    cases e
    obtain ⟨b, ws, rfl, h1, h2⟩ := rp.list sg
    cases r1
    obtain ⟨its, r, ht, hz⟩ := I5.list (.of h1)
    have hlen := r.length
    refine tail_any (ops := [.ref b, .ref s4.heap.objs.size]) ht.isList.typeIs PySem.slot_list_getitem.lookup ?_ (hrev _ _)
    refine wpAny_getItem_list_slice ht.isList hsl .none .none ps (by decide) ?_ (by rw [List.size_toArray]; omega)
    rw [PySem.W.krv_pick]
    have hn := I5.hok.fresh (Nat.le_refl _)
    refine ⟨.ref _, _, I5.laid (t' := s4.toks) (o := .lst ws.reverse) (fun b ob q => Heap.get?_push_of_some _ q) (Nat.le_refl _) ?_, rfl, q _ _ _ (Grow.one sg hn) (rep_lst hn sg h2.revs)⟩
    exact ⟨by rw [List.length_reverse]; exact hz, _, 0, r.reverse, Heap.get?_push_size _ rfl⟩
  | tuple ys =>
    cases e
    obtain ⟨b, ws, rfl, h1, h2⟩ := rp.tuple
    cases r1
    obtain ⟨its, r, ht, hz⟩ := I5.tuple (by rw [hK]; exact sg.sqT h1)
    have hlen := r.length
    refine tail_any (ops := [.ref b, .ref s4.heap.objs.size]) ht.typeIs PyProof.Rows.slot_tuple_getitem.lookup ?_ (hrev _ _)
    refine getItem_tuple_rev ht hsl ps ?_ (by rw [List.size_toArray]; omega)
    have hn := I5.hok.fresh (Nat.le_refl _)
    refine ⟨.ref _, _, I5.laid (t' := s4.toks) (o := .tup ws.reverse) (fun b ob q => Heap.get?_push_of_some _ q) (Nat.le_refl _) ?_, rfl, q _ _ _ (Grow.one sg hn) (rep_tup hn sg h2.revs)⟩
    exact ⟨by rw [List.length_reverse]; exact hz, _, r.reverse, IsTup.new _ _⟩
  | str y =>
    have e' : (if y.cps.toList.length ≤ lim then some (tx y.cps.toList.reverse) else none) = some dz := e
    split at e'
    · rename_i hl
      cases e'
      cases rp.str
      obtain ⟨t, rfl⟩ := r1
      cases ps with
      | int i tk =>
        refine tail_any (ops := [.str y t, .ref s4.heap.objs.size]) (typeIs_str _ _ _) F.slot_str_getitem.lookup ?_ (hrev _ _)
        obtain ⟨os, hos, hcs, hds⟩ := hsl
        refine wpAny_getItem_str_slice (l := none) (u := none) (st := some (-1, tk)) ⟨os, hos, hcs, hds⟩ rfl ?_
        have e2 : sliceMade y t none none (some (-1, tk)) = Made.str ⟨y.cps.toList.reverse.toArray⟩ := by
          unfold sliceMade slicePicked
          rw [if_neg (by simp)]
          show Made.str ⟨((Builtin.Str.strSliceIndices none none (-1) y.length).filterMap (y.cps[·]?)).toArray⟩ = _
          rw [rev_picks, rev_text]
        rw [e2]
        refine ⟨?_, .str ⟨y.cps.toList.reverse.toArray⟩, H4, I5.tok _, ⟨_, rfl⟩, q _ _ _ (Grow.refl sg) (rep_tx rfl)⟩
        rw [str_len, ← lim_eq]
        show (y.cps.toList.reverse.toArray).toList.length ≤ lim
        rw [List.length_reverse]
        exact hl
    · cases e'
  | _ => cases e
end
end Ip
/-! Ip9: calls of built-in functions, methods of texts, tables, the store and the script. -/
namespace Ip
open PySem PySem.Spec PyProof.Rows L2

def bname : Bi → Str
  | .len => "len"
  | .abs => "abs"
  | .max2 => "max"
  | .min2 => "min"
  | .max1 => "max"
  | .min1 => "min"
  | .all => "all"
  | .any => "any"
  | .sum => "sum"
  | .sorted => "sorted"
  | .list => "list"
  | .tuple => "tuple"
  | .int => "int"
  | _ => "?"
/-- what may be called by name alone -/
def plainBi : Bi → Bool
  | .len | .abs | .max2 | .min2 | .max1 | .min1 | .all | .any | .sum | .tuple | .int => true
  | _ => false
theorem ne_name {x : Str} (h : plainName x = true) : x ≠ "__name__" := plain_n h
section
variable {X : Cx} {C : Sc} {Y : Wd} {a b c : Expr} {e1 e2 e3 : Ex} {es : Exs} {l : List Expr} {pos : Pos}
theorem c_bi {bi : Bi} {x : Str} {p : Pos} (o : Okx X C Y) (hb : plainBi bi = true) (hn : x = bname bi) (hx : chkGl C x = true) (ha : PA X (a :: l) (tAs Y es)) (hs : noStars (a :: l) = true) : PE X (.Call (.Name x p) (a :: l) [] pos) (tE Y (.bi bi es)) := by
  obtain ⟨g1, g2⟩ := chkGl_ok o hx
  obtain ⟨s1, s2⟩ := noStars_cons hs
  have st := star_of (env := X.env) l s1
  have bk := back_of (env := X.env) (p := pos) l s2
  have nd := plain_d g2
  have nn := plain_n g2
  subst hn
  cases bi with
  | len => exact (pe_callB (b_len o.K) g1 (o.free _ (by decide)) boot_len ha nn nd st bk).imp fun σ H Q q => bi_read q
  | abs => exact (pe_callB b_abs g1 (o.free _ (by decide)) boot_abs ha nn nd st bk).imp fun σ H Q q => bi_read q
  | max2 => exact (pe_callB (b_max2 o.calm) g1 (o.free _ (by decide)) boot_max ha nn nd st bk).imp fun σ H Q q => bi_read q
  | min2 => exact (pe_callB (b_min2 o.calm) g1 (o.free _ (by decide)) boot_min ha nn nd st bk).imp fun σ H Q q => bi_read q
  | max1 => exact (pe_callB (b_max1 o.K o.calm o.hu) g1 (o.free _ (by decide)) boot_max ha nn nd st bk).imp fun σ H Q q => bi_read q
  | min1 => exact (pe_callB (b_min1 o.K o.calm o.hu) g1 (o.free _ (by decide)) boot_min ha nn nd st bk).imp fun σ H Q q => bi_read q
  | all => exact (pe_callB (b_all o.calm) g1 (o.free _ (by decide)) boot_all ha nn nd st bk).imp fun σ H Q q => bi_read q
  | any => exact (pe_callB (b_any o.calm) g1 (o.free _ (by decide)) boot_any ha nn nd st bk).imp fun σ H Q q => bi_read q
  | sum => exact (pe_callB (b_sum o.calm) g1 (o.free _ (by decide)) boot_sum ha nn nd st bk).imp fun σ H Q q => bi_read q
  | tuple => exact (pe_callTy (b_tuple o.K) g1 (o.free _ (by decide)) boot_tuple ha nn nd st bk).imp fun σ H Q q => bi_read q
  | int => exact (pe_callTy b_int g1 (o.free _ (by decide)) boot_int ha nn nd st bk).imp fun σ H Q q => bi_read q
  | _ => cases hb
theorem sorted_list (xs : List D) (dz : D) (h : biD .sorted xs = some dz) : ∃ zs, dz = .list zs := by
  obtain ⟨x, rfl, h⟩ := u1_some h
  cases x with
  | list ys =>
    have h' : (sortL ys).map PyData.list = some dz := h
    rw [Option.map_eq_some_iff] at h'
    obtain ⟨zs, _, rfl⟩ := h'
    exact ⟨zs, rfl⟩
  | _ => cases h
theorem list_list (xs : List D) (dz : D) (h : biD .list xs = some dz) : ∃ zs, dz = .list zs := by
  obtain ⟨x, rfl, h⟩ := u1_some h
  cases x with
  | list ys => cases h; exact ⟨_, rfl⟩
  | tuple ys => cases h; exact ⟨_, rfl⟩
  | dict ys => cases h; exact ⟨_, rfl⟩
  | str s =>
    have h' : (if s.cps.toList.length ≤ lim then some (PyData.list (charsD s)) else none) = some dz := h
    split at h'
    · cases h'; exact ⟨_, rfl⟩
    · cases h'
  | _ => cases h
theorem f_sorted {x : Str} {p : Pos} (o : Okx X C Y) (hn : x = "sorted") (hx : chkGl C x = true) (ha : PA X (a :: l) (tAs Y es)) (hs : noStars (a :: l) = true) : PE X (.Call (.Name x p) (a :: l) [] pos) (tF Y (.bi .sorted es)) := by
  obtain ⟨g1, g2⟩ := chkGl_ok o hx
  obtain ⟨s1, s2⟩ := noStars_cons hs
  have st := star_of (env := X.env) l s1
  have bk := back_of (env := X.env) (p := pos) l s2
  have nd := plain_d g2
  have nn := plain_n g2
  subst hn
  exact (pe_callB (b_sorted o.K o.hu) g1 (o.free _ (by decide)) boot_sorted ha nn nd st bk).imp fun σ H Q q => bi_readF sorted_list q
theorem f_list {x : Str} {p : Pos} (o : Okx X C Y) (hn : x = "list") (hx : chkGl C x = true) (ha : PA X (a :: l) (tAs Y es)) (hs : noStars (a :: l) = true) : PE X (.Call (.Name x p) (a :: l) [] pos) (tF Y (.bi .list es)) := by
  obtain ⟨g1, g2⟩ := chkGl_ok o hx
  obtain ⟨s1, s2⟩ := noStars_cons hs
  have st := star_of (env := X.env) l s1
  have bk := back_of (env := X.env) (p := pos) l s2
  have nd := plain_d g2
  have nn := plain_n g2
  subst hn
  exact (pe_callTy (b_list o.K o.calm) g1 (o.free _ (by decide)) boot_list ha nn nd st bk).imp fun σ H Q q => bi_readF list_list q
theorem ty_boot (t : Ty) : bootBuiltins (tyOf t).1 = some (.type (tyOf t).2) := by
  cases t with
  | tuple => exact boot_tuple
  | str => exact boot_str
  | int => exact boot_int
  | bool => exact boot_bool
  | list => exact boot_list
theorem ty_free (o : Okx X C Y) (t : Ty) : X.mg (tyOf t).1 = none := by
  cases t <;> exact o.free _ (by decide)
theorem one_val {g : D → Option D} {σ : L2.St} {H : Hp} {Q : VK} {r : Ev → Store → Rs Val}
    (hr : ∀ ρ st, r ρ st = (needD (ev Y e1 ρ st)).bind fun x st => Rs.of ((g x).map Val.d) st) (q : tR Y r (RlV Y) σ H Q) :
    tT Y e1 σ H fun x H1 => ∃ G dx dz, Sub G H1 ∧ RepO Y.K H1 G dx x ∧ g dx = some dz ∧ ∀ v H' G', Grow H1 G H' G' → Rep Y.K G' dz v → Q v H' := one_op hr q
theorem c_isa {t : Ty} {x y : Str} {p p2 : Pos} (o : Okx X C Y) (hn : x = "isinstance") (hx : chkGl C x = true) (hy : y = (tyOf t).1) (hy2 : chkGl C y = true) (ha : PE X a (tT Y e1)) (hs : noStar a = true) :
    PE X (.Call (.Name x p) [a, .Name y p2] [] pos) (tE Y (.bi (.isa t) (.cons e1 .nil))) := by
  obtain ⟨g1, g2⟩ := chkGl_ok o hx
  obtain ⟨g3, g4⟩ := chkGl_ok o hy2
  have st := star_of (env := X.env) [.Name y p2] hs
  have nd := plain_d g2
  have nn := plain_n g2
  have nd4 := plain_d g4
  have nn4 := plain_n g4
  subst hn
  subst hy
  have cr : CallR X (.builtin "isinstance") (fun vs H Q => ∃ G w dx, vs = [w, .ty (tyOf t).2] ∧ Sub G H ∧ RepO Y.K H G dx w ∧ Q (.bl (isaD t dx)) H) := by
    intro pins s σ H vs us Q I r ⟨G, w, dx, hv, sg, r1, q⟩
    subst hv
    cases r with
    | cons rw1 rt =>
      cases rt with
      | cons rw2 rt =>
        cases rt
        cases rw2
        exact isa_call o.K I rw1 sg r1 q
  refine (pe_callB cr g1 (o.free _ (by decide)) boot_isinstance (pa_cons ha (pa_cons (pe_bltn (v := .ty (tyOf t).2) g3 (ty_free o t) (ty_boot t) rfl nn4 nd4) pa_nil rfl) st) nn nd st rfl).imp fun σ H Q q => ?_
  obtain ⟨H0, G0, β0, ρ, st, G, β, s, p⟩ := q
  simp only [ev, evE, evs] at p
  refine ⟨H0, G0, β0, ρ, st, G, β, s, ?_⟩
  have p' : Pt Y ((needD (ev Y e1 ρ st)).bind fun x st => .ok (.d (.bool (isaD t x))) st) (RlV Y) H G β Q := by
    refine Eq.mp ?_ p
    congr 1
    cases needD (evE Y.gv Y.tv Y.cf e1 ρ st) <;> rfl
  exact (Pt.need p').mono fun u1 H1 ⟨x, st1, G1, β1, x1, l1, r1, p1⟩ => ⟨G1, u1, x, rfl, l1.sub, r1.o, p1 _ H1 G1 β1 (Ext.refl ..) l1 (rep_bool (K := Y.K) (G := G1))⟩

/-! ### methods of texts -/
def mname : Mt → Str
  | .join => "join"
  | .count => "count"
theorem smt_read {m : Mt} {σ : L2.St} {H : Hp} {Q : VK} (q : tE Y (.smt m e1 e2) σ H Q) :
    tM1 (fun x xs H Q => ∃ G dx dy dz y, xs = [y] ∧ Sub G H ∧ RepO Y.K H G dx x ∧ RepO Y.K H G dy y ∧ mtD m dx dy = some dz ∧ ∀ v H' G', Grow H G H' G' → Rep Y.K G' dz v → Q v H') (tT Y e1) (tT Y e2) σ H Q := by
  obtain ⟨H0, G0, β0, ρ, st, G, β, s, p⟩ := q
  simp only [ev, evE] at p
  refine ⟨H0, G0, β0, ρ, st, G, β, s, (Pt.need p).mono fun u1 H1 ⟨x, st1, G1, β1, x1, l1, r1, p1⟩ => ?_⟩
  cases x with
  | str x =>
    refine ⟨⟨x, r1.o.str⟩, H0, G0, β0, ρ, st1, G1, β1, s.step x1 l1, (Pt.need p1).mono fun u2 H2 ⟨y, st2, G2, β2, x2, l2, r2, p2⟩ => ?_⟩
    cases z : mtD m (.str x) y with
    | none => rw [z] at p2; exact p2.elim
    | some dz =>
      rw [z] at p2
      exact ⟨G2, _, y, dz, u2, rfl, l2.sub, (r1.step x2).o, r2.o, z, Pt.fin l2 p2⟩
  | _ => exact p1.elim
def noCall : Expr → Bool
  | .Call .. => false
  | _ => true
theorem base_of {env : Env} {n : Str} {w : Sem Value} : ∀ {e : Expr}, noCall e = true → attributeBase e n env w = w := by
  intro e h
  cases e with
  | Call => cases h
  | _ => rfl
theorem c_smt {m : Mt} {x : Str} {apos : Pos} (o : Okx X C Y) (hx : x = mname m) (ha : PE X a (tT Y e1)) (hb : PE X b (tT Y e2)) (hs : noStar b = true) (hc : noCall a = true) (hl : (apos.endLine == pos.line) = true) :
    PE X (.Call (.Attribute a x apos) [b] [] pos) (tE Y (.smt m e1 e2)) := by
  subst hx
  cases m with
  | join => exact (pe_m1 F.slot_str_join F.type_str_join (m_join o.K) ha hb (star_of [] hs) (base_of hc) hl).imp fun σ H Q q => smt_read q
  | count => exact (pe_m1 F.slot_str_count F.type_str_count (m_count) ha hb (star_of [] hs) (base_of hc) hl).imp fun σ H Q q => smt_read q

/-! ### written tables -/
theorem c_tab {g : Nat} {x : Str} {p : Pos} (o : Okx X C Y) (ht : C.tname g = some x) (hx : chkGl C x = true) (hb : PE X b (tT Y e1)) (hs : notSlice b = true) : PE X (.Subscript (.Name x p) b pos) (tE Y (.tab g e1)) := by
  obtain ⟨g1, g2⟩ := chkGl_ok o hx
  obtain ⟨fa, h1, h2⟩ := o.tab g x ht
  refine (pe_ix ix_kdict (pe_glob (v := .ref fa) g1 h1 rfl (plain_d g2)) hb (plainIx_of hs)).imp fun σ H Q q => ?_
  obtain ⟨H0, G0, β0, ρ, st, G, β, s, p⟩ := q
  simp only [ev, evE] at p
  refine ⟨H0, G0, β0, ρ, st, G, β, s, (Pt.need p).mono fun u1 H1 ⟨x, st1, G1, β1, x1, l1, r1, p1⟩ => ?_⟩
  cases x with
  | str x =>
    cases z : getK (Y.tv g) (.str x) with
    | none => dsimp only at p1; rw [z] at p1; exact p1.elim
    | some d =>
      dsimp only at p1
      rw [z] at p1
      obtain ⟨v, k, r⟩ := h2 x d z
      exact ⟨fa, x, v, rfl, r1.o.str, k, p1 v H1 G1 β1 (Ext.refl ..) l1 (r G1)⟩
  | _ => exact p1.elim

/-! ### the script, the town -/
theorem var_read {i : Nat} {x : Val} {σ : L2.St} {H : Hp} {H0 G0 G : Hp} {β0 β : List Addr} {ρ : Ev} {st : Store} (s : ST Y.K H0 G0 β0 ρ st σ H G β) (h : (ρ[i]?).bind Slot.val = some x) : ∃ v, σ[i]? = some (some v) ∧ RepV Y.K G β x v := by
  cases e : ρ[i]? with
  | none => rw [e] at h; cases h
  | some t =>
    obtain ⟨ov, h4, h5⟩ := s.slot i t e
    rw [e] at h
    cases t with
    | v y =>
      cases h
      obtain ⟨v, rfl, r⟩ := h5
      exact ⟨v, h4, r⟩
    | _ => cases h
theorem c_lenL {i : Nat} {x y : Str} {p p2 : Pos} (o : Okx X C Y) (hn : y = "len") (hy : chkGl C y = true) (h : chkVar C i x = true) : PE X (.Call (.Name y p) [.Name x p2] [] pos) (tE Y (.lenL i)) := by
  obtain ⟨h1, h2, h3⟩ := chkVar_ok o h
  obtain ⟨g1, g2⟩ := chkGl_ok o hy
  have nd := plain_d g2
  have nn := plain_n g2
  subst hn
  refine (pe_callB call_len g1 (o.free _ (by decide)) boot_len (pa_cons (pe_var h1 h2 (plain_d h3) (plain_c h3)) pa_nil rfl) nn nd rfl rfl).imp fun σ H Q q => ?_
  obtain ⟨H0, G0, β0, ρ, st, G, β, s, p⟩ := q
  simp only [ev, evE] at p
  split at p
  · rename_i n e
    obtain ⟨v, hv, a, ha, rfl⟩ := var_read s e
    split at p
    · rename_i xs hst
      obtain ⟨b, hb, vs, hl, hr⟩ := s.lay.cell n _ hst
      rw [ha] at hb
      cases hb
      exact ⟨_, hv, _, _, rfl, .inl ⟨vs, .of hl, rfl⟩, by rw [← hr.length]; exact p _ H G β (Ext.refl ..) s.lay (rep_int (K := Y.K) (G := G))⟩
    · exact p.elim
  · exact p.elim
theorem c_lenS {i : Nat} {x y : Str} {p p2 : Pos} (o : Okx X C Y) (hn : y = "len") (hy : chkGl C y = true) (h : chkVar C i x = true) : PE X (.Call (.Name y p) [.Name x p2] [] pos) (tE Y (.lenS i)) := by
  obtain ⟨h1, h2, h3⟩ := chkVar_ok o h
  obtain ⟨g1, g2⟩ := chkGl_ok o hy
  have nd := plain_d g2
  have nn := plain_n g2
  subst hn
  refine (pe_callB call_len g1 (o.free _ (by decide)) boot_len (pa_cons (pe_var h1 h2 (plain_d h3) (plain_c h3)) pa_nil rfl) nn nd rfl rfl).imp fun σ H Q q => ?_
  obtain ⟨H0, G0, β0, ρ, st, G, β, s, p⟩ := q
  simp only [ev, evE] at p
  split at p
  · rename_i ns e
    obtain ⟨v, hv, a, rfl, hl⟩ := var_read s e
    refine ⟨_, hv, _, _, rfl, .inl ⟨_, by rw [o.K]; exact s.lay.sub.sqL hl, rfl⟩, ?_⟩
    rw [List.length_map]
    exact p _ H G β (Ext.refl ..) s.lay (rep_int (K := Y.K) (G := G))
  · exact p.elim
theorem c_idxS {i : Nat} {x : Str} {p : Pos} (o : Okx X C Y) (h : chkVar C i x = true) (hb : PE X b (tT Y e1)) (hs : notSlice b = true) : PE X (.Subscript (.Name x p) b pos) (tE Y (.idxS i e1)) := by
  obtain ⟨h1, h2, h3⟩ := chkVar_ok o h
  refine (pe_ix ix_list (pe_var h1 h2 (plain_d h3) (plain_c h3)) hb (plainIx_of hs)).imp fun σ H Q q => ?_
  obtain ⟨H0, G0, β0, ρ, st, G, β, s, p⟩ := q
  simp only [ev, evE] at p
  split at p
  · rename_i ns e
    obtain ⟨v, hv, a, rfl, hl⟩ := var_read s e
    refine ⟨_, hv, H0, G0, β0, ρ, st, G, β, s, (Pt.need p).mono fun u1 H1 ⟨y, st1, G1, β1, x1, l1, r1, p1⟩ => ?_⟩
    cases y with
    | int j =>
      dsimp only at p1
      cases z : (ixZ ns.length j).bind fun k => ns[k]? with
      | none => rw [z] at p1; exact p1.elim
      | some n =>
        rw [z] at p1
        refine ⟨a, _, j, .int n, rfl, r1.o.int, by rw [o.K]; exact l1.sub.sqL (x1.sub.sqL hl), ?_, p1 _ H1 G1 β1 (Ext.refl ..) l1 (rep_int (K := Y.K) (G := G1))⟩
        unfold atI
        rw [List.length_map]
        have hz : ixN ns.length j = ixZ ns.length j := rfl
        rw [hz]
        cases z2 : ixZ ns.length j with
        | none => rw [z2] at z; cases z
        | some k =>
          rw [z2] at z
          show (ns.map V.int)[k]? = _
          rw [List.getElem?_map]
          show Option.map V.int (ns[k]?) = _
          have z' : ns[k]? = some n := z
          rw [z']
          rfl
    | _ => exact p1.elim
  · exact p.elim
end
end Ip
/-! Ip10: targets, what is walked, comprehensions. -/
namespace Ip
open PySem PySem.Spec PyProof.Rows L2

section
variable {X : Cx} {C : Sc} {Y : Wd} {a b c : Expr} {e1 e2 e3 : Ex} {es : Exs} {l : List Expr} {pos : Pos}
/-! ### script == [] -/
theorem ints_reads {h : Heap} : ∀ (ns : List Int) (us : List Value), Vals (ns.map V.int) us → ReadsAll h us (ns.map PyData.int) []
  | [], _, r => by cases r; exact .nil
  | n :: ns, _, r => by
    cases r with
    | cons r1 r2 =>
      obtain ⟨t, rfl⟩ := r1
      exact .cons (.int n t) (ints_reads ns _ r2)
theorem ints_plain : ∀ ns : List Int, PyData.plainAll (ns.map PyData.int) = true
  | [] => rfl
  | n :: ns => by rw [List.map_cons, PyData.plainAll, ints_plain ns]; rfl
theorem op_nilS (hu : X.A.units + 200 < cLine) : OpR X (compareOp .Eq) (fun x y H Q => ∃ (a b : Addr) (ns : List Int), x = .ref a ∧ y = .ref b ∧ SqL X.K H a (ns.map V.int) ∧ H b = some (.lst []) ∧ Q (.bl ns.isEmpty) H) := by
  intro pins s σ H x y v u Q I rx ry ⟨a, b, ns, hx, hy, ha, hb, q⟩
  subst hx
  subst hy
  cases rx
  cases ry
  obtain ⟨its, rv, ⟨o, n, ho, hc, _, hd⟩, _⟩ := I.list ha
  obtain ⟨its2, rv2, ⟨o2, n2, ho2, hc2, _, hd2⟩, _⟩ := I.list (.of hb)
  cases rv2
  have z1 : Reads s.heap (.ref a) (.list (ns.map PyData.int)) [a] := .list ho hc hd (by simpa using ints_reads ns its rv)
  have z2 : Reads s.heap (.ref b) (.list []) [b] := .list ho2 hc2 hd2 .nil
  refine PySem.SeqAt.eq_plain z1 z2 (by rw [PyData.plain]; exact ints_plain ns) rfl ?_ ⟨.bl ns.isEmpty, H, I, ?_, q⟩
  · rw [PyData.depth, PySem.W.depth_ints]
    omega
  · cases ns <;> rfl
theorem nilS_read {i : Nat} {σ : L2.St} {H : Hp} {Q : VK} (hK : X.K = Y.K) (q : tE Y (.nilS i) σ H Q) :
    tOp (fun x y H Q => ∃ (a b : Addr) (ns : List Int), x = .ref a ∧ y = .ref b ∧ SqL X.K H a (ns.map V.int) ∧ H b = some (.lst []) ∧ Q (.bl ns.isEmpty) H) (tVar i) (tLst tNil) σ H Q := by
  obtain ⟨H0, G0, β0, ρ, st, G, β, s, p⟩ := q
  simp only [ev, evE] at p
  split at p
  · rename_i ns e
    obtain ⟨v, hv, a, rfl, hl⟩ := var_read s e
    refine ⟨_, hv, by show (0 : Nat) ≤ sizeLine; omega, fun b hb => ?_⟩
    have g := Grow.one (o := .lst []) s.lay.sub hb
    exact ⟨a, b, ns, rfl, rfl, by rw [hK]; exact (upd_sub hb).sqL (s.lay.sub.sqL hl), upd_same, p _ _ _ _ (g.ext β) (g.lay s.lay) (show Rep Y.K (upd G b (.lst [])) (.bool ns.isEmpty) (.bl ns.isEmpty) from rep_bool)⟩
  · exact p.elim
theorem c_nilS {i : Nat} {x : Str} {p p2 : Pos} (o : Okx X C Y) (h : chkVar C i x = true) : PE X (.Compare (.Name x p) [.Eq] [.List [] p2] pos) (tE Y (.nilS i)) := by
  obtain ⟨h1, h2, h3⟩ := chkVar_ok o h
  exact (pe_cmpR (op_nilS o.hu) (pe_var h1 h2 (plain_d h3) (plain_c h3)) (pe_lst pa_nil) rfl).imp fun σ H Q q => nilS_read o.K q

/-! ### targets -/
mutual
def Tg.binds : Tg → List Nat
  | .name i => [i]
  | .tup ts => ts.binds
def Tgs.binds : Tgs → List Nat
  | .nil => []
  | .cons t r => t.binds ++ r.binds
end
/-- alike but for these -/
def Off (is : List Nat) (σ σ' : L2.St) : Prop := ∀ j, j ∉ is → σ'[j]? = σ[j]?
def gT (Y : Wd) (t : Tg) : TG := fun v σ H Q => ∃ H0 G0 β0 ρ st G β d ρ', ST Y.K H0 G0 β0 ρ st σ H G β ∧ Rep Y.K G d v ∧ t.put d ρ = some ρ' ∧ ∀ σ', Off t.binds σ σ' → ST Y.K H0 G0 β0 ρ' st σ' H G β → Q σ' H
def gTs (Y : Wd) (t : Tgs) : TGs := fun vs σ H Q => ∃ H0 G0 β0 ρ st G β ds ρ', ST Y.K H0 G0 β0 ρ st σ H G β ∧ Reps Y.K G ds vs ∧ t.puts ds ρ = some ρ' ∧ ∀ σ', Off t.binds σ σ' → ST Y.K H0 G0 β0 ρ' st σ' H G β → Q σ' H
theorem ST.put {K : Fg} {H0 G0 H G : Hp} {β0 β : List Addr} {ρ : Ev} {st : Store} {σ : L2.St} (s : ST K H0 G0 β0 ρ st σ H G β) (i : Nat) {x : Val} {v : V} (r : RepV K G β x v) : ST K H0 G0 β0 (ρ.set i (.v x)) st (σ.set i (some v)) H G β := by
  refine ⟨s.lay, s.ext, by simp [s.len], fun j t ht => ?_, fun j k t u p ht hu ot ou hj hk => ?_⟩
  · rw [List.getElem?_set] at ht ⊢
    split at ht
    · rename_i e
      subst e
      split at ht
      · rename_i hl
        cases ht
        rw [if_pos rfl, if_pos (by rw [← s.len]; exact hl)]
        exact ⟨some v, rfl, v, rfl, r⟩
      · cases ht
    · rename_i e
      rw [if_neg e]
      exact s.slot j t ht
  · rw [List.getElem?_set] at ht hu hj hk
    by_cases e1 : i = j
    · rw [if_pos e1] at ht
      split at ht
      · cases ht; cases ot
      · cases ht
    · by_cases e2 : i = k
      · rw [if_pos e2] at hu
        split at hu
        · cases hu; cases ou
        · cases hu
      · rw [if_neg e1] at ht hj
        rw [if_neg e2] at hu hk
        exact s.apart j k t u p ht hu ot ou hj hk
theorem c_name {i : Nat} {x : Str} (o : Okx X C Y) (h : X.N[i]? = some x) (hx : Loc X.env.scope x) (hf : X.fn x = true ∨ X.env.scope.names.lookup x = some .local) : PG X (.Name x pos) (gT Y (.name i)) := by
  refine ⟨fun pins s σ H v u Q I r h' => (pg_name o.nd h hx hf).run pins s σ H v u Q I r ?_⟩
  obtain ⟨H0, G0, β0, ρ, st, G, β, d, ρ', t, rp, hp, k⟩ := h'
  simp only [Tg.put] at hp
  split at hp
  · cases hp
    exact k _ (fun j hj => by
      rw [List.getElem?_set, if_neg]
      simp only [Tg.binds, List.mem_cons, List.not_mem_nil, or_false] at hj
      exact fun e => hj e.symm) (t.put i (x := .d d) rp)
  · cases hp
theorem c_tgnil : PGs X [] (gTs Y .nil) := by
  refine ⟨fun pins s σ H vs us Q I r h' => pgs_nil.run pins s σ H vs us Q I r ?_⟩
  obtain ⟨H0, G0, β0, ρ, st, G, β, ds, ρ', t, rp, hp, k⟩ := h'
  match ds, vs, rp, hp with
  | [], [], _, hp =>
    simp only [Tgs.puts, Option.some.injEq] at hp
    subst hp
    exact ⟨rfl, k σ (fun _ _ => rfl) t⟩
theorem assignEach_cons {env : Env} : ∀ {e : Expr} (es : List Expr), noStar e = true → assignEach (e :: es) env = (false, assign e env) :: assignEach es env := by
  intro e es h
  cases e with
  | Starred => cases h
  | _ => rfl
theorem c_tgcons {t : Tg} {r : Tgs} (h1 : PG X a (gT Y t)) (h2 : PGs X l (gTs Y r)) (hs : noStar a = true) : PGs X (a :: l) (gTs Y (.cons t r)) := by
  refine ⟨fun pins s σ H vs us Q I rv h' => (pgs_cons h1 h2 (by rw [assignEach_cons l hs]; rfl)).run pins s σ H vs us Q I rv ?_⟩
  obtain ⟨H0, G0, β0, ρ, st, G, β, ds, ρ', s0, rp, hp, k⟩ := h'
  match ds, vs, rp, hp with
  | [], _, _, hp => simp [Tgs.puts] at hp
  | d :: ds, v :: vs, rp, hp =>
    rw [Reps] at rp
    simp only [Tgs.puts] at hp
    cases z : t.put d ρ with
    | none => rw [z] at hp; cases hp
    | some ρ1 =>
      rw [z] at hp
      refine ⟨v, vs, rfl, H0, G0, β0, ρ, st, G, β, d, ρ1, s0, rp.1, z, fun σ1 o1 s1 => ?_⟩
      refine ⟨H0, G0, β0, ρ1, st, G, β, ds, ρ', s1, rp.2, hp, fun σ2 o2 s2 => k σ2 (fun j hj => ?_) s2⟩
      simp only [Tgs.binds, List.mem_append, not_or] at hj
      rw [o2 j hj.2, o1 j hj.1]
  | _ :: _, [], rp, _ => simp [Reps] at rp
theorem assignEach_len {env : Env} : ∀ (es : List Expr), noStars es = true → (assignEach es env).length = es.length ∧ (assignEach es env).findIdx? (·.1) = none
  | [], _ => ⟨rfl, rfl⟩
  | e :: r, h => by
    obtain ⟨h1, h2⟩ := noStars_cons h
    obtain ⟨i1, i2⟩ := assignEach_len (env := env) r h2
    rw [assignEach_cons r h1]
    refine ⟨by simp [i1], ?_⟩
    rw [List.findIdx?_cons, i2]
    rfl
def Tgs.len : Tgs → Nat
  | .nil => 0
  | .cons _ r => r.len + 1
theorem puts_len : ∀ {t : Tgs} {xs : List D} {ρ ρ' : Ev}, t.puts xs ρ = some ρ' → xs.length = t.len
  | .nil, [], _, _, _ => rfl
  | .cons t r, x :: xs, ρ, ρ', h => by
    simp only [Tgs.puts] at h
    cases z : t.put x ρ with
    | none => rw [z] at h; cases h
    | some ρ1 =>
      rw [z] at h
      show xs.length + 1 = _
      rw [puts_len h]
      rfl
  | .nil, _ :: _, _, _, h => by simp [Tgs.puts] at h
  | .cons _ _, [], _, _, h => by simp [Tgs.puts] at h
theorem c_tgtup {ts : Tgs} {k : Nat} (o : Okx X C Y) (h : PGs X l (gTs Y ts)) (hs : noStars l = true) (hl : l.length = ts.len) : PG X (.Tuple l k pos) (gT Y (.tup ts)) := by
  obtain ⟨i1, i2⟩ := assignEach_len (env := X.env) l hs
  refine ⟨fun pins s σ H v u Q I rv h' => (pg_tup o.calm h i1 i2).run pins s σ H v u Q I rv ?_⟩
  obtain ⟨H0, G0, β0, ρ, st, G, β, d, ρ', s0, rp, hp, kk⟩ := h'
  simp only [Tg.put] at hp
  split at hp
  · rename_i xs
    rw [Rep] at rp
    obtain ⟨p, vs, rfl, q, rs⟩ := rp
    exact ⟨p, vs, rfl, by rw [o.K]; exact s0.lay.sub.sqT q, by rw [← rs.length, puts_len hp, hl], H0, G0, β0, ρ, st, G, β, xs, ρ', s0, rs, hp, kk⟩
  · cases hp

/-! ### what is walked -/
/-- the reading with the heap's own facts at hand -/
theorem _root_.L2.PE.inv {t : TE} (h : PE X a t) : PE X a (fun σ H Q => t σ H fun v H' => (∃ pins s, L2.Inv X pins σ H' s) → Q v H') := ⟨fun pins s σ H Q I q => thn (h.run pins s σ H _ I q) fun u s1 ⟨v, H1, I1, r1, q1⟩ => ⟨v, H1, I1, r1, q1 ⟨pins, s1, I1⟩⟩⟩
def Wk (K : Fg) (Gm : Hp) (J : L2.It) (xs : List D) : Prop := xs.length ≤ sizeLine ∧ ∀ (H G : Hp) (i : Nat), Sub Gm G → Sub G H →
  (∀ d, xs[i]? = some d → J.go i H ∧ ∀ x H', J.yld i H x H' → ∃ G', Grow H G H' G' ∧ Rep K G' d x) ∧ (xs[i]? = none → J.stop i H)
abbrev tI (Y : Wd) (it : It) : TI := tR Y (evI Y.gv Y.tv Y.cf it) (fun _ G _ xs J => Wk Y.K G J xs)
theorem wk_list {K : Fg} {G : Hp} {p : Addr} {ys : List D} {vs : List V} (h : G p = some (.lst vs)) (r : Reps K G ys vs) (hz : vs.length ≤ sizeLine) : Wk K G (Itl K p) ys := by
  refine ⟨by rw [r.length]; exact hz, fun H G1 i s1 s2 => ⟨fun d hd => ?_, fun hn => ?_⟩⟩
  · obtain ⟨v, hv, rv⟩ := r.get hd
    refine ⟨⟨vs, v, .of (s2 _ _ (s1 _ _ h)), hv⟩, fun x H' ⟨e, hx⟩ => ?_⟩
    subst e
    have := hx vs (.of (s2 _ _ (s1 _ _ h)))
    rw [hv] at this
    cases this
    exact ⟨G1, Grow.refl s2, Rep.mono s1 _ _ rv⟩
  · refine ⟨vs, .of (s2 _ _ (s1 _ _ h)), ?_⟩
    rw [← r.length]
    exact List.getElem?_eq_none_iff.mp hn
/-- the data item's own walk -/
theorem wk_tup {K : Fg} {G : Hp} {p : Addr} {ys : List D} {vs : List V} (h : SqT K G p vs) (r : Reps K G ys vs) (hz : vs.length ≤ sizeLine) : Wk K G (Itt K p) ys := by
  refine ⟨by rw [r.length]; exact hz, fun H G1 i s1 s2 => ⟨fun d hd => ?_, fun hn => ?_⟩⟩
  · obtain ⟨v, hv, rv⟩ := r.get hd
    refine ⟨⟨vs, v, s2.sqT (s1.sqT h), hv⟩, fun x H' ⟨e, hx⟩ => ?_⟩
    subst e
    have := hx vs (s2.sqT (s1.sqT h))
    rw [hv] at this
    cases this
    exact ⟨G1, Grow.refl s2, Rep.mono s1 _ _ rv⟩
  · refine ⟨vs, s2.sqT (s1.sqT h), ?_⟩
    rw [← r.length]
    exact List.getElem?_eq_none_iff.mp hn
theorem wk_str {K : Fg} {G : Hp} (x : Str) (hz : x.cps.toList.length ≤ sizeLine) : Wk K G (Its x) (charsD x) := by
  unfold charsD
  refine ⟨by rw [List.length_map]; exact hz, fun H G1 i s1 s2 => ⟨fun d hd => ?_, fun hn => ?_⟩⟩
  · rw [List.getElem?_map, Option.map_eq_some_iff] at hd
    obtain ⟨c, hc, rfl⟩ := hd
    refine ⟨?_, fun v H' ⟨e, c', hc', hv⟩ => ?_⟩
    · have := (List.getElem?_eq_some_iff.mp hc).1
      show i < x.cps.size
      simpa using this
    · subst e
      subst hv
      rw [Array.getElem?_toList, hc'] at hc
      cases hc
      exact ⟨G1, Grow.refl s2, rep_tx rfl⟩
  · rw [List.getElem?_eq_none_iff, List.length_map] at hn
    show x.cps.size ≤ i
    simpa using hn
theorem c_seq (o : Okx X C Y) {tg : Expr} (he : PE X a (tE Y e1)) : PI X tg a (tI Y (.seq e1)) := by
  refine ⟨fun pins s σ H R I h => ?_⟩
  obtain ⟨H0, G0, β0, ρ, st, G, β, s0, p⟩ := h
  simp only [evI] at p
  cases z : evE Y.gv Y.tv Y.cf e1 ρ st with
  | bad => rw [z] at p; exact p.elim
  | exc c st1 =>
    rw [z] at p
    refine (pi_list (tg := tg) he.inv).run pins s σ H R I ⟨H0, G0, β0, ρ, st, G, β, s0, ?_⟩
    unfold ev
    rw [z]
    exact p
  | ok x st1 =>
    rw [z] at p
    cases x with
    | loc n => exact p.elim
    | scr n => exact p.elim
    | d x =>
      cases x with
      | list ys =>
        refine (pi_list (tg := tg) he.inv).run pins s σ H R I ⟨H0, G0, β0, ρ, st, G, β, s0, ?_⟩
        unfold ev
        rw [z]
        intro u H1 G1 β1 x1 l1 r1 ⟨pins1, s1, I1⟩
        have r1' : Rep Y.K G1 (.list ys) u := r1
        rw [Rep] at r1'
        obtain ⟨q, vs, rfl, hq, rs⟩ := r1'
        refine ⟨q, rfl, ⟨vs, .of (l1.sub _ _ hq)⟩, ?_⟩
        obtain ⟨_, _, _, hz⟩ := I1.list (X := X) (.of (l1.sub _ _ hq))
        rw [o.K]
        exact p _ H1 G1 β1 x1 l1 (wk_list hq rs hz)
      | tuple ys =>
        refine (pi_tup (tg := tg) he.inv).run pins s σ H R I ⟨H0, G0, β0, ρ, st, G, β, s0, ?_⟩
        unfold ev
        rw [z]
        intro u H1 G1 β1 x1 l1 r1 ⟨pins1, s1, I1⟩
        have r1' : Rep Y.K G1 (.tuple ys) u := r1
        rw [Rep] at r1'
        obtain ⟨q, vs, rfl, hq, rs⟩ := r1'
        have hq' : SqT X.K H1 q vs := by rw [o.K]; exact l1.sub.sqT hq
        refine ⟨q, rfl, ⟨vs, hq'⟩, ?_⟩
        obtain ⟨_, _, _, hz⟩ := I1.tuple hq'
        rw [o.K]
        exact p _ H1 G1 β1 x1 l1 (wk_tup hq rs hz)
      | str y =>
        simp only [needD, bind_ok, Val.dat, of_some, seqD] at p
        split at p
        · rename_i hl
          refine (pi_str (tg := tg) he).run pins s σ H R I ⟨H0, G0, β0, ρ, st, G, β, s0, ?_⟩
          unfold ev
          rw [z]
          intro u H1 G1 β1 x1 l1 r1
          have r1' : Rep Y.K G1 (.str y) u := r1
          rw [Rep] at r1'
          exact ⟨y, r1', p _ H1 G1 β1 x1 l1 (wk_str y (by rw [← lim_eq]; exact hl))⟩
        · exact p.elim
      | _ => exact p.elim
theorem wk_rng {K : Fg} {G : Hp} (lo hi : Int) (hz : rngOk lo hi = true) : Wk K G (Itr lo (hi - lo).toNat) (rngD lo hi) := by
  unfold rngOk at hz
  simp only [Bool.and_eq_true, decide_eq_true_eq] at hz
  unfold rngD
  refine ⟨by rw [List.length_map, List.length_range, sizeLine_eq]; omega, fun H G1 i s1 s2 => ⟨fun d hd => ?_, fun hn => ?_⟩⟩
  · rw [List.getElem?_map, Option.map_eq_some_iff] at hd
    obtain ⟨k, hk, rfl⟩ := hd
    have hi' := (List.getElem?_eq_some_iff.mp hk).1
    rw [List.length_range] at hi'
    rw [List.getElem?_range hi'] at hk
    cases hk
    refine ⟨hi', fun v H' ⟨e, hv⟩ => ?_⟩
    subst e
    subst hv
    exact ⟨G1, Grow.refl s2, rep_int⟩
  · rw [List.getElem?_eq_none_iff, List.length_map, List.length_range] at hn
    exact hn
theorem one_arg {tg : Expr} {t : TE} (h : PE X a t) (hs : noStar a = true) : PA X [a] (tCons t tNil) := pa_cons h pa_nil (star_of [] hs)
theorem c_rng1 {x : Str} {p tp : Pos} {tg : Expr} (o : Okx X C Y) (hn : x = "range") (hx : chkGl C x = true) (ha : PE X a (tT Y e1)) (hs : noStar a = true) : PI X tg (.Call (.Name x p) [a] [] pos) (tI Y (.rng1 e1)) := by
  obtain ⟨g1, g2⟩ := chkGl_ok o hx
  subst hn
  refine ⟨fun pins s σ H R I h => (pi_range1 g1 (o.free _ (by decide)) (pa_cons ha pa_nil (star_of [] hs)) (star_of [] hs)).run pins s σ H R I ?_⟩
  obtain ⟨H0, G0, β0, ρ, st, G, β, s0, p⟩ := h
  simp only [evI] at p
  refine ⟨H0, G0, β0, ρ, st, G, β, s0, (Pt.need p).mono fun u1 H1 ⟨y, st1, G1, β1, x1, l1, r1, p1⟩ => ?_⟩
  cases y with
  | int j =>
    dsimp only at p1
    split at p1
    · rename_i hz
      have hz' := hz
      unfold rngOk at hz'
      simp only [Bool.and_eq_true, decide_eq_true_eq] at hz'
      have h62 : (2 : Int) ^ 62 = 4611686018427387904 := by decide
      refine ⟨j, by rw [r1.o.int], by omega, by omega, ?_⟩
      have := wk_rng (K := Y.K) (G := G1) 0 j hz
      rw [Int.sub_zero] at this
      exact p1 _ H1 G1 β1 (Ext.refl ..) l1 this
    · exact p1.elim
  | _ => exact p1.elim
theorem c_rng2 {x : Str} {p tp : Pos} {tg : Expr} (o : Okx X C Y) (hn : x = "range") (hx : chkGl C x = true) (ha : PE X a (tT Y e1)) (hb : PE X b (tT Y e2)) (hs : noStar a = true) (hs2 : noStar b = true) :
    PI X tg (.Call (.Name x p) [a, b] [] pos) (tI Y (.rng2 e1 e2)) := by
  obtain ⟨g1, g2⟩ := chkGl_ok o hx
  subst hn
  have hst : starEach [a, b] X.env = [(false, eval a X.env), (false, eval b X.env)] := by rw [star_of [b] hs, star_of [] hs2]; rfl
  refine ⟨fun pins s σ H R I h => (pi_range2 g1 (o.free _ (by decide)) (pa_cons ha (pa_cons hb pa_nil (star_of [] hs2)) (star_of [b] hs)) hst (star_of [] hs2)).run pins s σ H R I ?_⟩
  obtain ⟨H0, G0, β0, ρ, st, G, β, s0, p⟩ := h
  simp only [evI] at p
  refine ⟨H0, G0, β0, ρ, st, G, β, s0, (Pt.need p).mono fun u1 H1 ⟨y, st1, G1, β1, x1, l1, r1, p1⟩ => ?_⟩
  refine ⟨H0, G0, β0, ρ, st1, G1, β1, s0.step x1 l1, (Pt.need p1).mono fun u2 H2 ⟨z, st2, G2, β2, x2, l2, r2, p2⟩ => ?_⟩
  cases y with
  | int i =>
    cases z with
    | int j =>
      dsimp only at p2
      split at p2
      · rename_i hz
        have hz' := hz
        unfold rngOk at hz'
        simp only [Bool.and_eq_true, decide_eq_true_eq] at hz'
        have h62 : (2 : Int) ^ 62 = 4611686018427387904 := by decide
        refine ⟨i, j, by rw [r1.o.int, r2.o.int], ⟨by omega, by omega, by omega, by omega⟩, ?_⟩
        exact p2 _ H2 G2 β2 (Ext.refl ..) l2 (wk_rng (K := Y.K) (G := G2) i j hz)
      · exact p2.elim
    | _ => exact p2.elim
  | _ => exact p2.elim
theorem enumD_get : ∀ (xs : List D) (k i : Nat) (d : D), (enumD k xs)[i]? = some d → ∃ x, xs[i]? = some x ∧ d = .tuple [.int ((k + i : Nat) : Int), x]
  | [], k, i, d, h => by simp [enumD] at h
  | x :: xs, k, 0, d, h => by
    simp only [enumD, List.getElem?_cons_zero, Option.some.injEq] at h
    exact ⟨x, rfl, by rw [← h]; rfl⟩
  | x :: xs, k, i + 1, d, h => by
    simp only [enumD, List.getElem?_cons_succ] at h
    obtain ⟨y, h1, h2⟩ := enumD_get xs (k + 1) i d h
    exact ⟨y, by simpa using h1, by rw [h2]; congr 3; omega⟩
theorem enumD_len : ∀ (xs : List D) (k : Nat), (enumD k xs).length = xs.length
  | [], _ => rfl
  | _ :: xs, k => by simp [enumD, enumD_len xs]
theorem wk_enum {K : Fg} {G : Hp} {p : Addr} {ys : List D} {vs : List V} (h : G p = some (.lst vs)) (r : Reps K G ys vs) (hz : vs.length ≤ sizeLine) : Wk K G (Ite K p) (enumD 0 ys) := by
  refine ⟨by rw [enumD_len, r.length]; exact hz, fun H G1 i s1 s2 => ⟨fun d hd => ?_, fun hn => ?_⟩⟩
  · obtain ⟨x, hx, rfl⟩ := enumD_get _ _ _ _ hd
    obtain ⟨v, hv, rv⟩ := r.get hx
    refine ⟨⟨vs, v, .of (s2 _ _ (s1 _ _ h)), hv⟩, fun y H' ⟨T, w, e1, e2, e3, hw⟩ => ?_⟩
    subst e1
    subst e3
    have := hw vs (.of (s2 _ _ (s1 _ _ h)))
    rw [hv] at this
    cases this
    refine ⟨_, Grow.one s2 e2, rep_tup e2 s2 (Reps.cons ?_ (Reps.cons (Rep.mono s1 _ _ rv) Reps.nil))⟩
    rw [Nat.zero_add]
    exact rep_int
  · refine ⟨vs, .of (s2 _ _ (s1 _ _ h)), ?_⟩
    rw [← r.length]
    rw [List.getElem?_eq_none_iff, enumD_len] at hn
    exact hn
theorem zipD_get : ∀ (xs ys : List D) (i : Nat) (d : D), (zipD xs ys)[i]? = some d → ∃ x y, xs[i]? = some x ∧ ys[i]? = some y ∧ d = .tuple [x, y]
  | [], _, i, d, h => by simp [zipD] at h
  | _ :: _, [], i, d, h => by simp [zipD] at h
  | x :: xs, y :: ys, 0, d, h => by
    simp only [zipD, List.getElem?_cons_zero, Option.some.injEq] at h
    exact ⟨x, y, rfl, rfl, h.symm⟩
  | x :: xs, y :: ys, i + 1, d, h => by
    simp only [zipD, List.getElem?_cons_succ] at h
    obtain ⟨a, b, h1, h2, h3⟩ := zipD_get xs ys i d h
    exact ⟨a, b, by simpa using h1, by simpa using h2, h3⟩
theorem zipD_len : ∀ (xs ys : List D), (zipD xs ys).length = min xs.length ys.length
  | [], _ => by simp [zipD]
  | _ :: _, [] => by simp [zipD]
  | _ :: xs, _ :: ys => by simp only [zipD, List.length_cons, zipD_len xs ys]; omega
theorem wk_zip {K : Fg} {G : Hp} {p q : Addr} {ys zs : List D} {vs us : List V} (h : G p = some (.lst vs)) (r : Reps K G ys vs) (hz : vs.length ≤ sizeLine) (h2 : G q = some (.lst us)) (r2 : Reps K G zs us) : Wk K G (Itz K p q) (zipD ys zs) := by
  refine ⟨by rw [zipD_len, r.length]; omega, fun H G1 i s1 s2 => ⟨fun d hd => ?_, fun hn => ?_⟩⟩
  · obtain ⟨x, x2, hx, hx2, rfl⟩ := zipD_get _ _ _ _ hd
    obtain ⟨v, hv, rv⟩ := r.get hx
    obtain ⟨w, hw, rw'⟩ := r2.get hx2
    refine ⟨⟨vs, us, v, w, .of (s2 _ _ (s1 _ _ h)), .of (s2 _ _ (s1 _ _ h2)), hv, hw⟩, fun y H' ⟨T, v', w', e1, e2, e3, hv', hw'⟩ => ?_⟩
    subst e1
    subst e3
    have t1 := hv' vs (.of (s2 _ _ (s1 _ _ h)))
    have t2 := hw' us (.of (s2 _ _ (s1 _ _ h2)))
    rw [hv] at t1
    rw [hw] at t2
    cases t1
    cases t2
    exact ⟨_, Grow.one s2 e2, rep_tup e2 s2 (Reps.cons (Rep.mono s1 _ _ rv) (Reps.cons (Rep.mono s1 _ _ rw') Reps.nil))⟩
  · refine ⟨vs, us, .of (s2 _ _ (s1 _ _ h)), .of (s2 _ _ (s1 _ _ h2)), ?_⟩
    rw [← r.length, ← r2.length]
    rw [List.getElem?_eq_none_iff, zipD_len] at hn
    omega
theorem c_enum {x : Str} {p tpos : Pos} {elts : List Expr} {kk : Nat} (o : Okx X C Y) (hn : x = "enumerate") (hx : chkGl C x = true) (ha : PE X a (tE Y e1)) (hs : noStar a = true) :
    PI X (.Tuple elts kk tpos) (.Call (.Name x p) [a] [] pos) (tI Y (.enum e1)) := by
  obtain ⟨g1, g2⟩ := chkGl_ok o hx
  subst hn
  refine ⟨fun pins s σ H R I h => (pi_enum g1 (o.free _ (by decide)) (pa_cons ha.inv pa_nil (star_of [] hs)) (star_of [] hs)).run pins s σ H R I ?_⟩
  obtain ⟨H0, G0, β0, ρ, st, G, β, s0, p⟩ := h
  simp only [evI] at p
  refine ⟨H0, G0, β0, ρ, st, G, β, s0, (Pt.needV p).mono fun u1 H1 ⟨y, st1, G1, β1, x1, l1, r1, p1⟩ ⟨pins1, s1, I1⟩ => ?_⟩
  cases y with
  | list ys =>
    rw [Rep] at r1
    obtain ⟨q, vs, rfl, hq, rs⟩ := r1
    obtain ⟨_, _, _, hz⟩ := I1.list (X := X) (.of (l1.sub _ _ hq))
    refine ⟨q, vs, rfl, .of (l1.sub _ _ hq), ?_⟩
    rw [o.K]
    exact p1 _ H1 G1 β1 (Ext.refl ..) l1 (wk_enum hq rs hz)
  | _ => exact p1.elim
theorem c_zip {x : Str} {p tpos : Pos} {elts : List Expr} {kk : Nat} (o : Okx X C Y) (hn : x = "zip") (hx : chkGl C x = true) (ha : PE X a (tE Y e1)) (hb : PE X b (tE Y e2)) (hs : noStar a = true) (hs2 : noStar b = true) :
    PI X (.Tuple elts kk tpos) (.Call (.Name x p) [a, b] [] pos) (tI Y (.zip e1 e2)) := by
  obtain ⟨g1, g2⟩ := chkGl_ok o hx
  subst hn
  have bk := back_of (env := X.env) (p := pos) [b] (by unfold noStars noStars; rw [hs2]; rfl)
  refine ⟨fun pins s σ H R I h => (pi_zip g1 (o.free _ (by decide)) (pa_cons ha (pa_cons hb.inv pa_nil (star_of [] hs2)) (star_of [b] hs)) (star_of [b] hs) bk).run pins s σ H R I ?_⟩
  obtain ⟨H0, G0, β0, ρ, st, G, β, s0, p⟩ := h
  simp only [evI] at p
  refine ⟨H0, G0, β0, ρ, st, G, β, s0, (Pt.needV p).mono fun u1 H1 ⟨y, st1, G1, β1, x1, l1, r1, p1⟩ => ?_⟩
  refine ⟨H0, G0, β0, ρ, st1, G1, β1, s0.step x1 l1, (Pt.needV p1).mono fun u2 H2 ⟨z, st2, G2, β2, x2, l2, r2, p2⟩ ⟨pins1, s1, I1⟩ => ?_⟩
  cases y with
  | list ys =>
    cases z with
    | list zs =>
      rw [Rep] at r1 r2
      obtain ⟨q, vs, rfl, hq, rs⟩ := r1
      obtain ⟨q2, us, rfl, hq2, rs2⟩ := r2
      have hq' := x2.sub _ _ hq
      obtain ⟨_, _, _, hz⟩ := I1.list (X := X) (.of (l2.sub _ _ hq'))
      refine ⟨q, q2, vs, us, rfl, .of (l2.sub _ _ hq'), .of (l2.sub _ _ hq2), ?_⟩
      rw [o.K]
      exact p2 _ H2 G2 β2 (Ext.refl ..) l2 (wk_zip hq' (Reps.mono x2.sub _ _ rs) hz hq2 rs2)
    | _ => exact p2.elim
  | _ => exact p2.elim
end
end Ip
/-! Ip11: comprehensions. -/
namespace Ip
open PySem PySem.Spec PyProof.Rows L2

section
variable {X : Cx} {C : Sc} {Y : Wd} {a b c : Expr} {e1 e2 e3 : Ex} {es : Exs} {l : List Expr} {pos : Pos}
/-- where no exception may come out -/
abbrev Wd.nox (Y : Wd) : Wd := { Y with E := fun _ _ _ => False }
abbrev Sc.blk (C : Sc) (scope : Scope) : Sc := { C with sc := relS scope C.sc, fn := fun x => scope.names.lookup x == some .cell }
theorem Okx.blk (o : Okx X C Y) (scope : Scope) (hk : scope.kind = .function) (s : Shared) (H : Hp) (c : Addr) (cl : List (Str × Addr)) (fp : List Addr) : Okx (X.blk s H scope (compEnvC scope cl c X.env) fp) (C.blk scope) Y.nox where
  K := o.K
  N := o.N
  sc := by
    show relS scope X.env.scope = relS scope C.sc
    rw [o.sc]
  fn := rfl
  nd := o.nd
  calm := o.calm
  hu := o.hu
  glob := o.glob
  free := o.free
  tab := o.tab
  tk := fun u s' h => by
    obtain ⟨_, _, _, _, _, _, _, _, _, _, _, _, _, _, _, _, h⟩ := h
    exact h
  exc := o.exc
  kind := hk
  call := o.call
theorem nox_eq (Y : Wd) (e : Ex) : ev Y.nox e = ev Y e := rfl
theorem wipe_get : ∀ (is : List Nat) (σ : L2.St) (j : Nat), (wipe σ is)[j]? = if j ∈ is ∧ j < σ.length then some none else σ[j]?
  | [], σ, j => by simp [wipe]
  | i :: is, σ, j => by
    have hl : ∀ (is : List Nat), (wipe σ is).length = σ.length := by
      intro is
      induction is with
      | nil => rfl
      | cons i is ih => simp [wipe, ih]
    rw [wipe, List.getElem?_set, wipe_get is σ j, hl]
    by_cases e : i = j
    · subst e
      by_cases h : i < σ.length
      · simp [h]
      · simp [h]
    · rw [if_neg e]
      have e' : ¬ j = i := fun x => e x.symm
      simp [List.mem_cons, e']
theorem wipe_len (σ : L2.St) : ∀ (is : List Nat), (wipe σ is).length = σ.length
  | [] => rfl
  | i :: is => by simp [wipe, wipe_len σ is]
theorem wipeE_len (ρ : Ev) : ∀ (is : List Nat), (wipeE ρ is).length = ρ.length
  | [] => rfl
  | i :: is => by simp [wipeE, wipeE_len ρ is]
theorem wipeE_get (ρ : Ev) : ∀ (is : List Nat) (j : Nat), (wipeE ρ is)[j]? = if j ∈ is ∧ j < ρ.length then some .un else ρ[j]?
  | [], j => by simp [wipeE]
  | i :: is, j => by
    rw [wipeE, List.getElem?_set, wipeE_get ρ is j, wipeE_len]
    by_cases e : i = j
    · subst e
      by_cases h : i < ρ.length
      · simp [h]
      · simp [h]
    · rw [if_neg e]
      have e' : ¬ j = i := fun x => e x.symm
      simp [List.mem_cons, e']
theorem wipe_off {own is : List Nat} {σ σ2 : L2.St} (h : Off is (wipe σ own) σ2) (hs : ∀ i ∈ is, i ∈ own) (hl : σ2.length = σ.length) : wipe σ2 own = wipe σ own := by
  apply List.ext_getElem?
  intro j
  rw [wipe_get, wipe_get, hl]
  by_cases hj : j ∈ own
  · by_cases hb : j < σ.length
    · simp [hj, hb]
    · rw [if_neg (by simp [hb]), if_neg (by simp [hb]), List.getElem?_eq_none (by omega), List.getElem?_eq_none (by omega)]
  · rw [if_neg (by simp [hj]), if_neg (by simp [hj]), h j (fun z => hj (hs j z)), wipe_get, if_neg (by simp [hj])]
theorem ST.wipe {K : Fg} {H0 G0 H G : Hp} {β0 β : List Addr} {ρ : Ev} {st : Store} {σ : L2.St} (s : ST K H0 G0 β0 ρ st σ H G β) (own : List Nat) : ST K H0 G0 β0 (wipeE ρ own) st (wipe σ own) H G β := by
  refine ⟨s.lay, s.ext, by rw [wipeE_len, wipe_len, s.len], fun j t ht => ?_, fun j k t u p ht hu ot ou hj hk => ?_⟩
  · rw [wipeE_get] at ht
    split at ht
    · rename_i h
      cases ht
      rw [wipe_get, if_pos ⟨h.1, by rw [← s.len]; exact h.2⟩]
      exact ⟨none, rfl, trivial⟩
    · rename_i h
      rw [wipe_get, if_neg (by rw [← s.len]; exact h)]
      exact s.slot j t ht
  · rw [wipeE_get] at ht hu
    split at ht
    · cases ht; cases ot
    · rename_i h1
      split at hu
      · cases hu; cases ou
      · rename_i h2
        rw [wipe_get, if_neg (by rw [← s.len]; exact h1)] at hj
        rw [wipe_get, if_neg (by rw [← s.len]; exact h2)] at hk
        exact s.apart j k t u p ht hu ot ou hj hk
mutual
theorem put_len {ρ ρ' : Ev} : ∀ {t : Tg} {x : D}, t.put x ρ = some ρ' → ρ'.length = ρ.length
  | .name i, x, h => by
    simp only [Tg.put] at h
    split at h
    · cases h; simp
    · cases h
  | .tup ts, x, h => by
    simp only [Tg.put] at h
    split at h
    · exact puts_length h
    · cases h
theorem puts_length {ρ ρ' : Ev} : ∀ {t : Tgs} {xs : List D}, t.puts xs ρ = some ρ' → ρ'.length = ρ.length
  | .nil, [], h => by simp only [Tgs.puts, Option.some.injEq] at h; rw [h]
  | .cons t r, x :: xs, h => by
    simp only [Tgs.puts] at h
    cases z : t.put x ρ with
    | none => rw [z] at h; cases h
    | some ρ1 =>
      rw [z] at h
      rw [puts_length h, put_len z]
  | .nil, _ :: _, h => by simp [Tgs.puts] at h
  | .cons _ _, [], h => by simp [Tgs.puts] at h
end
theorem comp_read {own : List Nat} {t : Tg} {it : It} {elt : Ex} {cfn : Ev → Store → Rs D} {tt : TT} {σ : L2.St} {H : Hp} {Q : VK}
    (hown : ∀ i ∈ t.binds, i ∈ own)
    (hT : ∀ (H0 G0 : Hp) (β0 : List Addr) (ρ' : Ev) (st : Store) (σ2 : L2.St) (H G : Hp) (β : List Addr) (Q' : Bool → Hp → Prop) (b : Bool) (st2 : Store), ST Y.K H0 G0 β0 ρ' st σ2 H G β → cfn ρ' st = .ok (.bool b) st2 →
      (∀ H3 G3 β3, Ext H G β H3 G3 β3 → Lay Y.K H3 G3 β3 st2 → Q' b H3) → tt σ2 H Q')
    (q : tRF Y (fun ρ st => (evI Y.gv Y.tv Y.cf it ρ st).bind fun xs st => (compL t (fun ρ' st => (needD (ev Y elt ρ' st)).calm) cfn (wipeE ρ own) xs st).bind fun ys st => .ok (.d (.list ys)) st) σ H Q)
    (hcalm : ∀ ρ' st c st', cfn ρ' st ≠ .exc c st') :
    tLc (tI Y it) (gT Y.nox t) tt (tE Y.nox elt) own σ H Q := by
  obtain ⟨H0, G0, β0, ρ, st, G, β, s, p⟩ := q
  refine ⟨H0, G0, β0, ρ, st, G, β, s, (Pt.bind (Rel := fun _ G _ xs J => Wk Y.K G J xs) p).mono fun J H1 ⟨xs, st1, G1, β1, x1, l1, ⟨hz, wk⟩, p1⟩ D hD => ?_⟩
  have s1 := s.step x1 l1
  have hDH : H D = none := x1.none l1 hD
  have hDb : D ∉ β1 := fun hm => by obtain ⟨o, e⟩ := l1.there hm; rw [hD] at e; cases e
  have hDg : G1 D = none := by
    cases e : G1 D with
    | none => rfl
    | some u => have := l1.sub D u e; rw [hD] at this; cases this
  refine ⟨fun i m J => m = xs.length - i ∧ ∃ G β st acc ds, Ext H1 G1 β1 J G β ∧ Lay Y.K J G β st ∧ J D = some (.lst acc) ∧ D ∉ β ∧ G D = none ∧ Reps Y.K G ds acc ∧ acc.length ≤ i ∧
    Pt Y ((compL t (fun ρ' st => (needD (ev Y elt ρ' st)).calm) cfn (wipeE ρ own) (xs.drop i) st).bind fun ys st => .ok (.d (.list (ds ++ ys))) st) (RlF Y H) H1 G1 β1 Q, ⟨xs.length, ?_⟩, ?_⟩
  · refine ⟨by omega, G1, β1, st1, [], [], ⟨fun a o h _ => ?_, Sub.refl _, fun _ h _ => h, [], by simp, by simp⟩, l1.over hDb hDg, upd_same, hDb, hDg, Reps.nil, Nat.le_refl _, ?_⟩
    · rw [upd_ne (by rintro rfl; rw [hD] at h; cases h)]
      exact h
    · rw [List.drop_zero]
      exact p1
  · rintro i m H2 ⟨hm, G2, β2, st2, acc, ds, x2, l2, hacc, hDb2, hDg2, hr, hai, p2⟩
    have s2 : ST Y.K H0 G0 β0 ρ st2 σ H2 G2 β2 := s1.step x2 l2
    have w2 := s2.wipe own
    obtain ⟨wgo, wstop⟩ := wk H2 G2 i x2.sub l2.sub
    cases hx : xs[i]? with
    | none =>
      refine .inl ⟨wstop hx, ?_⟩
      have hi : xs.length ≤ i := List.getElem?_eq_none_iff.mp hx
      rw [List.drop_eq_nil_of_le hi] at p2
      simp only [compL, bind_ok, List.append_nil] at p2
      exact p2 (.ref D) H2 G2 β2 x2 l2 ⟨ds, D, acc, rfl, rfl, hDH, hacc, hDg2, hDb2, hr⟩
    | some x =>
      have hi := (List.getElem?_eq_some_iff.mp hx).1
      have hdrop : xs.drop i = x :: xs.drop (i + 1) := by
        rw [List.drop_eq_getElem_cons hi]
        congr 1
        exact Option.some.inj ((List.getElem?_eq_getElem hi).symm.trans hx)
      obtain ⟨go, yld⟩ := wgo x hx
      rw [hdrop] at p2
      rw [compL] at p2
      refine .inr ⟨go, fun H' => ∃ G β st acc ds, Ext H1 G1 β1 H' G β ∧ Lay Y.K H' G β st ∧ H' D = some (.lst acc) ∧ D ∉ β ∧ G D = none ∧ Reps Y.K G ds acc ∧ acc.length ≤ i + 1 ∧
        Pt Y ((compL t (fun ρ' st => (needD (ev Y elt ρ' st)).calm) cfn (wipeE ρ own) (xs.drop (i + 1)) st).bind fun ys st => .ok (.d (.list (ds ++ ys))) st) (RlF Y H) H1 G1 β1 Q, fun H' h => ⟨xs.length - (i + 1), by omega, rfl, h⟩, fun v H3 y => ?_⟩
      obtain ⟨G3, g3, rv⟩ := yld v H3 y
      have x3 := g3.ext β2
      have l3 := g3.lay l2
      cases hput : t.put x (wipeE ρ own) with
      | none => rw [hput] at p2; exact p2.elim
      | some ρ' =>
        rw [hput] at p2
        dsimp only at p2
        refine ⟨H0, G0, β0, wipeE ρ own, st2, G3, β2, x, ρ', w2.step x3 l3, rv, hput, fun σ2 o2 s4 => ⟨?_, ?_⟩⟩
        · have hl : σ2.length = σ.length := by
            rw [← s4.len, ← s.len]
            have : ρ'.length = (wipeE ρ own).length := put_len hput
            rw [this, wipeE_len]
          exact wipe_off o2 hown hl
        · cases hc : cfn ρ' st2 with
          | bad => rw [hc] at p2; exact p2.elim
          | exc c stx => exact absurd hc (hcalm ρ' st2 c stx)
          | ok bv st5 =>
            rw [hc, bind_ok] at p2
            match bv, hc, p2 with
            | .bool bb, hc, p2 =>
              refine hT H0 G0 β0 ρ' st2 σ2 H3 G3 β2 _ bb st5 s4 hc fun H5 G5 β5 x5 l5 => ?_
              have x35 := Ext.trans (fun a h => l3.there h) x3 x5
              have hD3 : H3 D = some (.lst acc) := g3.keep _ _ hacc
              have hD5 : H5 D = some (.lst acc) := x5.keep _ _ hD3 hDb2
              have hDg3 : G3 D = none := x3.new D hDg2 (by rw [hacc]; simp)
              have hDg5 : G5 D = none := x5.new D hDg3 (by rw [hD3]; simp)
              have hDb5 : D ∉ β5 := by
                obtain ⟨γ, rfl, hγ⟩ := x5.pre
                intro hm
                rcases List.mem_append.mp hm with hm | hm
                · exact hDb2 hm
                · rw [hγ D hm] at hD3; cases hD3
              have x15 : Ext H1 G1 β1 H5 G5 β5 := Ext.trans (fun a h => l2.old x2 a h) x2 x35
              cases bb with
              | false =>
                rw [if_neg Bool.false_ne_true]
                exact ⟨G5, β5, st5, acc, ds, x15, l5, hD5, hDb5, hDg5, Reps.mono (g3.sub.trans x5.sub) _ _ hr, by omega, p2⟩
              | true =>
                rw [if_pos rfl]
                refine ⟨H0, G0, β0, ρ', st5, G5, β5, s4.step x5 l5, ?_⟩
                dsimp only at p2
                show Pt Y.nox (ev Y elt ρ' st5) (RlV Y) H5 G5 β5 _
                cases he : ev Y elt ρ' st5 with
                | bad => rw [he] at p2; exact p2.elim
                | exc c stx => rw [he] at p2; exact p2.elim
                | ok yv st6 =>
                  rw [he] at p2
                  cases yv with
                  | loc n => exact p2.elim
                  | scr n => exact p2.elim
                  | d yd =>
                    intro u H6 G6 β6 x6 l6 r6
                    have r6' : Rep Y.K G6 yd u := r6
                    have hD6 : H6 D = some (.lst acc) := x6.keep _ _ hD5 hDb5
                    have hDg6 : G6 D = none := x6.new D hDg5 (by rw [hD5]; simp)
                    have hDb6 : D ∉ β6 := by
                      obtain ⟨γ, rfl, hγ⟩ := x6.pre
                      intro hm
                      rcases List.mem_append.mp hm with hm | hm
                      · exact hDb5 hm
                      · rw [hγ D hm] at hD5; cases hD5
                    have x16 : Ext H1 G1 β1 H6 G6 β6 := Ext.trans (fun a h => l5.old x15 a h) x15 x6
                    refine ⟨acc, hD6, by omega, G6, β6, st6, acc ++ [u], ds ++ [yd], ?_, l6.over hDb6 hDg6, upd_same, hDb6, hDg6, Reps.append (Reps.mono ((g3.sub.trans x5.sub).trans x6.sub) _ _ hr) (Reps.cons r6' Reps.nil), by simp; omega, ?_⟩
                    · refine ⟨fun a o h hb => ?_, x16.sub, x16.new, x16.pre⟩
                      rw [upd_ne (by rintro rfl; rw [hD] at h; cases h)]
                      exact x16.keep a o h hb
                    · have ee : (needD (Rs.ok (Val.d yd) st6)).calm = Rs.ok yd st6 := rfl
                      rw [ee, bind_ok] at p2
                      refine Eq.mp ?_ p2
                      congr 1
                      cases compL t (fun ρ' st => (needD (ev Y elt ρ' st)).calm) cfn (wipeE ρ own) (xs.drop (i + 1)) st6 with
                      | ok zs stz =>
                        show Rs.ok (Val.d (.list (ds ++ (yd :: zs)))) stz = Rs.ok (Val.d (.list ((ds ++ [yd]) ++ zs))) stz
                        rw [List.append_assoc]
                        rfl
                      | exc _ _ => rfl
                      | bad => rfl
theorem comp_imp {own : List Nat} {t : Tg} {it : It} {e : Ex} {σ : L2.St} {H : Hp} {Q : VK} (hown : ∀ i ∈ t.binds, i ∈ own) (q : tF Y (.comp own e t it) σ H Q) : tLc (tI Y it) (gT Y.nox t) tYes (tE Y.nox e) own σ H Q := by
  refine comp_read (cfn := fun _ st => .ok (.bool true) st) hown (fun H0 G0 β0 ρ' st σ2 H G β Q' b st2 s hc k => ?_) ?_ (fun ρ' st c st' h => by cases h)
  · cases hc
    exact k H G β (Ext.refl ..) s.lay
  · obtain ⟨H0, G0, β0, ρ, st, G, β, s, p⟩ := q
    simp only [ev, evE] at p
    exact ⟨H0, G0, β0, ρ, st, G, β, s, p⟩
theorem calm_ne {α : Type} (r : Rs α) (c : Nat) (st : Store) : r.calm ≠ .exc c st := by cases r <;> simp [Rs.calm]
theorem compIf_imp {own : List Nat} {t : Tg} {it : It} {e ce : Ex} {σ : L2.St} {H : Hp} {Q : VK} (hown : ∀ i ∈ t.binds, i ∈ own) (q : tF Y (.compIf own e t it ce) σ H Q) : tLc (tI Y it) (gT Y.nox t) (tQ Y.nox ce) (tE Y.nox e) own σ H Q := by
  refine comp_read (cfn := fun ρ' st => (needD (ev Y ce ρ' st)).calm) hown (fun H0 G0 β0 ρ' st σ2 H G β Q' b st2 s hc k => ?_) ?_ (fun ρ' st c st' => calm_ne _ c st')
  · refine ⟨H0, G0, β0, ρ', st, G, β, s, ?_⟩
    have e1 : needB (ev Y.nox ce ρ' st) = .ok b st2 := by
      show needB (ev Y ce ρ' st) = _
      unfold needB
      cases hd : needD (ev Y ce ρ' st) with
      | ok x st3 =>
        rw [hd] at hc
        cases hc
        rfl
      | exc c st3 => rw [hd] at hc; cases hc
      | bad => rw [hd] at hc; cases hc
    show Pt Y.nox (needB (ev Y.nox ce ρ' st)) RlB H G β Q'
    rw [e1]
    intro u H3 G3 β3 x3 l3 hu
    rw [hu]
    exact k H3 G3 β3 x3 l3
  · obtain ⟨H0, G0, β0, ρ, st, G, β, s, p⟩ := q
    simp only [ev, evE] at p
    exact ⟨H0, G0, β0, ρ, st, G, β, s, p⟩
/-- what is known of a row's parts -/
structure LcP (X : Cx) (C : Sc) (Y : Wd) (elt tg iter : Expr) (scope : Scope) (own : List (Str × Nat)) (t : Tg) (it : It) (e : Ex) : Prop where
  hi : PI X tg iter (tI Y it)
  ok : blkC C.N C.sc scope own = true
  hs : ∀ x, foldedSetIterable iter X.env x = pure x
  hown : ∀ i ∈ t.binds, i ∈ own.map (·.2)
  hg : ∀ X' : Cx, Okx X' (C.blk scope) Y.nox → PG X' tg (gT Y.nox t)
  he : ∀ X' : Cx, Okx X' (C.blk scope) Y.nox → PE X' elt (tE Y.nox e)
theorem LcP.okB {elt tg iter : Expr} {scope : Scope} {own : List (Str × Nat)} {t : Tg} {it : It} {e : Ex} (L : LcP X C Y elt tg iter scope own t it e) (o : Okx X C Y) : BlkOk X.N X.env.scope scope own := by rw [o.N, o.sc]; exact blkOk_by L.ok
/-- a row without a test -/
theorem f_comp {tg iter elt : Expr} {scope : Scope} {own : List (Str × Nat)} {t : Tg} {it : It} {e : Ex} (o : Okx X C Y) (L : LcP X C Y elt tg iter scope own t it e) : PE X (.ListComp elt [⟨tg, iter, [], 0⟩] scope pos) (tF Y (.comp (own.map (·.2)) e t it)) :=
  (pe_lc o.calm o.nd L.hi (L.okB o) (fun s H c cl fp => L.hg _ (o.blk scope (L.okB o).kind s H c cl fp)) (fun s H c cl fp => pts_nil) (fun s H c cl fp => L.he _ (o.blk scope (L.okB o).kind s H c cl fp)) L.hs).imp fun σ H Q q => comp_imp L.hown q
/-- a row with a test -/
theorem f_compIf {tg iter elt cc : Expr} {scope : Scope} {own : List (Str × Nat)} {t : Tg} {it : It} {e ce : Ex} (o : Okx X C Y) (L : LcP X C Y elt tg iter scope own t it e) (hc : ∀ X' : Cx, Okx X' (C.blk scope) Y.nox → PT X' cc (tQ Y.nox ce)) :
    PE X (.ListComp elt [⟨tg, iter, [cc], 0⟩] scope pos) (tF Y (.compIf (own.map (·.2)) e t it ce)) :=
  (pe_lc o.calm o.nd L.hi (L.okB o) (fun s H c cl fp => L.hg _ (o.blk scope (L.okB o).kind s H c cl fp)) (fun s H c cl fp => pts_one (hc _ (o.blk scope (L.okB o).kind s H c cl fp))) (fun s H c cl fp => L.he _ (o.blk scope (L.okB o).kind s H c cl fp)) L.hs).imp fun σ H Q q => compIf_imp L.hown q
end
end Ip
/-! Ip12: statements. -/
namespace Ip
open PySem PySem.Spec PyProof.Rows L2

section
variable {X : Cx} {C : Sc} {Y : Wd} {a b c : Expr} {e1 e2 e3 : Ex} {es : Exs} {l : List Expr} {pos : Pos}
def PtO (Y : Wd) (o : Out) (H0 G0 : Hp) (β0 : List Addr) (Gm : Hp) (D : Ends) : Prop :=
  match o with
  | .nx ρ st => ∀ σ H G β, ST Y.K H0 G0 β0 ρ st σ H G β → Sub Gm G → D.nx σ H
  | .brk ρ st => ∀ σ H G β, ST Y.K H0 G0 β0 ρ st σ H G β → Sub Gm G → D.bk σ H
  | .cont ρ st => ∀ σ H G β, ST Y.K H0 G0 β0 ρ st σ H G β → Sub Gm G → D.ct σ H
  | .ret v st => ∀ u H G β, Ext H0 G0 β0 H G β → Lay Y.K H G β st → RepV Y.K G β v u → D.rt u H
  | .exc c st => ∀ H G β, Ext H0 G0 β0 H G β → Lay Y.K H G β st → Y.E (.ref (Y.ca c)) none H
  | .bad => False
/-- a statement's reading -/
def tO (Y : Wd) (r : Ev → Store → Out) : TS := fun D σ H => ∃ H0 G0 β0 ρ st G β Gm, ST Y.K H0 G0 β0 ρ st σ H G β ∧ Sub Gm G ∧ PtO Y (r ρ st) H0 G0 β0 Gm D
abbrev run1 (Y : Wd) (s : Sm) : Ev → Store → Out := runS Y.gv Y.tv Y.cf s
abbrev runAll (Y : Wd) (s : Sms) : Ev → Store → Out := runSs Y.gv Y.tv Y.cf s
abbrev tS (Y : Wd) (s : Sm) : TS := tO Y (run1 Y s)
abbrev tSs (Y : Wd) (s : Sms) : TS := tO Y (runAll Y s)
theorem ST.old {K : Fg} {H0 G0 H G H1 G1 : Hp} {β0 β β1 : List Addr} {ρ : Ev} {st : Store} {σ : L2.St} (s : ST K H0 G0 β0 ρ st σ H G β) (x : Ext H G β H1 G1 β1) : Ext H0 G0 β0 H1 G1 β1 := Ext.trans (fun a h => s.lay.old s.ext a h) s.ext x
theorem PtO.bind {α υ : Type} {Rel : Hp → Hp → List Addr → α → υ → Prop} {r : Rs α} {f : α → Store → Out} {H0 G0 Gm H G : Hp} {β0 β : List Addr} {ρ : Ev} {st : Store} {σ : L2.St} {D : Ends} (s : ST Y.K H0 G0 β0 ρ st σ H G β) (sg : Sub Gm G) (h : PtO Y (r.out f) H0 G0 β0 Gm D) :
    Pt Y r Rel H G β (fun u H1 => ∃ a st1 G1 β1, Ext H G β H1 G1 β1 ∧ ST Y.K H0 G0 β0 ρ st1 σ H1 G1 β1 ∧ Sub Gm G1 ∧ Rel H1 G1 β1 a u ∧ PtO Y (f a st1) H0 G0 β0 Gm D) := by
  cases r with
  | ok a st1 => exact fun u H1 G1 β1 x1 l1 q => ⟨a, st1, G1, β1, x1, s.step x1 l1, sg.trans x1.sub, q, h⟩
  | exc c st1 => exact fun H1 G1 β1 x1 l1 => h H1 G1 β1 (s.old x1) l1
  | bad => exact h
theorem PtO.needT {f : D → Store → Out} {r : Rs Val} {H0 G0 Gm H G : Hp} {β0 β : List Addr} {ρ : Ev} {st : Store} {σ : L2.St} {D : Ends} (s : ST Y.K H0 G0 β0 ρ st σ H G β) (sg : Sub Gm G) (h : PtO Y ((needD r).out f) H0 G0 β0 Gm D) :
    Pt Y r (RlT Y) H G β (fun u H1 => ∃ a st1 G1 β1, Ext H G β H1 G1 β1 ∧ ST Y.K H0 G0 β0 ρ st1 σ H1 G1 β1 ∧ Sub Gm G1 ∧ RepT Y.K H1 G1 β1 (.d a) u ∧ PtO Y (f a st1) H0 G0 β0 Gm D) := by
  cases r with
  | ok a st1 =>
    cases a with
    | d x => exact fun u H1 G1 β1 x1 l1 q => ⟨x, st1, G1, β1, x1, s.step x1 l1, sg.trans x1.sub, q, h⟩
    | loc n => exact h.elim
    | scr n => exact h.elim
  | exc c st1 => exact fun H1 G1 β1 x1 l1 => h H1 G1 β1 (s.old x1) l1
  | bad => exact h
theorem PtO.needK {f : D → Store → Out} {r : Rs Val} {H0 G0 Gm H G : Hp} {β0 β : List Addr} {ρ : Ev} {st : Store} {σ : L2.St} {D : Ends} (s : ST Y.K H0 G0 β0 ρ st σ H G β) (sg : Sub Gm G) (h : PtO Y ((needD r).out f) H0 G0 β0 Gm D) :
    Pt Y r (RlV Y) H G β (fun u H1 => ∃ a st1 G1 β1, Ext H G β H1 G1 β1 ∧ ST Y.K H0 G0 β0 ρ st1 σ H1 G1 β1 ∧ Sub Gm G1 ∧ Rep Y.K G1 a u ∧ PtO Y (f a st1) H0 G0 β0 Gm D) := by
  cases r with
  | ok a st1 =>
    cases a with
    | d x => exact fun u H1 G1 β1 x1 l1 q => ⟨x, st1, G1, β1, x1, s.step x1 l1, sg.trans x1.sub, q, h⟩
    | loc n => exact h.elim
    | scr n => exact h.elim
  | exc c st1 => exact fun H1 G1 β1 x1 l1 => h H1 G1 β1 (s.old x1) l1
  | bad => exact h
theorem PtO.needF {f : D → Store → Out} {r : Rs Val} {H0 G0 Gm H G : Hp} {β0 β : List Addr} {ρ : Ev} {st : Store} {σ : L2.St} {D : Ends} (s : ST Y.K H0 G0 β0 ρ st σ H G β) (sg : Sub Gm G) (h : PtO Y ((needD r).out f) H0 G0 β0 Gm D) :
    Pt Y r (RlF Y H) H G β (fun u H1 => ∃ a st1 G1 β1, Ext H G β H1 G1 β1 ∧ ST Y.K H0 G0 β0 ρ st1 σ H1 G1 β1 ∧ Sub Gm G1 ∧ RlF Y H H1 G1 β1 (.d a) u ∧ PtO Y (f a st1) H0 G0 β0 Gm D) := by
  cases r with
  | ok a st1 =>
    cases a with
    | d x => exact fun u H1 G1 β1 x1 l1 q => ⟨x, st1, G1, β1, x1, s.step x1 l1, sg.trans x1.sub, q, h⟩
    | loc n => exact h.elim
    | scr n => exact h.elim
  | exc c st1 => exact fun H1 G1 β1 x1 l1 => h H1 G1 β1 (s.old x1) l1
  | bad => exact h
theorem RepV.sub {K : Fg} {G G' : Hp} {β : List Addr} {x : Val} {v : V} (s : Sub G G') (r : RepV K G β x v) : RepV K G' β x v := by
  cases x with
  | d x => exact Rep.mono s x v r
  | loc n => exact r
  | scr ns =>
    obtain ⟨a, rfl, h⟩ := r
    exact ⟨a, rfl, s.sqL h⟩
/-! ### small ones -/
variable {sm : Sm} {ss tt : Sms} {sts us : List Stmt} {stm : Stmt}
theorem s_nil : PSs X [] (tSs Y .nil) := pss_nil.imp fun D σ H q => by
  obtain ⟨H0, G0, β0, ρ, st, G, β, Gm, s, sg, p⟩ := q
  exact p σ H G β s sg
theorem s_cons (h1 : PS X stm (tS Y sm)) (h2 : PSs X sts (tSs Y ss)) : PSs X (stm :: sts) (tSs Y (.cons sm ss)) := (pss_cons h1 h2).imp fun D σ H q => by
  obtain ⟨H0, G0, β0, ρ, st, G, β, Gm, s, sg, p⟩ := q
  refine ⟨H0, G0, β0, ρ, st, G, β, Gm, s, sg, ?_⟩
  unfold runAll at p
  rw [runSs] at p
  show PtO Y (runS Y.gv Y.tv Y.cf sm ρ st) H0 G0 β0 Gm { D with nx := tSs Y ss D }
  cases z : runS Y.gv Y.tv Y.cf sm ρ st with
  | nx ρ1 st1 =>
    rw [z] at p
    exact fun σ1 H1 G1 β1 s1 sg1 => ⟨H0, G0, β0, ρ1, st1, G1, β1, Gm, s1, sg1, p⟩
  | ret v st1 => rw [z] at p; exact p
  | brk ρ1 st1 => rw [z] at p; exact p
  | cont ρ1 st1 => rw [z] at p; exact p
  | exc c st1 => rw [z] at p; exact p
  | bad => rw [z] at p; exact p
theorem s_doc {x j p1 p2} (h : PSs X sts (tSs Y ss)) : PSs X (.Expr (.Constant (.str x) j p1) p2 :: sts) (tSs Y ss) := (pss_cons ps_doc h).imp fun D σ H q => q
theorem s_pass : PS X (.Pass pos) (tS Y .pass) := ps_pass.imp fun D σ H q => by
  obtain ⟨H0, G0, β0, ρ, st, G, β, Gm, s, sg, p⟩ := q
  exact p σ H G β s sg
theorem s_brk : PS X (.Break pos) (tS Y .brk) := ps_break.imp fun D σ H q => by
  obtain ⟨H0, G0, β0, ρ, st, G, β, Gm, s, sg, p⟩ := q
  exact p σ H G β s sg
theorem s_cont : PS X (.Continue pos) (tS Y .cont) := ps_continue.imp fun D σ H q => by
  obtain ⟨H0, G0, β0, ρ, st, G, β, Gm, s, sg, p⟩ := q
  exact p σ H G β s sg
theorem s_ret (he : PE X a (tE Y e1)) : PS X (.Return (some a) pos) (tS Y (.ret e1)) := (ps_ret he).imp fun D σ H q => by
  obtain ⟨H0, G0, β0, ρ, st, G, β, Gm, s, sg, p⟩ := q
  unfold run1 at p
  rw [runS] at p
  exact ⟨H0, G0, β0, ρ, st, G, β, s, (PtO.bind (Rel := RlV Y) s sg p).mono fun u H1 ⟨v, st1, G1, β1, x1, s1, sg1, r1, p1⟩ => p1 u H1 G1 β1 s1.ext s1.lay r1⟩
theorem s_retN : PS X (.Return none pos) (tS Y (.ret (.con .none))) := ps_retN.imp fun D σ H q => by
  obtain ⟨H0, G0, β0, ρ, st, G, β, Gm, s, sg, p⟩ := q
  unfold run1 at p
  rw [runS, evE] at p
  exact p .non H G β s.ext s.lay (show Rep Y.K G .none .non from rep_none)
theorem s_if (hc : PT X c (tQ Y e1)) (ha : PSs X sts (tSs Y ss)) (hb : PSs X us (tSs Y tt)) : PS X (.If c sts us pos) (tS Y (.ifs e1 ss tt)) := (ps_if hc ha hb).imp fun D σ H q => by
  obtain ⟨H0, G0, β0, ρ, st, G, β, Gm, s, sg, p⟩ := q
  unfold run1 at p
  rw [runS] at p
  refine ⟨H0, G0, β0, ρ, st, G, β, s, ?_⟩
  dsimp only
  have p' : PtO Y ((needB (ev Y e1 ρ st)).out fun b st => if b = true then runAll Y ss ρ st else runAll Y tt ρ st) H0 G0 β0 Gm D := by
    refine Eq.mp ?_ p
    congr 1
    unfold needB
    cases needD (evE Y.gv Y.tv Y.cf e1 ρ st) with
    | ok x st1 =>
      cases x with
      | bool b => cases b <;> rfl
      | _ => rfl
    | exc _ _ => rfl
    | bad => rfl
  refine (PtO.bind (Rel := RlB) s sg p').mono fun u H1 ⟨v, st1, G1, β1, x1, s1, sg1, r1, p1⟩ => ?_
  subst r1
  cases u with
  | true => exact ⟨H0, G0, β0, ρ, st1, G1, β1, Gm, s1, sg1, p1⟩
  | false => exact ⟨H0, G0, β0, ρ, st1, G1, β1, Gm, s1, sg1, p1⟩
/-! ### stores -/
/-- where a name is stored -/
theorem s_set {i : Nat} {x : Str} {px : Pos} (o : Okx X C Y) (hi : X.N[i]? = some x) (hx : Loc X.env.scope x) (hf : X.fn x = true ∨ X.env.scope.names.lookup x = some .local) (he : PE X a (tE Y e1)) (hs : swapsWith a (some (.Name x px)) pos.line X.env = pure false) :
    PS X (.Assign [.Name x px] a pos) (tS Y (.set i e1)) := (ps_set o.nd hi hx he hs hf).imp fun D σ H q => set_read q
where
 set_read {i : Nat} {D : Ends} {σ : L2.St} {H : Hp} (q : tS Y (.set i e1) D σ H) : tAsg (tE Y e1) (gName i) D σ H := by
  obtain ⟨H0, G0, β0, ρ, st, G, β, Gm, s, sg, p⟩ := q
  unfold run1 at p
  rw [runS] at p
  refine ⟨H0, G0, β0, ρ, st, G, β, s, (PtO.bind (Rel := RlV Y) s sg p).mono fun u H1 ⟨v, st1, G1, β1, x1, s1, sg1, r1, p1⟩ => ?_⟩
  unfold setS at p1
  split at p1
  · exact p1 _ H1 G1 β1 (s1.put i r1) sg1
  · exact p1.elim
/-- a new list of one's own -/
theorem ST.own {K : Fg} {H0 G0 H G : Hp} {β0 β : List Addr} {ρ : Ev} {st : Store} {σ : L2.St} (s : ST K H0 G0 β0 ρ st σ H G β) (i : Nat) {xs : List D} {p : Addr} {vs : List V} (h1 : H p = some (.lst vs)) (h2 : G p = none) (h3 : p ∉ β) (h4 : H0 p = none) (r : Reps K G xs vs)
    (hn : ∀ (j : Nat) (t : Slot) (q : Addr), ρ[j]? = some t → t.isOwn = true → σ[j]? = some (some (.ref q)) → q ≠ p) : ST K H0 G0 β0 (ρ.set i (.ol xs)) st (σ.set i (some (.ref p))) H G β := by
  refine ⟨s.lay, s.ext, by simp [s.len], fun j t ht => ?_, fun j k t u q ht hu ot ou hj hk => ?_⟩
  · rw [List.getElem?_set] at ht ⊢
    split at ht
    · rename_i e
      subst e
      split at ht
      · rename_i hl
        cases ht
        rw [if_pos rfl, if_pos (by rw [← s.len]; exact hl)]
        exact ⟨_, rfl, p, vs, rfl, h1, h2, h3, h4, r⟩
      · cases ht
    · rename_i e
      rw [if_neg e]
      exact s.slot j t ht
  · rw [List.getElem?_set] at ht hu hj hk
    by_cases e1 : i = j
    · subst e1
      by_cases e2 : i = k
      · exact e2
      · rw [if_neg e2] at hu hk
        rw [if_pos rfl] at hj
        split at hj
        · cases hj
          exact absurd rfl (hn k u p hu ou hk)
        · cases hj
    · by_cases e2 : i = k
      · subst e2
        rw [if_neg e1] at ht hj
        rw [if_pos rfl] at hk
        split at hk
        · cases hk
          exact absurd rfl (hn j t p ht ot hj)
        · cases hk
      · rw [if_neg e1] at ht hj
        rw [if_neg e2] at hu hk
        exact s.apart j k t u q ht hu ot ou hj hk
theorem own_there {K : Fg} {H0 G0 H G : Hp} {β0 β : List Addr} {ρ : Ev} {st : Store} {σ : L2.St} (s : ST K H0 G0 β0 ρ st σ H G β) {j : Nat} {t : Slot} {q : Addr} (ht : ρ[j]? = some t) (ot : t.isOwn = true) (hj : σ[j]? = some (some (.ref q))) : ∃ o, H q = some o := by
  obtain ⟨o, h1, h2⟩ := s.slot j t ht
  rw [hj] at h1
  cases h1
  cases t with
  | ol xs => obtain ⟨p, vs, e, h, _⟩ := h2; cases e; exact ⟨_, h⟩
  | od _ => exact h2.elim
  | _ => cases ot
theorem s_own {i : Nat} {x : Str} {px : Pos} (o : Okx X C Y) (hi : X.N[i]? = some x) (hx : Loc X.env.scope x) (hf : X.fn x = true ∨ X.env.scope.names.lookup x = some .local) (he : PE X a (tF Y e1)) (hs : swapsWith a (some (.Name x px)) pos.line X.env = pure false) :
    PS X (.Assign [.Name x px] a pos) (tS Y (.own i e1)) := (ps_set o.nd hi hx he hs hf).imp fun D σ H q => own_read q
where
  own_read {i : Nat} {D : Ends} {σ : L2.St} {H : Hp} (q : tS Y (.own i e1) D σ H) : tAsg (tF Y e1) (gName i) D σ H := by
    obtain ⟨H0, G0, β0, ρ, st, G, β, Gm, s, sg, p⟩ := q
    unfold run1 at p
    rw [runS] at p
    refine ⟨H0, G0, β0, ρ, st, G, β, s, (PtO.needF s sg p).mono fun u H1 ⟨v, st1, G1, β1, x1, s1, sg1, r1, p1⟩ => ?_⟩
    obtain ⟨xs, a, vs, e, rfl, h1, h2, h3, h4, h5⟩ := r1
    cases e
    dsimp only at p1
    unfold setS at p1
    split at p1
    · refine p1 _ H1 G1 β1 (s1.own i h2 h3 h4 (s.ext.none s.lay h1) h5 fun j t q ht ot hj => ?_) sg1
      rintro rfl
      obtain ⟨o, ho⟩ := own_there s ht ot hj
      rw [h1] at ho
      cases ho
    · exact p1.elim
/-- name = [.. for ..], on one line -/
theorem s_lc {i : Nat} {y : Str} {py spos : Pos} {tg iter elt : Expr} {scope : Scope} {own : List (Str × Nat)} {t : Tg} {it : It} {e : Ex} (o : Okx X C Y) (L : LcP X C Y elt tg iter scope own t it e) (hy : X.N[i]? = some y) (hyl : X.env.scope.names.lookup y = some .local)
    (hsw : swapsWith (.ListComp elt [⟨tg, iter, [], 0⟩] scope pos) (some (.Name y py)) spos.line X.env = pure true) (R : ∀ D σ H, tS Y sm D σ H → tAsg (tF Y (.comp (own.map (·.2)) e t it)) (gName i) D σ H) :
    PS X (.Assign [.Name y py] (.ListComp elt [⟨tg, iter, [], 0⟩] scope pos) spos) (tS Y sm) :=
  (ps_setLc o.calm o.nd hy hyl hsw L.hi (L.okB o) (fun s H c cl fp => L.hg _ (o.blk scope (L.okB o).kind s H c cl fp)) (fun s H c cl fp => pts_nil) (fun s H c cl fp => L.he _ (o.blk scope (L.okB o).kind s H c cl fp)) L.hs).imp fun D σ H q => comp_imp L.hown (R D σ H q)
theorem s_lcIf {i : Nat} {y : Str} {py spos : Pos} {tg iter elt cc : Expr} {scope : Scope} {own : List (Str × Nat)} {t : Tg} {it : It} {e ce : Ex} (o : Okx X C Y) (L : LcP X C Y elt tg iter scope own t it e) (hc : ∀ X' : Cx, Okx X' (C.blk scope) Y.nox → PT X' cc (tQ Y.nox ce)) (hy : X.N[i]? = some y) (hyl : X.env.scope.names.lookup y = some .local)
    (hsw : swapsWith (.ListComp elt [⟨tg, iter, [cc], 0⟩] scope pos) (some (.Name y py)) spos.line X.env = pure true) (R : ∀ D σ H, tS Y sm D σ H → tAsg (tF Y (.compIf (own.map (·.2)) e t it ce)) (gName i) D σ H) :
    PS X (.Assign [.Name y py] (.ListComp elt [⟨tg, iter, [cc], 0⟩] scope pos) spos) (tS Y sm) :=
  (ps_setLc o.calm o.nd hy hyl hsw L.hi (L.okB o) (fun s H c cl fp => L.hg _ (o.blk scope (L.okB o).kind s H c cl fp)) (fun s H c cl fp => pts_one (hc _ (o.blk scope (L.okB o).kind s H c cl fp))) (fun s H c cl fp => L.he _ (o.blk scope (L.okB o).kind s H c cl fp)) L.hs).imp fun D σ H q => compIf_imp L.hown (R D σ H q)
theorem s_asg {tg : Expr} {t : Tg} (he : PE X a (tE Y e1)) (hg : PG X tg (gT Y t)) (hs : swapsWithSole [tg] a pos.line X.env = pure false) (hw : swappedStores [tg] a X.env = pure none) (hn : noStar tg = true) : PS X (.Assign [tg] a pos) (tS Y (.asg t e1)) :=
  (ps_asg he hg hs hw (by rw [assignEach_cons [] hn]; rfl)).imp fun D σ H q => by
    obtain ⟨H0, G0, β0, ρ, st, G, β, Gm, s, sg, p⟩ := q
    unfold run1 at p
    rw [runS] at p
    refine ⟨H0, G0, β0, ρ, st, G, β, s, (PtO.needK s sg p).mono fun u H1 ⟨v, st1, G1, β1, x1, s1, sg1, r1, p1⟩ => ?_⟩
    cases z : t.put v ρ with
    | none => rw [z] at p1; exact p1.elim
    | some ρ' =>
      rw [z] at p1
      exact ⟨H0, G0, β0, ρ, st1, G1, β1, v, ρ', s1, r1, z, fun σ' _ s' => p1 σ' H1 G1 β1 s' sg1⟩
theorem s_expr (he : PE X a (tE Y e1)) (hs : swapsWith a none pos.line X.env = pure false) : PS X (.Expr a pos) (tS Y (.expr e1)) := (ps_expr he hs).imp fun D σ H q => by
  obtain ⟨H0, G0, β0, ρ, st, G, β, Gm, s, sg, p⟩ := q
  unfold run1 at p
  rw [runS] at p
  exact ⟨H0, G0, β0, ρ, st, G, β, s, (PtO.bind (Rel := RlV Y) s sg p).mono fun u H1 ⟨v, st1, G1, β1, x1, s1, sg1, r1, p1⟩ => p1 σ H1 G1 β1 s1 sg1⟩
/-- from here on the list is shared -/
theorem s_keep {i : Nat} (h : PSs X sts (tSs Y ss)) : PSs X sts (tSs Y (.cons (.keep i) ss)) := h.imp fun D σ H q => by
  obtain ⟨H0, G0, β0, ρ, st, G, β, Gm, s, sg, p⟩ := q
  unfold runAll at p
  rw [runSs, runS] at p
  cases e : ρ[i]? with
  | none => rw [e] at p; exact p.elim
  | some t =>
    rw [e] at p
    obtain ⟨ov, h1, h2⟩ := s.slot i t e
    cases t with
    | ol xs =>
      obtain ⟨q, vs, rfl, a1, a2, a3, a4, a5⟩ := h2
      have hl : i < ρ.length := (List.getElem?_eq_some_iff.mp e).1
      refine ⟨H0, G0, β0, _, st, upd G q (.lst vs), β, Gm, ⟨s.lay.freeze a1 a2 a3, s.ext.freeze a4 a2, by simp [s.len], fun j u hu => ?_, fun j k u w r hu hw ou ow hj hk => ?_⟩, sg.trans (upd_sub a2), p⟩
      · rw [List.getElem?_set] at hu
        split at hu
        · rename_i e2
          subst e2
          cases hu
          refine ⟨_, h1, .ref q, rfl, ?_⟩
          show Rep _ _ _ _
          rw [Rep]
          exact ⟨q, vs, rfl, upd_same, Reps.mono (upd_sub a2) _ _ a5⟩
        · rename_i e2
          obtain ⟨o2, g1, g2⟩ := s.slot j u hu
          refine ⟨o2, g1, ?_⟩
          cases u with
          | un => trivial
          | v x =>
            obtain ⟨v, e3, r⟩ := g2
            exact ⟨v, e3, r.sub (upd_sub a2)⟩
          | ol ys =>
            obtain ⟨q', vs', e3, b1, b2, b3, b4, b5⟩ := g2
            subst e3
            have hne : q' ≠ q := by
              rintro rfl
              exact e2 (s.apart i j _ _ q' e hu rfl rfl h1 g1)
            exact ⟨q', vs', rfl, b1, by rw [upd_ne hne]; exact b2, b3, b4, Reps.mono (upd_sub a2) _ _ b5⟩
          | od _ => exact g2.elim
      · rw [List.getElem?_set] at hu hw
        split at hu
        · cases hu; cases ou
        · split at hw
          · cases hw; cases ow
          · exact s.apart j k u w r hu hw ou ow hj hk
    | od _ => exact h2.elim
    | un => exact ⟨H0, G0, β0, ρ, st, G, β, Gm, s, sg, p⟩
    | v x => exact ⟨H0, G0, β0, ρ, st, G, β, Gm, s, sg, p⟩
/-! ### lists of one's own change -/
theorem ST.upd {K : Fg} {H0 G0 H G : Hp} {β0 β : List Addr} {ρ : Ev} {st : Store} {σ : L2.St} (s : ST K H0 G0 β0 ρ st σ H G β) {i : Nat} {xs ys : List D} {p : Addr} {us : List V} (e : ρ[i]? = some (.ol xs)) (h : σ[i]? = some (some (.ref p))) (h2 : G p = none) (h3 : p ∉ β) (h4 : H0 p = none) (r : Reps K G ys us) :
    ST K H0 G0 β0 (ρ.set i (.ol ys)) st σ (upd H p (.lst us)) G β := by
  refine ⟨s.lay.over h3 h2, ⟨fun a o ha hb => ?_, s.ext.sub, s.ext.new, s.ext.pre⟩, by simp [s.len], fun j t ht => ?_, fun j k t u q ht hu ot ou hj hk => ?_⟩
  · rw [upd_ne (by rintro rfl; rw [h4] at ha; cases ha)]
    exact s.ext.keep a o ha hb
  · rw [List.getElem?_set] at ht
    split at ht
    · rename_i e1
      subst e1
      split at ht
      · cases ht
        exact ⟨_, h, p, us, rfl, upd_same, h2, h3, h4, r⟩
      · cases ht
    · rename_i e1
      obtain ⟨o, g1, g2⟩ := s.slot j t ht
      refine ⟨o, g1, ?_⟩
      cases t with
      | un => trivial
      | v x => exact g2
      | ol zs =>
        obtain ⟨q, vs, e3, b1, b2, b3, b4, b5⟩ := g2
        subst e3
        have hne : q ≠ p := by
          rintro rfl
          exact e1 (s.apart i j _ _ q e ht rfl rfl h g1)
        exact ⟨q, vs, rfl, by rw [upd_ne hne]; exact b1, b2, b3, b4, b5⟩
      | od _ => exact g2.elim
  · rw [List.getElem?_set] at ht hu
    have hl : i < ρ.length := (List.getElem?_eq_some_iff.mp e).1
    have ht' : ∃ t', ρ[j]? = some t' ∧ t'.isOwn = true := by
      split at ht
      · rename_i e1; subst e1; exact ⟨_, e, rfl⟩
      · exact ⟨_, ht, ot⟩
    have hu' : ∃ u', ρ[k]? = some u' ∧ u'.isOwn = true := by
      split at hu
      · rename_i e1; subst e1; exact ⟨_, e, rfl⟩
      · exact ⟨_, hu, ou⟩
    obtain ⟨t', t1, t2⟩ := ht'
    obtain ⟨u', u1, u2⟩ := hu'
    exact s.apart j k t' u' q t1 u1 t2 u2 hj hk
theorem few_of {env : Env} {cpos : Pos} {e : Expr} (h : noStar e = true) : ((backTo cpos (starEach [e] env)).all (fun x => !x.1) && (backToKw cpos (keywordEach [] env)).all (fun x => x.1.isSome)
      && decide ([e].length + ([] : List Keyword).length + (if ([] : List Keyword).isEmpty then 0 else 1) < 30)) = true := by
  rw [star_of [] h]
  rfl
theorem own_look {i : Nat} {xs : List D} {K : Fg} {H0 G0 H G : Hp} {β0 β : List Addr} {ρ : Ev} {st : Store} {σ : L2.St} (s : ST K H0 G0 β0 ρ st σ H G β) (e : ρ[i]? = some (.ol xs)) :
    ∃ p vs, σ[i]? = some (some (.ref p)) ∧ H p = some (.lst vs) ∧ G p = none ∧ p ∉ β ∧ H0 p = none ∧ Reps K G xs vs := by
  obtain ⟨o, h1, p, vs, rfl, h2⟩ := s.slot i _ e
  exact ⟨p, vs, h1, h2⟩
theorem s_append {i : Nat} {x m : Str} {px apos cpos : Pos} (o : Okx X C Y) (h : chkVar C i x = true) (hm : m = "append") (he : PE X a (tE Y e1)) (hs : noStar a = true) (hl : (apos.endLine == cpos.line) = true) :
    PS X (.Expr (.Call (.Attribute (.Name x px) m apos) [a] [] cpos) pos) (tS Y (.append i e1)) := by
  obtain ⟨h1, h2, h3⟩ := chkVar_ok o h
  subst hm
  refine (ps_expr (pe_bm F.plainAttrs_list F.slot_list_append F.type_list_append mt_append (pe_var h1 h2 (plain_d h3) (plain_c h3)) (pa_cons he pa_nil (star_of [] hs)) (base_of rfl) (few_of hs) hl (star_of [] hs) rfl) rfl).imp fun D σ H q => ?_
  obtain ⟨H0, G0, β0, ρ, st, G, β, Gm, s, sg, p⟩ := q
  unfold run1 at p
  rw [runS] at p
  split at p
  · rename_i xs e
    obtain ⟨q, vs, hq, a1, a2, a3, a4, a5⟩ := own_look s e
    refine ⟨_, hq, .inl ⟨rfl, vs, .of a1⟩, H0, G0, β0, ρ, st, G, β, s, (PtO.needK s sg p).mono fun u H1 ⟨v, st1, G1, β1, x1, s1, sg1, r1, p1⟩ => ?_⟩
    split at p1
    · rename_i hz
      obtain ⟨q', vs', hq', b1, b2, b3, b4, b5⟩ := own_look s1 e
      rw [hq] at hq'
      cases hq'
      refine ⟨q, vs', u, rfl, rfl, b1, by rw [← b5.length, ← lim_eq]; exact hz, ?_⟩
      exact p1 σ _ G1 β1 (s1.upd e hq b2 b3 b4 (Reps.append b5 (Reps.cons r1 Reps.nil))) sg1
    · exact p1.elim
  · exact p.elim
theorem s_extend {i : Nat} {x m : Str} {px apos cpos : Pos} (o : Okx X C Y) (h : chkVar C i x = true) (hm : m = "extend") (he : PE X a (tE Y e1)) (hs : noStar a = true) (hl : (apos.endLine == cpos.line) = true) :
    PS X (.Expr (.Call (.Attribute (.Name x px) m apos) [a] [] cpos) pos) (tS Y (.extend i e1)) := by
  obtain ⟨h1, h2, h3⟩ := chkVar_ok o h
  subst hm
  refine (ps_expr (pe_bm F.plainAttrs_list F.slot_list_extend F.type_list_extend mt_extend (pe_var h1 h2 (plain_d h3) (plain_c h3)) (pa_cons he pa_nil (star_of [] hs)) (base_of rfl) (few_of hs) hl (star_of [] hs) rfl) rfl).imp fun D σ H q => ?_
  obtain ⟨H0, G0, β0, ρ, st, G, β, Gm, s, sg, p⟩ := q
  unfold run1 at p
  rw [runS] at p
  split at p
  · rename_i xs e
    obtain ⟨q, vs, hq, a1, a2, a3, a4, a5⟩ := own_look s e
    refine ⟨_, hq, .inl ⟨rfl, vs, .of a1⟩, H0, G0, β0, ρ, st, G, β, s, (PtO.needK s sg p).mono fun u H1 ⟨v, st1, G1, β1, x1, s1, sg1, r1, p1⟩ => ?_⟩
    cases v with
    | list ys =>
      dsimp only at p1
      split at p1
      · rename_i hz
        obtain ⟨q', vs', hq', b1, b2, b3, b4, b5⟩ := own_look s1 e
        rw [hq] at hq'
        cases hq'
        rw [Rep] at r1
        obtain ⟨t, ws, rfl, c1, c2⟩ := r1
        refine ⟨q, t, vs', ws, rfl, rfl, b1, s1.lay.sub _ _ c1, by rw [← b5.length, ← c2.length, ← lim_eq]; exact hz, ?_⟩
        exact p1 σ _ G1 β1 (s1.upd e hq b2 b3 b4 (Reps.append b5 c2)) sg1
      · exact p1.elim
    | _ => exact p1.elim
  · exact p.elim
theorem s_pop0 {i : Nat} {t : Tg} {tg : Expr} {x m : Str} {px apos cpos p0 : Pos} {j : Nat} (o : Okx X C Y) (h : chkVar C i x = true) (hm : m = "pop") (hg : PG X tg (gT Y t)) (hl : (apos.endLine == cpos.line) = true) (hn : noStar tg = true)
    (hs : swapsWithSole [tg] (.Call (.Attribute (.Name x px) m apos) [.Constant (.int 0) j p0] [] cpos) pos.line X.env = pure false) (hw : swappedStores [tg] (.Call (.Attribute (.Name x px) m apos) [.Constant (.int 0) j p0] [] cpos) X.env = pure none) :
    PS X (.Assign [tg] (.Call (.Attribute (.Name x px) m apos) [.Constant (.int 0) j p0] [] cpos) pos) (tS Y (.pop0 t i)) := by
  obtain ⟨h1, h2, h3⟩ := chkVar_ok o h
  subst hm
  refine (ps_asg (pe_bm F.plainAttrs_list F.slot_list_pop F.type_list_pop mt_popAt (pe_var h1 h2 (plain_d h3) (plain_c h3)) (pa_cons pe_int pa_nil rfl) (base_of rfl) (few_of rfl) hl rfl rfl) hg hs hw (by rw [assignEach_cons [] hn]; rfl)).imp fun D σ H q => ?_
  obtain ⟨H0, G0, β0, ρ, st, G, β, Gm, s, sg, p⟩ := q
  unfold run1 at p
  rw [runS] at p
  split at p
  · rename_i y ys e
    obtain ⟨q, vs, hq, a1, a2, a3, a4, a5⟩ := own_look s e
    match vs, a1, a5 with
    | [], _, a5 => simp [Reps] at a5
    | v :: vs, a1, a5 =>
      rw [Reps] at a5
      have s2 := s.upd e hq a2 a3 a4 a5.2
      refine ⟨_, hq, .inl ⟨rfl, _, .of a1⟩, q, v :: vs, 0, 0, v, rfl, rfl, a1, by decide, by decide, ?_, rfl, ?_⟩
      · simp [seqIndex?]
      · show gT Y t v σ (upd H q (.lst vs)) D.nx
        cases z : t.put y (ρ.set i (.ol ys)) with
        | none => rw [z] at p; exact p.elim
        | some ρ' =>
          rw [z] at p
          exact ⟨H0, G0, β0, _, st, G, β, y, ρ', s2, a5.1, z, fun σ' _ s' => p σ' _ G β s' sg⟩
  · exact p.elim
theorem s_puti {i : Nat} {x : Str} {px ps : Pos} (o : Okx X C Y) (h : chkVar C i x = true) (he : PE X a (tE Y e1)) (hb : PE X b (tT Y e2)) (hnb : notSlice b = true)
    (hs : swapsWithSole [.Subscript (.Name x px) b ps] a pos.line X.env = pure false) (hw : swappedStores [.Subscript (.Name x px) b ps] a X.env = pure none)
    (ha : ∀ v, assign (.Subscript (.Name x px) b ps) X.env v = (do
      let ov ← holding [v] (eval (.Name x px) X.env)
      let iv ← holding [v, ov] (eval b X.env)
      standAt ps
      holding [v, ov, iv] (setItem ov iv v)
      release [v, ov, iv] [])) :
    PS X (.Assign [.Subscript (.Name x px) b ps] a pos) (tS Y (.puti i e2 e1)) := by
  obtain ⟨h1, h2, h3⟩ := chkVar_ok o h
  refine (ps_asg he (pg_sub (pe_var h1 h2 (plain_d h3) (plain_c h3)) hb set_list ha) hs hw rfl).imp fun D σ H q => ?_
  obtain ⟨H0, G0, β0, ρ, st, G, β, Gm, s, sg, p⟩ := q
  unfold run1 at p
  rw [runS] at p
  split at p
  · rename_i xs e
    refine ⟨H0, G0, β0, ρ, st, G, β, s, (PtO.needK s sg p).mono fun u H1 ⟨v, st1, G1, β1, x1, s1, sg1, r1, p1⟩ => ?_⟩
    obtain ⟨q, vs, hq, b1, b2, b3, b4, b5⟩ := own_look s1 e
    refine ⟨_, hq, H0, G0, β0, ρ, st1, G1, β1, s1, (PtO.needT s1 sg1 p1).mono fun w H2 ⟨k, st2, G2, β2, x2, s2, sg2, r2, p2⟩ => ?_⟩
    cases k with
    | int k =>
      dsimp only at p2
      obtain ⟨q', vs', hq', c1, c2, c3, c4, c5⟩ := own_look s2 e
      rw [hq] at hq'
      cases hq'
      split at p2
      · rename_i mm hz
        refine ⟨q, vs', k, mm, rfl, r2.o.int, c1, by rw [← c5.length]; exact hz, ?_⟩
        exact p2 σ _ G2 β2 (s2.upd e hq c2 c3 c4 (Reps.set (Rep.mono x2.sub _ _ r1) mm c5)) sg2
      · exact p2.elim
    | _ => exact p2.elim
  · exact p.elim
end
end Ip
/-! Ip13: the store, loops, raise. -/
namespace Ip
open PySem PySem.Spec PyProof.Rows L2

section
variable {X : Cx} {C : Sc} {Y : Wd} {a b c : Expr} {e1 e2 e3 : Ex} {es : Exs} {l : List Expr} {pos : Pos} {sm : Sm} {ss tt : Sms} {sts us : List Stmt} {stm : Stmt}
theorem nd_inj {β : List Addr} (h : β.Nodup) : ∀ {i j : Nat} {a : Addr}, β[i]? = some a → β[j]? = some a → i = j := by
  induction β with
  | nil => intro i j a h1; simp at h1
  | cons b β ih =>
    intro i j a h1 h2
    rw [List.nodup_cons] at h
    cases i with
    | zero =>
      cases j with
      | zero => rfl
      | succ j =>
        simp only [List.getElem?_cons_zero, List.getElem?_cons_succ, Option.some.injEq] at h1 h2
        subst h1
        exact absurd (List.mem_of_getElem? h2) h.1
    | succ i =>
      cases j with
      | zero =>
        simp only [List.getElem?_cons_zero, List.getElem?_cons_succ, Option.some.injEq] at h1 h2
        subst h2
        exact absurd (List.mem_of_getElem? h1) h.1
      | succ j =>
        simp only [List.getElem?_cons_succ] at h1 h2
        rw [ih h.2 h1 h2]
/-! ### lists of the store -/
theorem s_newl {i : Nat} {x : Str} {px p2 : Pos} (o : Okx X C Y) (hi : X.N[i]? = some x) (hx : Loc X.env.scope x) (hf : X.fn x = true ∨ X.env.scope.names.lookup x = some .local) :
    PS X (.Assign [.Name x px] (.List [] p2) pos) (tS Y (.newl i)) := (ps_set o.nd hi hx (pe_lst pa_nil) rfl hf).imp fun D σ H q => by
  obtain ⟨H0, G0, β0, ρ, st, G, β, Gm, s, sg, p⟩ := q
  unfold run1 at p
  rw [runS] at p
  refine ⟨by show (0 : Nat) ≤ sizeLine; omega, fun q hq => ?_⟩
  unfold setS at p
  split at p
  · obtain ⟨f1, f2⟩ := s.lay.fresh hq
    have lay' : Lay Y.K (upd H q (.lst [])) G (β ++ [q]) (st ++ [.lst []]) := by
      refine ⟨fun a u e => ?_, by simp [s.lay.len], fun n c hc => ?_, ?_, fun a ha => ?_⟩
      · rw [upd_ne (by rintro rfl; rw [f2] at e; cases e)]
        exact s.lay.sub a u e
      · by_cases hn : n < st.length
        · rw [List.getElem?_append_left hn] at hc
          obtain ⟨a, ha, cc⟩ := s.lay.cell n c hc
          refine ⟨a, by rw [List.getElem?_append_left (by rw [s.lay.len]; exact hn)]; exact ha, ?_⟩
          exact cc.grow (upd_sub hq) (Sub.refl _)
        · rw [List.getElem?_append_right (by omega)] at hc
          have hn' : n = st.length := by
            have := (List.getElem?_eq_some_iff.mp hc).1
            simp at this
            omega
          subst hn'
          simp only [Nat.sub_self, List.getElem?_cons_zero, Option.some.injEq] at hc
          subst hc
          refine ⟨q, by rw [List.getElem?_append_right (by rw [s.lay.len]; exact Nat.le_refl _), s.lay.len]; simp, [], upd_same, Reps.nil⟩
      · rw [List.nodup_append]
        exact ⟨s.lay.nd, by simp, fun a ha b hb => by
          simp only [List.mem_singleton] at hb
          subst hb
          rintro rfl
          exact f1 ha⟩
      · rcases List.mem_append.mp ha with ha | ha
        · exact s.lay.free a ha
        · simp only [List.mem_singleton] at ha
          subst ha
          exact f2
    have x1 : Ext H G β (upd H q (.lst [])) G (β ++ [q]) := ⟨fun a u e _ => upd_sub hq _ _ e, Sub.refl _, fun _ h _ => h, [q], rfl, by simpa using hq⟩
    have s1 : ST Y.K H0 G0 β0 ρ (st ++ [.lst []]) σ (upd H q (.lst [])) G (β ++ [q]) := s.step x1 lay'
    refine p _ _ G (β ++ [q]) (s1.put i (x := .loc st.length) (v := .ref q) ⟨q, ?_, rfl⟩) sg
    rw [List.getElem?_append_right (by rw [s.lay.len]; exact Nat.le_refl _), s.lay.len]
    simp
  · exact p.elim
theorem s_appendL {i : Nat} {x m : Str} {px apos cpos : Pos} (o : Okx X C Y) (h : chkVar C i x = true) (hm : m = "append") (he : PE X a (tE Y e1)) (hs : noStar a = true) (hl : (apos.endLine == cpos.line) = true) :
    PS X (.Expr (.Call (.Attribute (.Name x px) m apos) [a] [] cpos) pos) (tS Y (.appendL i e1)) := by
  obtain ⟨h1, h2, h3⟩ := chkVar_ok o h
  subst hm
  refine (ps_expr (pe_bm F.plainAttrs_list F.slot_list_append F.type_list_append mt_append (pe_var h1 h2 (plain_d h3) (plain_c h3)) (pa_cons he pa_nil (star_of [] hs)) (base_of rfl) (few_of hs) hl (star_of [] hs) rfl) rfl).imp fun D σ H q => ?_
  obtain ⟨H0, G0, β0, ρ, st, G, β, Gm, s, sg, p⟩ := q
  unfold run1 at p
  rw [runS] at p
  split at p
  · rename_i n e
    have hv : (ρ[i]?).bind Slot.val = some (.loc n) := by rw [e]; rfl
    obtain ⟨v, hq, q, hb, rfl⟩ := var_read s hv
    have hmem : q ∈ β := List.mem_of_getElem? hb
    have hcell : ∃ cc, st[n]? = some cc := by
      have : n < st.length := by rw [← s.lay.len]; exact (List.getElem?_eq_some_iff.mp hb).1
      exact ⟨_, List.getElem?_eq_getElem this⟩
    refine ⟨_, hq, .inl ⟨rfl, ?_⟩, H0, G0, β0, ρ, st, G, β, s, (PtO.needK s sg p).mono fun u H1 ⟨v, st1, G1, β1, x1, s1, sg1, r1, p1⟩ => ?_⟩
    · obtain ⟨cc, hcc⟩ := hcell
      obtain ⟨q', hb', c0⟩ := s.lay.cell n cc hcc
      rw [hb] at hb'
      cases hb'
      cases cc with
      | lst xs => obtain ⟨vs, e, _⟩ := c0; exact ⟨vs, .of e⟩
      | dct _ => exact c0.elim
      | ins _ _ => exact c0.elim
    · split at p1
      · rename_i xs hst
        split at p1
        · rename_i hz
          obtain ⟨q', hb', vs, hvs, hr⟩ := s1.lay.cell n _ hst
          have hbb : β1[n]? = some q := by
            obtain ⟨γ, rfl, _⟩ := x1.pre
            rw [List.getElem?_append_left (List.getElem?_eq_some_iff.mp hb).1]
            exact hb
          rw [hbb] at hb'
          cases hb'
          have hmem1 : q ∈ β1 := List.mem_of_getElem? hbb
          have hGq : G1 q = none := s1.lay.free q hmem1
          refine ⟨q, vs, u, rfl, rfl, hvs, by rw [← hr.length, ← lim_eq]; exact hz, ?_⟩
          refine p1 σ _ G1 β1 ⟨⟨fun a u e => ?_, by simp [s1.lay.len], fun k c hc => ?_, s1.lay.nd, s1.lay.free⟩, ⟨fun a u ha hna => ?_, s1.ext.sub, s1.ext.new, s1.ext.pre⟩, s1.len, fun j t ht => ?_, s1.apart⟩ sg1
          · rw [upd_ne (by rintro rfl; rw [hGq] at e; cases e)]
            exact s1.lay.sub a u e
          · rw [List.getElem?_set] at hc
            split at hc
            · rename_i e1
              subst e1
              split at hc
              · cases hc
                exact ⟨q, hbb, _, upd_same, Reps.append hr (Reps.cons r1 Reps.nil)⟩
              · cases hc
            · rename_i e1
              obtain ⟨a, ha, cc⟩ := s1.lay.cell k c hc
              refine ⟨a, ha, ?_⟩
              have hne : a ≠ q := by
                rintro rfl
                exact e1 (nd_inj s1.lay.nd hbb ha)
              cases c with
              | lst ys => obtain ⟨ws, e, r⟩ := cc; exact ⟨ws, by rw [upd_ne hne]; exact e, r⟩
              | dct _ => exact cc.elim
              | ins _ _ => exact cc.elim
          · have hne : a ≠ q := by
              rintro rfl
              obtain ⟨γ, rfl, hγ⟩ := s1.ext.pre
              rcases List.mem_append.mp hmem1 with hh | hh
              · exact hna hh
              · rw [hγ a hh] at ha; cases ha
            rw [upd_ne hne]
            exact s1.ext.keep a u ha hna
          · obtain ⟨o, g1, g2⟩ := s1.slot j t ht
            refine ⟨o, g1, ?_⟩
            cases t with
            | un => trivial
            | v x => exact g2
            | ol zs =>
              obtain ⟨q', ws, e3, b1, b2, b3, b4, b5⟩ := g2
              have hne : q' ≠ q := by rintro rfl; exact b3 hmem1
              exact ⟨q', ws, e3, by rw [upd_ne hne]; exact b1, b2, b3, b4, b5⟩
            | od _ => exact g2.elim
        · exact p1.elim
      · exact p1.elim
  · exact p.elim
/-! ### a, b = x, y -/
theorem s_par {i j : Nat} {x y : Str} {px py pt p2 : Pos} {kt k2 : Nat} (o : Okx X C Y) (hi : X.N[i]? = some x) (hj : X.N[j]? = some y) (hij : i ≠ j) (hx : X.env.scope.names.lookup x = some .local) (hy : X.env.scope.names.lookup y = some .local)
    (ha : PA X [a, b] (tAv Y es)) (hw : swappedStores [.Tuple [.Name x px, .Name y py] kt pt] (.Tuple [a, b] k2 p2) X.env = pure (some [x, y])) : PS X (.Assign [.Tuple [.Name x px, .Name y py] kt pt] (.Tuple [a, b] k2 p2) pos) (tS Y (.par [i, j] es)) :=
  (ps_par o.calm o.nd hi hj hij hx hy ha hw rfl).imp fun D σ H q => by
    obtain ⟨H0, G0, β0, ρ, st, G, β, Gm, s, sg, p⟩ := q
    unfold run1 at p
    rw [runS] at p
    refine ⟨H0, G0, β0, ρ, st, G, β, s, (PtO.bind (Rel := RlVs Y) s sg p).mono fun us H1 ⟨xs, st1, G1, β1, x1, s1, sg1, r1, p1⟩ => ?_⟩
    match xs, us, r1, p1 with
    | [v, w], [u, t], r1, p1 =>
      refine ⟨u, t, rfl, ?_⟩
      simp only [setAll, setS] at p1
      split at p1
      · rw [Option.bind_some] at p1
        split at p1
        · exact p1 _ H1 G1 β1 ((s1.put i r1.1).put j r1.2.1) sg1
        · exact p1.elim
      · exact p1.elim
    | [], _, _, p1 => exact p1.elim
    | [v], _, _, p1 =>
      simp only [setAll, setS] at p1
      split at p1 <;> exact p1.elim
    | _ :: _ :: _ :: _, _, _, p1 =>
      simp only [setAll, setS] at p1
      split at p1
      · rw [Option.bind_some] at p1
        split at p1 <;> exact p1.elim
      · exact p1.elim
    | [_, _], [], r1, _ => simp [RepVs] at r1
    | [_, _], [_], r1, _ => simp [RepVs] at r1
    | [_, _], _ :: _ :: _ :: _, r1, _ => simp [RepVs] at r1
theorem s_par3 {i j k : Nat} {x y z : Str} {px py pz pt p2 : Pos} {kt k2 : Nat} (o : Okx X C Y) (hi : X.N[i]? = some x) (hj : X.N[j]? = some y) (hk : X.N[k]? = some z) (hij : i ≠ j) (hik : i ≠ k) (hjk : j ≠ k) (hx : X.env.scope.names.lookup x = some .local) (hy : X.env.scope.names.lookup y = some .local) (hz : X.env.scope.names.lookup z = some .local)
    (ha : PA X [a, b, c] (tAv Y es)) (hw : swappedStores [.Tuple [.Name x px, .Name y py, .Name z pz] kt pt] (.Tuple [a, b, c] k2 p2) X.env = pure (some [x, y, z])) : PS X (.Assign [.Tuple [.Name x px, .Name y py, .Name z pz] kt pt] (.Tuple [a, b, c] k2 p2) pos) (tS Y (.par [i, j, k] es)) :=
  (ps_par3 o.calm o.nd hi hj hk hij hik hjk hx hy hz ha hw rfl).imp fun D σ H q => by
    obtain ⟨H0, G0, β0, ρ, st, G, β, Gm, s, sg, p⟩ := q
    unfold run1 at p
    rw [runS] at p
    refine ⟨H0, G0, β0, ρ, st, G, β, s, (PtO.bind (Rel := RlVs Y) s sg p).mono fun us H1 ⟨xs, st1, G1, β1, x1, s1, sg1, r1, p1⟩ => ?_⟩
    match xs, us, r1, p1 with
    | [v, w, v3], [u, t, u3], r1, p1 =>
      refine ⟨u, t, u3, rfl, ?_⟩
      simp only [setAll, setS] at p1
      split at p1
      · rw [Option.bind_some] at p1
        split at p1
        · rw [Option.bind_some] at p1
          split at p1
          · exact p1 _ H1 G1 β1 (((s1.put i r1.1).put j r1.2.1).put k r1.2.2.1) sg1
          · exact p1.elim
        · exact p1.elim
      · exact p1.elim
    | [], _, _, p1 => exact p1.elim
    | [v], _, _, p1 =>
      simp only [setAll, setS] at p1
      split at p1 <;> exact p1.elim
    | [v, w], _, _, p1 =>
      simp only [setAll, setS] at p1
      split at p1
      · rw [Option.bind_some] at p1
        split at p1 <;> exact p1.elim
      · exact p1.elim
    | _ :: _ :: _ :: _ :: _, _, _, p1 =>
      simp only [setAll, setS] at p1
      split at p1
      · rw [Option.bind_some] at p1
        split at p1
        · rw [Option.bind_some] at p1
          split at p1 <;> exact p1.elim
        · exact p1.elim
      · exact p1.elim
    | [_, _, _], [], r1, _ => simp [RepVs] at r1
    | [_, _, _], [_], r1, _ => simp [RepVs] at r1
    | [_, _, _], [_, _], r1, _ => simp [RepVs] at r1
    | [_, _, _], _ :: _ :: _ :: _ :: _, r1, _ => simp [RepVs] at r1
/-! ### loops -/
theorem _root_.L2.PS.nox {st : Stmt} {t : TS} (h : PS X.nox st t) : PS X st t := ⟨fun pins s σ H D I hw =>
  wpAny_mono (h.run pins s σ H D (I.wish _) hw) (fun _ _ q => q.unwish) fun _ _ z => False.elim z⟩
theorem Okx.nox (o : Okx X C Y) : Okx X.nox C Y.nox where
  K := o.K
  N := o.N
  sc := o.sc
  fn := o.fn
  nd := o.nd
  calm := o.calm
  hu := o.hu
  glob := o.glob
  free := o.free
  tab := o.tab
  tk := fun u s' h => by
    obtain ⟨_, _, _, _, _, _, _, _, _, _, _, _, _, _, _, _, h⟩ := h
    exact h
  exc := o.exc
  kind := o.kind
  call := o.call
theorem s_for {tg iter : Expr} {t : Tg} {it : It} (o : Okx X C Y) (hi : PI X.nox tg iter (tI Y.nox it)) (hg : PG X.nox tg (gT Y.nox t)) (hb : PSs X.nox sts (tSs Y.nox ss)) (hs : ∀ x, foldedSetIterable iter X.env x = pure x) : PS X (.For tg iter sts [] pos) (tS Y (.fors t it ss)) := by
  refine L2.PS.nox ((ps_for (X := X.nox) PassesOwn.never o.calm hi hg hb hs).imp fun D σ H q => ?_)
  obtain ⟨H0, G0, β0, ρ, st, G, β, Gm, s, sg, p⟩ := q
  unfold run1 at p
  rw [runS] at p
  refine ⟨H0, G0, β0, ρ, st, G, β, s, ?_⟩
  show Pt Y.nox (evI Y.gv Y.tv Y.cf it ρ st) _ H G β _
  cases zi : evI Y.gv Y.tv Y.cf it ρ st with
  | bad => rw [zi] at p; exact p.elim
  | exc c st1 => rw [zi] at p; exact p.elim
  | ok xs st1 =>
    rw [zi] at p
    simp only [Rs.calm] at p
    intro J H1 G1 β1 x1 l1 ⟨hz, wk⟩
    refine ⟨fun i m σ H => m = xs.length - i ∧ ∃ G β ρ st, ST Y.K H0 G0 β0 ρ st σ H G β ∧ Sub G1 G ∧ PtO Y (forL t (runAll Y ss) (xs.drop i) ρ st) H0 G0 β0 Gm D, ⟨xs.length, by omega, G1, β1, ρ, st1, s.step x1 l1, Sub.refl _, p⟩, ?_⟩
    rintro i m σ2 H2 ⟨hm, G2, β2, ρ2, st2, s2, sg2, p2⟩
    obtain ⟨wgo, wstop⟩ := wk H2 G2 i sg2 s2.lay.sub
    cases hx : xs[i]? with
    | none =>
      refine .inl ⟨wstop hx, ?_⟩
      have hi : xs.length ≤ i := List.getElem?_eq_none_iff.mp hx
      rw [List.drop_eq_nil_of_le hi] at p2
      exact p2 σ2 H2 G2 β2 s2 ((sg.trans x1.sub).trans sg2)
    | some x =>
      have hi := (List.getElem?_eq_some_iff.mp hx).1
      have hdrop : xs.drop i = x :: xs.drop (i + 1) := by
        rw [List.drop_eq_getElem_cons hi]
        congr 1
        exact Option.some.inj ((List.getElem?_eq_getElem hi).symm.trans hx)
      obtain ⟨go, yld⟩ := wgo x hx
      rw [hdrop, forL] at p2
      refine .inr ⟨go, fun σ' H' => ∃ G β ρ st, ST Y.K H0 G0 β0 ρ st σ' H' G β ∧ Sub G1 G ∧ PtO Y (forL t (runAll Y ss) (xs.drop (i + 1)) ρ st) H0 G0 β0 Gm D, fun σ' H' h => ⟨xs.length - (i + 1), by omega, rfl, h⟩, fun v H3 y => ?_⟩
      obtain ⟨G3, g3, rv⟩ := yld v H3 y
      cases hput : t.put x ρ2 with
      | none => rw [hput] at p2; exact p2.elim
      | some ρ' =>
        rw [hput] at p2
        dsimp only at p2
        refine ⟨H0, G0, β0, ρ2, st2, G3, β2, x, ρ', s2.step (g3.ext β2) (g3.lay s2.lay), rv, hput, fun σ4 o4 s4 => ?_⟩
        refine ⟨H0, G0, β0, ρ', st2, G3, β2, G1, s4, sg2.trans g3.sub, ?_⟩
        show PtO Y.nox (runAll Y ss ρ' st2) H0 G0 β0 G1 _
        cases hr : runAll Y ss ρ' st2 with
        | nx ρ5 st5 =>
          rw [hr] at p2
          exact fun σ5 H5 G5 β5 s5 sg5 => ⟨G5, β5, ρ5, st5, s5, sg5, p2⟩
        | cont ρ5 st5 =>
          rw [hr] at p2
          exact fun σ5 H5 G5 β5 s5 sg5 => ⟨G5, β5, ρ5, st5, s5, sg5, p2⟩
        | brk ρ5 st5 =>
          rw [hr] at p2
          exact fun σ5 H5 G5 β5 s5 sg5 => p2 σ5 H5 G5 β5 s5 ((sg.trans x1.sub).trans sg5)
        | ret v5 st5 =>
          rw [hr] at p2
          exact p2
        | exc c5 st5 => rw [hr] at p2; exact p2.elim
        | bad => rw [hr] at p2; exact p2.elim
theorem s_while (o : Okx X C Y) (hc : PT X.nox c (tQ Y.nox e1)) (hb : PSs X.nox sts (tSs Y.nox ss)) : PS X (.While c sts [] pos) (tS Y (.whiles e1 ss)) := by
  refine L2.PS.nox ((ps_while (X := X.nox) PassesOwn.never hc hb).imp fun D σ H q => ?_)
  obtain ⟨H0, G0, β0, ρ, st, G, β, Gm, s, sg, p⟩ := q
  unfold run1 at p
  rw [runS] at p
  refine ⟨fun m σ H => ∃ G β ρ st, ST Y.K H0 G0 β0 ρ st σ H G β ∧ Sub Gm G ∧ PtO Y (whileL (fun ρ st => needD (ev Y e1 ρ st)) (runAll Y ss) m ρ st) H0 G0 β0 Gm D, ⟨wf, G, β, ρ, st, s, sg, p⟩, ?_⟩
  rintro m σ2 H2 ⟨G2, β2, ρ2, st2, s2, sg2, p2⟩
  cases m with
  | zero => exact p2.elim
  | succ m =>
    rw [whileL] at p2
    refine ⟨H0, G0, β0, ρ2, st2, G2, β2, s2, ?_⟩
    show Pt Y.nox (needB (ev Y e1 ρ2 st2)) RlB H2 G2 β2 _
    unfold needB
    cases hd : needD (ev Y e1 ρ2 st2) with
    | bad => rw [hd] at p2; exact p2.elim
    | exc c st3 => rw [hd] at p2; exact p2.elim
    | ok x st3 =>
      rw [hd] at p2
      cases x with
      | bool k =>
        intro u H3 G3 β3 x3 l3 hu
        subst hu
        have s3 := s2.step x3 l3
        cases u with
        | false =>
          rw [if_neg Bool.false_ne_true]
          exact p2 σ2 H3 G3 β3 s3 (sg2.trans x3.sub)
        | true =>
          rw [if_pos rfl]
          refine ⟨fun σ' H' => ∃ G β ρ st, ST Y.K H0 G0 β0 ρ st σ' H' G β ∧ Sub Gm G ∧ PtO Y (whileL (fun ρ st => needD (ev Y e1 ρ st)) (runAll Y ss) m ρ st) H0 G0 β0 Gm D, fun σ' H' h => ⟨m, by omega, h⟩, H0, G0, β0, ρ2, st3, G3, β3, Gm, s3, sg2.trans x3.sub, ?_⟩
          simp only [Rs.calm] at p2
          show PtO Y.nox (runAll Y ss ρ2 st3) H0 G0 β0 Gm _
          cases hr : runAll Y ss ρ2 st3 with
          | nx ρ5 st5 => rw [hr] at p2; exact fun σ5 H5 G5 β5 s5 sg5 => ⟨G5, β5, ρ5, st5, s5, sg5, p2⟩
          | cont ρ5 st5 => rw [hr] at p2; exact fun σ5 H5 G5 β5 s5 sg5 => ⟨G5, β5, ρ5, st5, s5, sg5, p2⟩
          | brk ρ5 st5 => rw [hr] at p2; exact p2
          | ret v5 st5 => rw [hr] at p2; exact p2
          | exc c5 st5 => rw [hr] at p2; exact p2.elim
          | bad => rw [hr] at p2; exact p2.elim
      | _ => exact p2.elim
/-! ### raise -/
theorem s_raise {k : Nat} {x m : Str} {j : Nat} {p1 p2 p3 : Pos} (o : Okx X C Y) (hx : C.cname k = some x) (hg : chkGl C x = true) : PS X (.Raise (some (.Call (.Name x p1) [.Constant (.str m) j p2] [] p3)) none pos) (tS Y (.raise k)) := by
  obtain ⟨fa, B, n1, n2, bm, h1, h2, h3, h4, h5, h6⟩ := o.exc k x hx
  obtain ⟨g1, g2⟩ := chkGl_ok o hg
  refine (L2.ps_raise o.calm o.tk (L2.pmk_own h4 h5 h2 h3 h6 g1 (plain_d g2))).imp fun D σ H q => ?_
  obtain ⟨H0, G0, β0, ρ, st, G, β, Gm, s, sg, p⟩ := q
  have := p H G β s.ext s.lay
  rw [h1] at this
  exact this
end
end Ip
/-! Ip14: whether a term of the small language tells a text. -/
namespace Ip
open PySem PySem.Spec PyProof.Rows L2

/-- what is wanted of an expression: a look, a value that is kept, a list just made, a test -/
inductive Md where
  | look | keep | fresh | test
def bopOk : Bop → Operator → Bool
  | .add, .Add => true
  | .sub, .Sub => true
  | .mul, .Mult => true
  | .mod, .Mod => true
  | .fdiv, .FloorDiv => true
  | .pow, .Pow => true
  | _, _ => false
def copOk : Cop → CmpOp → Bool
  | .eq, .Eq => true
  | .ne, .NotEq => true
  | .lt, .Lt => true
  | .le, .LtE => true
  | .gt, .Gt => true
  | .ge, .GtE => true
  | .isin, .In => true
  | .notin, .NotIn => true
  | _, _ => false
def conOk (d : D) (c : Const) : Bool :=
  match c with
  | .none => match d with | .none => true | _ => false
  | .bool b => match d with | .bool b' => b == b' | _ => false
  | .int i => match d with | .int i' => i == i' | _ => false
  | .str x => match d with | .str x' => x == x' | _ => false
  | _ => false
def notSet : Expr → Bool
  | .Set .. => false
  | _ => true
def isComp : Expr → Bool
  | .ListComp .. => true
  | .SetComp .. => true
  | .DictComp .. => true
  | _ => false
/-- its test is its value's -/
def plainTest : Expr → Bool
  | .UnaryOp .. => false
  | .BoolOp .. => false
  | .IfExp .. => false
  | .Compare .. => false
  | _ => true
def Md.val : Md → Bool
  | .fresh => false
  | _ => true
/-- a value, as it is wanted -/
def Md.as (m : Md) (a : Expr) : Bool :=
  match m with
  | .look => true
  | .keep => true
  | .fresh => false
  | .test => plainTest a
def Md.asF (m : Md) (a : Expr) : Bool :=
  match m with
  | .test => plainTest a
  | _ => true
/-- a comparison: its test is told of itself -/
def Md.asQ (m : Md) : Bool :=
  match m with
  | .fresh => false
  | _ => true
def nm (N : List Str) (i : Nat) : Str := (N[i]?).getD ⟨#[]⟩
def withNames (N : List Str) (own : List Nat) : List (Str × Nat) := own.map fun i => (nm N i, i)
theorem withNames_map (N : List Str) (own : List Nat) : (withNames N own).map (·.2) = own := by
  unfold withNames
  rw [List.map_map]
  show own.map id = own
  exact List.map_id own
/-- a name that is stored -/
def locB (C : Sc) (x : Str) : Bool := match C.sc.names.lookup x with
  | some .local => true
  | some .cell => C.fn x
  | _ => false
def chkLoc (C : Sc) (i : Nat) (x : Str) : Bool := (match C.N[i]? with | some y => y == x | none => false) && locB C x
mutual
def chkTg (C : Sc) (t : Tg) (a : Expr) : Bool :=
  match t with
  | .name i => match a with
    | .Name x _ => chkLoc C i x
    | _ => false
  | .tup ts => match a with
    | .Tuple l _ _ => chkTgs C ts l && noStars l && (l.length == ts.len)
    | _ => false
def chkTgs (C : Sc) (t : Tgs) (l : List Expr) : Bool :=
  match t with
  | .nil => l.isEmpty
  | .cons t r => match l with
    | a :: l => chkTg C t a && chkTgs C r l
    | [] => false
end
def blkT (C : Sc) (own : List Nat) (t : Tg) (tg iter : Expr) (scope : Scope) : Bool :=
  blkC C.N C.sc scope (withNames C.N own) && notSet iter && (t.binds.all fun i => own.contains i) && chkTg (C.blk scope) t tg
mutual
def chk (m : Md) (C : Sc) (e : Ex) (a : Expr) : Bool :=
  match e with
  | .var i => m.val && match a with
    | .Name x _ => chkVar C i x
    | _ => false
  | .tv i => (match m with | .look => true | _ => false) && match a with
    | .Name x _ => chkVar C i x
    | _ => false
  | .con d => m.val && match a with
    | .Constant c _ _ => conOk d c
    | _ => false
  | .glob g => m.val && match a with
    | .Name x _ => (match C.gname g with | some y => y == x | none => false) && chkGl C x
    | _ => false
  | .tup es => m.val && match a with
    | .Tuple l _ _ => chkL .keep C es l && decide (es.len ≤ 1000)
    | _ => false
  | .lst es => match a with
    | .List l _ => chkL .keep C es l && decide (es.len ≤ 1000)
    | _ => false
  | .bin o x y => m.as a && match a with
    | .BinOp b op c _ => bopOk o op && chk .look C x b && chk .look C y c
    | _ => false
  | .neg x => m.as a && match a with
    | .UnaryOp .USub b _ => chk .look C x b
    | _ => false
  | .not x => m.val && match a with
    | .UnaryOp .Not b _ => match m with
      | .test => chk .test C x b
      | _ => chk .look C x b
    | _ => false
  | .and x y => m.val && match a with
    | .BoolOp .And (b :: c :: r) p => match m with
      | .test => chk .test C x b && chk .test C y (match r with | [] => c | d :: r => .BoolOp .And (c :: d :: r) p)
      | _ => chk .look C x b && chk .keep C y (match r with | [] => c | d :: r => .BoolOp .And (c :: d :: r) p)
    | _ => false
  | .or x y => m.val && match a with
    | .BoolOp .Or (b :: c :: r) p => match m with
      | .test => chk .test C x b && chk .test C y (match r with | [] => c | d :: r => .BoolOp .Or (c :: d :: r) p)
      | _ => chk .look C x b && chk .keep C y (match r with | [] => c | d :: r => .BoolOp .Or (c :: d :: r) p)
    | _ => false
  | .cmp o x y => m.val && match a with
    | .Compare b [op] [c] _ => copOk o op && chk .look C x b && chk .look C y c && notSet c
    | _ => false
  | .chain o q x y z => m.val && match a with
    | .Compare b [op, op'] [c, d] _ => copOk o op && copOk q op' && chk .look C x b && chk .look C y c && chk .look C z d && notSet d
    | _ => false
  | .isn n x => m.val && match a with
    | .Compare b [op] [.Constant .none _ _] _ => (match n, op with | false, .Is => true | true, .IsNot => true | _, _ => false) && chk .look C x b
    | _ => false
  | .ist n x => m.val && match a with
    | .Compare b [op] [.Constant (.bool true) _ _] _ => (match n, op with | false, .Is => true | true, .IsNot => true | _, _ => false) && chk .look C x b
    | _ => false
  | .ite c x y => m.as a && match a with
    | .IfExp t b d _ => chk .test C c t && chk .keep C x b && chk .keep C y d
    | _ => false
  | .idx x y => m.as a && match a with
    | .Subscript b c _ => chk .look C x b && chk .look C y c && notSlice c
    | _ => false
  | .slc x y z => m.as a && match a with
    | .Subscript b (.Slice (some c) (some d) none _) _ => chk .look C x b && chk .look C y c && chk .look C z d
    | _ => false
  | .slo x y => m.as a && match a with
    | .Subscript b (.Slice (some c) none none _) _ => chk .look C x b && chk .look C y c
    | _ => false
  | .shi x y => m.as a && match a with
    | .Subscript b (.Slice none (some c) none _) _ => chk .look C x b && chk .look C y c
    | _ => false
  | .rev x => m.as a && match a with
    | .Subscript b (.Slice none none (some (.UnaryOp .USub (.Constant (.int 1) _ _) _)) _) _ => chk .look C x b
    | _ => false
  | .call f es => m.as a && match a with
    | .Call (.Name x _) l [] _ => (match C.fname f with | some (y, n) => y == x && n == es.len | none => false) && chkGl C x && chkL .keep C es l && (match es with | .nil => true | _ => !l.isEmpty)
    | _ => false
  | .bi b es => match b with
    | .isa t => m.as a && match es with
      | .cons x .nil => match a with
        | .Call (.Name f _) [c, .Name y _] [] _ => f == "isinstance" && chkGl C f && y == (tyOf t).1 && chkGl C y && chk .look C x c && noStar c
        | _ => false
      | _ => false
    | .sorted => m.asF a && match a with
      | .Call (.Name x _) l [] _ => x == "sorted" && chkGl C x && chkL .look C es l && !l.isEmpty
      | _ => false
    | .list => m.asF a && match a with
      | .Call (.Name x _) l [] _ => x == "list" && chkGl C x && chkL .look C es l && !l.isEmpty
      | _ => false
    | b => m.as a && match a with
      | .Call (.Name x _) l [] _ => plainBi b && x == bname b && chkGl C x && chkL .look C es l && !l.isEmpty
      | _ => false
  | .smt k x y => m.as a && match a with
    | .Call (.Attribute b f apos) [c] [] p => f == mname k && chk .look C x b && chk .look C y c && noStar c && noCall b && (apos.endLine == p.line)
    | _ => false
  | .comp own elt t it => m.asF a && match a with
    | .ListComp b [⟨tg, iter, [], 0⟩] scope _ => blkT C own t tg iter scope && chkI C it tg iter && chk .keep (C.blk scope) elt b
    | _ => false
  | .compIf own elt t it c => m.asF a && match a with
    | .ListComp b [⟨tg, iter, [d], 0⟩] scope _ => blkT C own t tg iter scope && chkI C it tg iter && chk .keep (C.blk scope) elt b && chk .test (C.blk scope) c d
    | _ => false
  | .tab g x => m.as a && match a with
    | .Subscript (.Name f _) c _ => (match C.tname g with | some y => y == f | none => false) && chkGl C f && chk .look C x c && notSlice c
    | _ => false
  | .lenL i => m.as a && match a with
    | .Call (.Name f _) [.Name x _] [] _ => f == "len" && chkGl C f && chkVar C i x
    | _ => false
  | .lenS i => m.as a && match a with
    | .Call (.Name f _) [.Name x _] [] _ => f == "len" && chkGl C f && chkVar C i x
    | _ => false
  | .idxS i x => m.as a && match a with
    | .Subscript (.Name f _) c _ => chkVar C i f && chk .look C x c && notSlice c
    | _ => false
  | .nilS i => m.val && match a with
    | .Compare (.Name x _) [.Eq] [.List [] _] _ => chkVar C i x
    | _ => false
def chkL (m : Md) (C : Sc) (es : Exs) (l : List Expr) : Bool :=
  match es with
  | .nil => l.isEmpty
  | .cons e r => match l with
    | a :: l => chk m C e a && noStar a && chkL m C r l
    | [] => false
def chkI (C : Sc) (it : It) (tg iter : Expr) : Bool :=
  match it with
  | .seq e => chk .keep C e iter
  | .rng1 e => match iter with
    | .Call (.Name f _) [b] [] _ => f == "range" && chkGl C f && chk .look C e b && noStar b
    | _ => false
  | .rng2 x y => match iter with
    | .Call (.Name f _) [b, c] [] _ => f == "range" && chkGl C f && chk .look C x b && chk .look C y c && noStar b && noStar c
    | _ => false
  | .enum e => match tg with
    | .Tuple .. => match iter with
      | .Call (.Name f _) [b] [] _ => f == "enumerate" && chkGl C f && chk .keep C e b && noStar b
      | _ => false
    | _ => false
  | .zip x y => match tg with
    | .Tuple .. => match iter with
      | .Call (.Name f _) [b, c] [] _ => f == "zip" && chkGl C f && chk .keep C x b && chk .keep C y c && noStar b && noStar c
      | _ => false
    | _ => false
end
end Ip
/-! Ip15: what is told is so: expressions. -/
namespace Ip
open PySem PySem.Spec PyProof.Rows L2

section
variable {X : Cx} {C : Sc} {Y : Wd} {a b c : Expr} {e1 e2 e3 e : Ex} {es : Exs} {l : List Expr} {pos : Pos}
theorem tQ_val {σ : L2.St} {H : Hp} {Q : Bool → Hp → Prop} (q : tQ Y e σ H Q) : tE Y e σ H fun x H' => ∃ k, x = .bl k ∧ Q k H' := by
  obtain ⟨H0, G0, β0, ρ, st, G, β, s, p⟩ := q
  refine ⟨H0, G0, β0, ρ, st, G, β, s, ?_⟩
  have p' : Pt Y ((needB (ev Y e ρ st)).bind fun b st => .ok b st) RlB H G β Q := by
    rw [Rs.eta]; exact p
  exact q_cmp.tT_weak (Pt.needB p') fun u H1 ⟨b, st1, G1, β1, hu, x1, l1, p1⟩ => ⟨b, hu, p1 b H1 G1 β1 (Ext.refl ..) l1 rfl⟩
theorem isn_read {σ : L2.St} {H : Hp} {Q : VK} (q : tE Y (.isn false e1) σ H Q) : tIsN (tT Y e1) σ H Q := by
  obtain ⟨H0, G0, β0, ρ, st, G, β, s, p⟩ := q
  simp only [ev, evE] at p
  refine ⟨H0, G0, β0, ρ, st, G, β, s, (Pt.need p).mono fun u H1 ⟨x, st1, G1, β1, x1, l1, r1, p1⟩ => ?_⟩
  rw [none_iff r1.o]
  refine p1 _ H1 G1 β1 (Ext.refl ..) l1 ?_
  show Rep _ _ _ _
  rw [Rep]
  cases x <;> rfl
theorem isnt_read {σ : L2.St} {H : Hp} {Q : VK} (q : tE Y (.isn true e1) σ H Q) : tNotN (tT Y e1) σ H Q := by
  obtain ⟨H0, G0, β0, ρ, st, G, β, s, p⟩ := q
  simp only [ev, evE] at p
  refine ⟨H0, G0, β0, ρ, st, G, β, s, (Pt.need p).mono fun u H1 ⟨x, st1, G1, β1, x1, l1, r1, p1⟩ => ?_⟩
  rw [none_iff r1.o]
  refine p1 _ H1 G1 β1 (Ext.refl ..) l1 ?_
  show Rep _ _ _ _
  rw [Rep]
  cases x <;> rfl
theorem ist_read {σ : L2.St} {H : Hp} {Q : VK} (q : tE Y (.ist false e1) σ H Q) : tOp (fun x y H Q => ∃ a b : Bool, x = .bl a ∧ y = .bl b ∧ Q (.bl (decide (a = b))) H) (tT Y e1) (tC (.bl true)) σ H Q := by
  obtain ⟨H0, G0, β0, ρ, st, G, β, s, p⟩ := q
  simp only [ev, evE] at p
  refine ⟨H0, G0, β0, ρ, st, G, β, s, (Pt.need p).mono fun u H1 ⟨x, st1, G1, β1, x1, l1, r1, p1⟩ => ?_⟩
  cases x with
  | bool b =>
    refine ⟨b, true, r1.o.bool, rfl, p1 _ H1 G1 β1 (Ext.refl ..) l1 ?_⟩
    show Rep _ _ _ _
    rw [Rep]
    cases b <;> rfl
  | _ => exact p1.elim
theorem isnt_readB {σ : L2.St} {H : Hp} {Q : VK} (q : tE Y (.ist true e1) σ H Q) : tOp (fun x y H Q => ∃ a b : Bool, x = .bl a ∧ y = .bl b ∧ Q (.bl (!decide (a = b))) H) (tT Y e1) (tC (.bl true)) σ H Q := by
  obtain ⟨H0, G0, β0, ρ, st, G, β, s, p⟩ := q
  simp only [ev, evE] at p
  refine ⟨H0, G0, β0, ρ, st, G, β, s, (Pt.need p).mono fun u H1 ⟨x, st1, G1, β1, x1, l1, r1, p1⟩ => ?_⟩
  cases x with
  | bool b =>
    refine ⟨b, true, r1.o.bool, rfl, p1 _ H1 G1 β1 (Ext.refl ..) l1 ?_⟩
    show Rep _ _ _ _
    rw [Rep]
    cases b <;> rfl
  | _ => exact p1.elim
def isBool : Expr → Bool
  | .BoolOp .. => true
  | _ => false
def Tells (m : Md) (X : Cx) (Y : Wd) (e : Ex) (a : Expr) : Prop :=
  match m with
  | .look => PE X a (tT Y e)
  | .keep => PE X a (tE Y e)
  | .fresh => PE X a (tF Y e)
  | .test => PT X a (tQ Y e) ∧ (isBool a = true → PW X a (tQ Y e))
theorem PE.asT (h : PE X a (tE Y e)) : PE X a (tT Y e) := h.imp fun σ H Q q => tT_tE q
theorem test_of (h : PE X a (tT Y e)) (hp : plainTest a = true) : PT X a (tQ Y e) ∧ (isBool a = true → PW X a (tQ Y e)) := by
  refine ⟨c_val h fun whole => ?_, fun hb => ?_⟩
  · cases a with
    | UnaryOp => cases hp
    | BoolOp => cases hp
    | IfExp => cases hp
    | Compare => cases hp
    | _ => rfl
  · cases a with
    | BoolOp => cases hp
    | _ => cases hb
theorem as_of {m : Md} (h : PE X a (tE Y e)) (hm : m.as a = true) : Tells m X Y e a := by
  cases m with
  | look => exact PE.asT h
  | keep => exact h
  | fresh => cases hm
  | test => exact test_of (PE.asT h) hm
theorem asF_of {m : Md} (h : PE X a (tF Y e)) (hm : m.asF a = true) : Tells m X Y e a := by
  cases m with
  | look => exact PE.asT (c_fresh h)
  | keep => exact c_fresh h
  | fresh => exact h
  | test => exact test_of (PE.asT (c_fresh h)) hm
theorem val_of {m : Md} (h : PE X a (tE Y e)) (hq : PT X a (tQ Y e)) (hb : isBool a = false) (hm : m.val = true) : Tells m X Y e a := by
  cases m with
  | look => exact PE.asT h
  | keep => exact h
  | fresh => cases hm
  | test => exact ⟨hq, fun h => by rw [hb] at h; cases h⟩
theorem op_of (o : Okx X C Y) {b : Bop} {op : Operator} (h : bopOk b op = true) : OpR X (binaryOp op) (rD Y (binD b)) := by
  cases b <;> cases op <;> first | cases h; done | skip
  · exact o_add o.K
  · exact o_sub
  · exact o_mul o.K
  · exact o_mod
  · exact o_fdiv
  · exact o_pow
theorem cop_of (o : Okx X C Y) {b : Cop} {op : CmpOp} (h : copOk b op = true) : OpR X (compareOp op) (rD Y (cB b)) := by
  cases b <;> cases op <;> first | cases h; done | skip
  · exact o_eq o.K o.hu
  · exact o_ne o.K o.hu
  · exact o_lt
  · exact o_le
  · exact o_gt o.K o.hu
  · exact o_ge
  · exact o_in o.K o.hu
  · exact o_notin o.K o.hu
theorem behind_of {op : CmpOp} : ∀ {b : Expr}, notSet b = true → behindInMarks op b = false := by
  intro b h
  cases b with
  | Set => cases h
  | _ => rfl
theorem folded_of {env : Env} : ∀ {b : Expr}, notSet b = true → ∀ x, foldedSetIterable b env x = pure x := by
  intro b h x
  cases b with
  | Set => cases h
  | _ => rfl
theorem con_of {d : D} {c : Const} {k : Nat} (h : conOk d c = true) : PE X (.Constant c k pos) (tE Y (.con d)) := by
  unfold conOk at h
  split at h
  · split at h
    · exact c_none
    · cases h
  · split at h
    · have := eq_of_beq h; subst this; exact c_bool
    · cases h
  · split at h
    · have := eq_of_beq h; subst this; exact c_int
    · cases h
  · split at h
    · have := eq_of_beq h; subst this; exact c_str
    · cases h
  · cases h
theorem loc_of {i : Nat} {x : Str} (o : Okx X C Y) (h : chkLoc C i x = true) : X.N[i]? = some x ∧ Loc X.env.scope x ∧ (X.fn x = true ∨ X.env.scope.names.lookup x = some .local) := by
  unfold chkLoc at h
  simp only [Bool.and_eq_true] at h
  obtain ⟨h1, h2⟩ := h
  rw [o.N, o.sc, o.fn]
  refine ⟨?_, ?_⟩
  · split at h1
    · rename_i y e
      rw [e, eq_of_beq h1]
    · cases h1
  · unfold locB at h2
    split at h2
    · rename_i e; exact ⟨.inl e, .inr e⟩
    · rename_i e; exact ⟨.inr e, .inl h2⟩
    · cases h2
mutual
theorem tg_of (o : Okx X C Y) : ∀ (t : Tg) (a : Expr), chkTg C t a = true → PG X a (gT Y t)
  | .name i, a, h => by
    rw [chkTg.eq_def] at h
    dsimp only at h
    split at h
    · obtain ⟨h1, h2, h3⟩ := loc_of o h
      exact c_name o h1 h2 h3
    · cases h
  | .tup ts, a, h => by
    rw [chkTg.eq_def] at h
    dsimp only at h
    split at h
    · simp only [Bool.and_eq_true] at h
      exact c_tgtup o (tgs_of o ts _ h.1.1) h.1.2 (eq_of_beq h.2)
    · cases h
theorem tgs_of (o : Okx X C Y) : ∀ (t : Tgs) (l : List Expr), chkTgs C t l = true → PGs X l (gTs Y t)
  | .nil, l, h => by
    rw [chkTgs.eq_def] at h
    dsimp only at h
    cases l with
    | nil => exact c_tgnil
    | cons _ _ => cases h
  | .cons t r, l, h => by
    rw [chkTgs.eq_def] at h
    dsimp only at h
    cases l with
    | nil => cases h
    | cons a l =>
      simp only [Bool.and_eq_true] at h
      refine c_tgcons (tg_of o t a h.1) (tgs_of o r l h.2) ?_
      have h1 := h.1
      cases t with
      | name i =>
        rw [chkTg.eq_def] at h1
        dsimp only at h1
        split at h1
        · rfl
        · cases h1
      | tup ts =>
        rw [chkTg.eq_def] at h1
        dsimp only at h1
        split at h1
        · rfl
        · cases h1
end
end
end Ip
/-! Ip16: what is told is so: all expressions. -/
namespace Ip
open PySem PySem.Spec PyProof.Rows L2

theorem blkT_ok {X : Cx} {C : Sc} {Y : Wd} {own : List Nat} {t : Tg} {tg iter : Expr} {scope : Scope} (h : blkT C own t tg iter scope = true) :
    blkC C.N C.sc scope (withNames C.N own) = true ∧ (∀ env x, foldedSetIterable iter env x = pure x) ∧ (∀ i ∈ t.binds, i ∈ (withNames C.N own).map (·.2)) ∧ chkTg (C.blk scope) t tg = true := by
  unfold blkT at h
  simp only [Bool.and_eq_true, List.all_eq_true] at h
  obtain ⟨⟨⟨h1, h2⟩, h3⟩, h4⟩ := h
  refine ⟨h1, fun env x => folded_of h2 x, fun i hi => ?_, h4⟩
  rw [withNames_map]
  exact List.contains_iff_mem.mp (h3 i hi)
theorem ne_nil {l : List Expr} (h : (!l.isEmpty) = true) : ∃ a r, l = a :: r := by
  cases l with
  | nil => cases h
  | cons a r => exact ⟨a, r, rfl⟩
theorem stars_of (es : Exs) : ∀ (m : Md) (C : Sc) (l : List Expr), chkL m C es l = true → noStars l = true := by
  intro m C l h
  match es with
  | .nil =>
    rw [chkL.eq_def] at h
    dsimp only at h
    cases l with
    | nil => rfl
    | cons _ _ => cases h
  | .cons e r =>
    rw [chkL.eq_def] at h
    dsimp only at h
    cases l with
    | nil => cases h
    | cons a l =>
      simp only [Bool.and_eq_true] at h
      unfold noStars
      rw [h.1.2, stars_of r m C l h.2]
      rfl
theorem lcp_of (own : List Nat) (elt : Ex) (t : Tg) (it : It) (X : Cx) (C : Sc) (Y : Wd) (b tg iter : Expr) (scope : Scope) (o : Okx X C Y) (hi : PI X tg iter (tI Y it)) (he : ∀ X' : Cx, Okx X' (C.blk scope) Y.nox → PE X' b (tE Y.nox elt))
    (h : blkT C own t tg iter scope = true) : LcP X C Y b tg iter scope (withNames C.N own) t it elt := by
  obtain ⟨h1, h2, h3, h4⟩ := blkT_ok (X := X) (Y := Y) h
  exact ⟨hi, h1, fun x => h2 X.env x, h3, fun X' o' => tg_of o' t tg h4, he⟩
theorem lc_tells (own : List Nat) (elt : Ex) (t : Tg) (it : It) (X : Cx) (C : Sc) (Y : Wd) (b tg iter : Expr) (scope : Scope) (p : Pos) (o : Okx X C Y) (hi : PI X tg iter (tI Y it)) (he : ∀ X' : Cx, Okx X' (C.blk scope) Y.nox → PE X' b (tE Y.nox elt))
    (h : blkT C own t tg iter scope = true) : PE X (.ListComp b [⟨tg, iter, [], 0⟩] scope p) (tF Y (.comp own elt t it)) := by
  have := f_comp (pos := p) o (lcp_of own elt t it X C Y b tg iter scope o hi he h)
  rw [withNames_map] at this
  exact this
theorem lcIf_tells (own : List Nat) (elt : Ex) (t : Tg) (it : It) (c : Ex) (X : Cx) (C : Sc) (Y : Wd) (b tg iter d : Expr) (scope : Scope) (p : Pos) (o : Okx X C Y) (hi : PI X tg iter (tI Y it)) (he : ∀ X' : Cx, Okx X' (C.blk scope) Y.nox → PE X' b (tE Y.nox elt))
    (hc : ∀ X' : Cx, Okx X' (C.blk scope) Y.nox → PT X' d (tQ Y.nox c)) (h : blkT C own t tg iter scope = true) : PE X (.ListComp b [⟨tg, iter, [d], 0⟩] scope p) (tF Y (.compIf own elt t it c)) := by
  have := f_compIf (pos := p) o (lcp_of own elt t it X C Y b tg iter scope o hi he h) hc
  rw [withNames_map] at this
  exact this
theorem q_nilS {X : Cx} {C : Sc} {Y : Wd} {pos : Pos} {i : Nat} {x : Str} {p p2 : Pos} (o : Okx X C Y) (h : chkVar C i x = true) : PT X (.Compare (.Name x p) [.Eq] [.List [] p2] pos) (tQ Y (.nilS i)) := by
  obtain ⟨h1, h2, h3⟩ := chkVar_ok o h
  exact (pt_cmpR (op_nilS o.hu) (pe_var h1 h2 (plain_d h3) (plain_c h3)) (pe_lst pa_nil) rfl).imp fun σ H Q q => nilS_read o.K (tQ_val q)
mutual
theorem tells (e : Ex) : ∀ (m : Md) (X : Cx) (C : Sc) (Y : Wd) (a : Expr), Okx X C Y → chk m C e a = true → Tells m X Y e a := by
  intro m X C Y a o h
  match e with
  | .var i =>
    rw [chk.eq_def] at h
    dsimp only at h
    simp only [Bool.and_eq_true] at h
    obtain ⟨hm, h⟩ := h
    split at h
    · have := c_var (Y := Y) (pos := ‹Pos›) o h
      exact val_of this (test_of (PE.asT this) rfl).1 rfl hm
    · cases h
  | .tv i =>
    rw [chk.eq_def] at h
    dsimp only at h
    simp only [Bool.and_eq_true] at h
    obtain ⟨hm, h⟩ := h
    split at h
    · cases m with
      | look => exact c_tv o h
      | _ => cases hm
    · cases h
  | .con d =>
    rw [chk.eq_def] at h
    dsimp only at h
    simp only [Bool.and_eq_true] at h
    obtain ⟨hm, h⟩ := h
    split at h
    · have := con_of (X := X) (Y := Y) (pos := ‹Pos›) (k := ‹Nat›) h
      exact val_of this (test_of (PE.asT this) rfl).1 rfl hm
    · cases h
  | .glob g =>
    rw [chk.eq_def] at h
    dsimp only at h
    simp only [Bool.and_eq_true] at h
    obtain ⟨hm, h⟩ := h
    split at h
    · simp only [Bool.and_eq_true] at h
      obtain ⟨h1, h2⟩ := h
      split at h1
      · rename_i y hy
        have e := eq_of_beq h1
        subst e
        have := c_glob (Y := Y) (pos := ‹Pos›) o hy h2
        exact val_of this (test_of (PE.asT this) rfl).1 rfl hm
      · cases h1
    · cases h
  | .tup es =>
    rw [chk.eq_def] at h
    dsimp only at h
    simp only [Bool.and_eq_true] at h
    obtain ⟨hm, h⟩ := h
    split at h
    · simp only [Bool.and_eq_true, decide_eq_true_eq] at h
      have := c_tup (pos := ‹Pos›) (k := ‹Nat›) (tellsK es X C Y _ o h.1) h.2
      exact val_of this (test_of (PE.asT this) rfl).1 rfl hm
    · cases h
  | .lst es =>
    rw [chk.eq_def] at h
    dsimp only at h
    split at h
    · simp only [Bool.and_eq_true, decide_eq_true_eq] at h
      have := f_lst (pos := ‹Pos›) (tellsK es X C Y _ o h.1) h.2
      exact asF_of this (by cases m <;> rfl)
    · cases h
  | .bin b x y =>
    rw [chk.eq_def] at h
    dsimp only at h
    simp only [Bool.and_eq_true] at h
    obtain ⟨hm, h⟩ := h
    split at h
    · simp only [Bool.and_eq_true] at h
      exact as_of (c_bin (op_of o h.1.1) (tells x .look X C Y _ o h.1.2) (tells y .look X C Y _ o h.2)) hm
    · cases h
  | .neg x =>
    rw [chk.eq_def] at h
    dsimp only at h
    simp only [Bool.and_eq_true] at h
    obtain ⟨hm, h⟩ := h
    split at h
    · exact as_of (c_neg (tells x .look X C Y _ o h)) hm
    · cases h
  | .not x =>
    rw [chk.eq_def] at h
    dsimp only at h
    simp only [Bool.and_eq_true] at h
    obtain ⟨hm, h⟩ := h
    split at h
    · cases m with
      | test => exact ⟨q_not (tells x .test X C Y _ o h).1, fun hb => by cases hb⟩
      | look => exact PE.asT (c_not (tells x .look X C Y _ o h))
      | keep => exact c_not (tells x .look X C Y _ o h)
      | fresh => cases hm
    · cases h
  | .and x y =>
    rw [chk.eq_def] at h
    dsimp only at h
    simp only [Bool.and_eq_true] at h
    obtain ⟨hm, h⟩ := h
    split at h
    · rename_i b c r p
      cases m with
      | test =>
        simp only [Bool.and_eq_true] at h
        obtain ⟨h1, h2⟩ := h
        have t1 := (tells x .test X C Y _ o h1).1
        have t2 := tells y .test X C Y _ o h2
        have w : PW X (.BoolOp .And (b :: c :: r) p) (tQ Y (.and x y)) := by
          cases r with
          | nil => exact q_and2 t1 t2.1
          | cons d r => exact q_and t1 (t2.2 rfl)
        exact ⟨w.pt, fun _ => w⟩
      | look =>
        simp only [Bool.and_eq_true] at h
        obtain ⟨h1, h2⟩ := h
        have t1 := tells x .look X C Y _ o h1
        have t2 := tells y .keep X C Y _ o h2
        cases r with
        | nil => exact PE.asT (c_and2 t1 t2)
        | cons d r => exact PE.asT (c_and t1 t2)
      | keep =>
        simp only [Bool.and_eq_true] at h
        obtain ⟨h1, h2⟩ := h
        have t1 := tells x .look X C Y _ o h1
        have t2 := tells y .keep X C Y _ o h2
        cases r with
        | nil => exact c_and2 t1 t2
        | cons d r => exact c_and t1 t2
      | fresh => cases hm
    · cases h
  | .or x y =>
    rw [chk.eq_def] at h
    dsimp only at h
    simp only [Bool.and_eq_true] at h
    obtain ⟨hm, h⟩ := h
    split at h
    · rename_i b c r p
      cases m with
      | test =>
        simp only [Bool.and_eq_true] at h
        obtain ⟨h1, h2⟩ := h
        have t1 := (tells x .test X C Y _ o h1).1
        have t2 := tells y .test X C Y _ o h2
        have w : PW X (.BoolOp .Or (b :: c :: r) p) (tQ Y (.or x y)) := by
          cases r with
          | nil => exact q_or2 t1 t2.1
          | cons d r => exact q_or t1 (t2.2 rfl)
        exact ⟨w.pt, fun _ => w⟩
      | look =>
        simp only [Bool.and_eq_true] at h
        obtain ⟨h1, h2⟩ := h
        have t1 := tells x .look X C Y _ o h1
        have t2 := tells y .keep X C Y _ o h2
        cases r with
        | nil => exact PE.asT (c_or2 t1 t2)
        | cons d r => exact PE.asT (c_or t1 t2)
      | keep =>
        simp only [Bool.and_eq_true] at h
        obtain ⟨h1, h2⟩ := h
        have t1 := tells x .look X C Y _ o h1
        have t2 := tells y .keep X C Y _ o h2
        cases r with
        | nil => exact c_or2 t1 t2
        | cons d r => exact c_or t1 t2
      | fresh => cases hm
    · cases h
  | .cmp k x y =>
    rw [chk.eq_def] at h
    dsimp only at h
    simp only [Bool.and_eq_true] at h
    obtain ⟨hm, h⟩ := h
    split at h
    · simp only [Bool.and_eq_true] at h
      obtain ⟨⟨⟨h1, h2⟩, h3⟩, h4⟩ := h
      have t1 := tells x .look X C Y _ o h2
      have t2 := tells y .look X C Y _ o h3
      exact val_of (c_cmp (cop_of o h1) t1 t2 (behind_of h4)) (q_cmp (cop_of o h1) t1 t2 (behind_of h4)) rfl hm
    · cases h
  | .chain k q x y z =>
    rw [chk.eq_def] at h
    dsimp only at h
    simp only [Bool.and_eq_true] at h
    obtain ⟨hm, h⟩ := h
    split at h
    · simp only [Bool.and_eq_true] at h
      obtain ⟨⟨⟨⟨⟨h1, h2⟩, h3⟩, h4⟩, h5⟩, h6⟩ := h
      have t1 := tells x .look X C Y _ o h3
      have t2 := tells y .look X C Y _ o h4
      have t3 := tells z .look X C Y _ o h5
      exact val_of (c_chain (cop_of o h1) (cop_of o h2) t1 t2 t3 (behind_of h6)) (q_chain (cop_of o h1) (cop_of o h2) t1 t2 t3 (behind_of h6)) rfl hm
    · cases h
  | .isn n x =>
    rw [chk.eq_def] at h
    dsimp only at h
    simp only [Bool.and_eq_true] at h
    obtain ⟨hm, h⟩ := h
    split at h
    · simp only [Bool.and_eq_true] at h
      obtain ⟨h1, h2⟩ := h
      have t1 := tells x .look X C Y _ o h2
      split at h1
      · exact val_of (c_isn t1) ((pt_cmp (pc_isN t1)).imp fun σ H Q q => isn_read (tQ_val q)) rfl hm
      · exact val_of (c_isnt t1) ((pt_cmp (pc_notN t1)).imp fun σ H Q q => isnt_read (tQ_val q)) rfl hm
      · cases h1
    · cases h
  | .ist n x =>
    rw [chk.eq_def] at h
    dsimp only at h
    simp only [Bool.and_eq_true] at h
    obtain ⟨hm, h⟩ := h
    split at h
    · simp only [Bool.and_eq_true] at h
      obtain ⟨h1, h2⟩ := h
      have t1 := tells x .look X C Y _ o h2
      split at h1
      · exact val_of (c_ist (v := true) t1) ((pt_cmpR op_is_bl t1 pe_bl rfl).imp fun σ H Q q => ist_read (tQ_val q)) rfl hm
      · exact val_of (c_ist' (v := true) t1) ((pt_cmpR op_isnot_bl t1 pe_bl rfl).imp fun σ H Q q => isnt_readB (tQ_val q)) rfl hm
      · cases h1
    · cases h
  | .ite c x y =>
    rw [chk.eq_def] at h
    dsimp only at h
    simp only [Bool.and_eq_true] at h
    obtain ⟨hm, h⟩ := h
    split at h
    · simp only [Bool.and_eq_true] at h
      exact as_of (c_ite (tells c .test X C Y _ o h.1.1).1 (tells x .keep X C Y _ o h.1.2) (tells y .keep X C Y _ o h.2)) hm
    · cases h
  | .idx x y =>
    rw [chk.eq_def] at h
    dsimp only at h
    simp only [Bool.and_eq_true] at h
    obtain ⟨hm, h⟩ := h
    split at h
    · simp only [Bool.and_eq_true] at h
      exact as_of (c_idx o.K (tells x .look X C Y _ o h.1.1) (tells y .look X C Y _ o h.1.2) h.2) hm
    · cases h
  | .slc x y z =>
    rw [chk.eq_def] at h
    dsimp only at h
    simp only [Bool.and_eq_true] at h
    obtain ⟨hm, h⟩ := h
    split at h
    · simp only [Bool.and_eq_true] at h
      exact as_of (c_slc o.K (tells x .look X C Y _ o h.1.1) (tells y .look X C Y _ o h.1.2) (tells z .look X C Y _ o h.2)) hm
    · cases h
  | .slo x y =>
    rw [chk.eq_def] at h
    dsimp only at h
    simp only [Bool.and_eq_true] at h
    obtain ⟨hm, h⟩ := h
    split at h
    · simp only [Bool.and_eq_true] at h
      exact as_of (c_slo o.K (tells x .look X C Y _ o h.1) (tells y .look X C Y _ o h.2)) hm
    · cases h
  | .shi x y =>
    rw [chk.eq_def] at h
    dsimp only at h
    simp only [Bool.and_eq_true] at h
    obtain ⟨hm, h⟩ := h
    split at h
    · simp only [Bool.and_eq_true] at h
      exact as_of (c_shi o.K (tells x .look X C Y _ o h.1) (tells y .look X C Y _ o h.2)) hm
    · cases h
  | .rev x =>
    rw [chk.eq_def] at h
    dsimp only at h
    simp only [Bool.and_eq_true] at h
    obtain ⟨hm, h⟩ := h
    split at h
    · exact as_of (c_rev o.K (tells x .look X C Y _ o h)) hm
    · cases h
  | .call f es =>
    rw [chk.eq_def] at h
    dsimp only at h
    simp only [Bool.and_eq_true] at h
    obtain ⟨hm, h⟩ := h
    split at h
    · rename_i x px l pl
      simp only [Bool.and_eq_true] at h
      obtain ⟨⟨⟨h1, h2⟩, h3⟩, h4⟩ := h
      split at h1
      · rename_i y n hf
        simp only [Bool.and_eq_true] at h1
        have e1 := eq_of_beq h1.1
        have e2 := eq_of_beq h1.2
        subst e1
        subst e2
        cases es with
        | nil =>
          rw [chkL.eq_def] at h3
          dsimp only at h3
          cases l with
          | nil => exact as_of (c_call0 o hf h2) hm
          | cons _ _ => cases h3
        | cons x' r =>
          obtain ⟨b, l', rfl⟩ := ne_nil h4
          exact as_of (c_call o hf h2 (tellsV _ X C Y _ o h3) (stars_of _ .keep C _ h3)) hm
      · cases h1
    · cases h
  | .bi b es =>
    rw [chk.eq_def] at h
    dsimp only at h
    split at h
    · simp only [Bool.and_eq_true] at h
      obtain ⟨hm, h⟩ := h
      match es with
      | .cons x .nil =>
        dsimp only at h
        split at h
        · simp only [Bool.and_eq_true] at h
          obtain ⟨⟨⟨⟨⟨h1, h2⟩, h3⟩, h4⟩, h5⟩, h6⟩ := h
          exact as_of (c_isa o (eq_of_beq h1) h2 (eq_of_beq h3) h4 (tells x .look X C Y _ o h5) h6) hm
        · cases h
      | .nil => cases h
      | .cons _ (.cons _ _) => cases h
    · simp only [Bool.and_eq_true] at h
      obtain ⟨hm, h⟩ := h
      split at h
      · simp only [Bool.and_eq_true] at h
        obtain ⟨⟨⟨h1, h2⟩, h3⟩, h4⟩ := h
        obtain ⟨b, l', rfl⟩ := ne_nil h4
        exact asF_of (f_sorted o (eq_of_beq h1) h2 (tellsT es X C Y _ o h3) (stars_of _ .look C _ h3)) hm
      · cases h
    · simp only [Bool.and_eq_true] at h
      obtain ⟨hm, h⟩ := h
      split at h
      · simp only [Bool.and_eq_true] at h
        obtain ⟨⟨⟨h1, h2⟩, h3⟩, h4⟩ := h
        obtain ⟨b, l', rfl⟩ := ne_nil h4
        exact asF_of (f_list o (eq_of_beq h1) h2 (tellsT es X C Y _ o h3) (stars_of _ .look C _ h3)) hm
      · cases h
    · simp only [Bool.and_eq_true] at h
      obtain ⟨hm, h⟩ := h
      split at h
      · simp only [Bool.and_eq_true] at h
        obtain ⟨⟨⟨⟨h0, h1⟩, h2⟩, h3⟩, h4⟩ := h
        obtain ⟨b, l', rfl⟩ := ne_nil h4
        exact as_of (c_bi o h0 (eq_of_beq h1) h2 (tellsT es X C Y _ o h3) (stars_of _ .look C _ h3)) hm
      · cases h
  | .smt k x y =>
    rw [chk.eq_def] at h
    dsimp only at h
    simp only [Bool.and_eq_true] at h
    obtain ⟨hm, h⟩ := h
    split at h
    · simp only [Bool.and_eq_true] at h
      obtain ⟨⟨⟨⟨⟨h1, h2⟩, h3⟩, h4⟩, h5⟩, h6⟩ := h
      exact as_of (c_smt o (eq_of_beq h1) (tells x .look X C Y _ o h2) (tells y .look X C Y _ o h3) h4 h5 h6) hm
    · cases h
  | .comp own elt t it =>
    rw [chk.eq_def] at h
    dsimp only at h
    simp only [Bool.and_eq_true] at h
    obtain ⟨hm, h⟩ := h
    split at h
    · simp only [Bool.and_eq_true] at h
      obtain ⟨⟨h1, h2⟩, h3⟩ := h
      exact asF_of (lc_tells own elt t it X C Y _ _ _ _ _ o (tellsI it X C Y _ _ o h2) (fun X' o' => tells elt .keep X' (C.blk _) Y.nox _ o' h3) h1) hm
    · cases h
  | .compIf own elt t it c =>
    rw [chk.eq_def] at h
    dsimp only at h
    simp only [Bool.and_eq_true] at h
    obtain ⟨hm, h⟩ := h
    split at h
    · simp only [Bool.and_eq_true] at h
      obtain ⟨⟨⟨h1, h2⟩, h3⟩, h4⟩ := h
      exact asF_of (lcIf_tells own elt t it c X C Y _ _ _ _ _ _ o (tellsI it X C Y _ _ o h2) (fun X' o' => tells elt .keep X' (C.blk _) Y.nox _ o' h3) (fun X' o' => (tells c .test X' (C.blk _) Y.nox _ o' h4).1) h1) hm
    · cases h
  | .tab g x =>
    rw [chk.eq_def] at h
    dsimp only at h
    simp only [Bool.and_eq_true] at h
    obtain ⟨hm, h⟩ := h
    split at h
    · simp only [Bool.and_eq_true] at h
      obtain ⟨⟨⟨h1, h2⟩, h3⟩, h4⟩ := h
      split at h1
      · rename_i y hy
        have e := eq_of_beq h1
        subst e
        exact as_of (c_tab o hy h2 (tells x .look X C Y _ o h3) h4) hm
      · cases h1
    · cases h
  | .lenL i =>
    rw [chk.eq_def] at h
    dsimp only at h
    simp only [Bool.and_eq_true] at h
    obtain ⟨hm, h⟩ := h
    split at h
    · simp only [Bool.and_eq_true] at h
      exact as_of (c_lenL o (eq_of_beq h.1.1) h.1.2 h.2) hm
    · cases h
  | .lenS i =>
    rw [chk.eq_def] at h
    dsimp only at h
    simp only [Bool.and_eq_true] at h
    obtain ⟨hm, h⟩ := h
    split at h
    · simp only [Bool.and_eq_true] at h
      exact as_of (c_lenS o (eq_of_beq h.1.1) h.1.2 h.2) hm
    · cases h
  | .idxS i x =>
    rw [chk.eq_def] at h
    dsimp only at h
    simp only [Bool.and_eq_true] at h
    obtain ⟨hm, h⟩ := h
    split at h
    · simp only [Bool.and_eq_true] at h
      exact as_of (c_idxS o h.1.1 (tells x .look X C Y _ o h.1.2) h.2) hm
    · cases h
  | .nilS i =>
    rw [chk.eq_def] at h
    dsimp only at h
    simp only [Bool.and_eq_true] at h
    obtain ⟨hm, h⟩ := h
    split at h
    · exact val_of (c_nilS o h) (q_nilS o h) rfl hm
    · cases h
theorem tellsT (es : Exs) : ∀ (X : Cx) (C : Sc) (Y : Wd) (l : List Expr), Okx X C Y → chkL .look C es l = true → PA X l (tAs Y es) := by
  intro X C Y l o h
  match es with
  | .nil =>
    rw [chkL.eq_def] at h
    dsimp only at h
    cases l with
    | nil => exact pa_nilT
    | cons _ _ => cases h
  | .cons e r =>
    rw [chkL.eq_def] at h
    dsimp only at h
    cases l with
    | nil => cases h
    | cons a l =>
      simp only [Bool.and_eq_true] at h
      exact pa_consT (tells e .look X C Y a o h.1.1) (tellsT r X C Y l o h.2) h.1.2
theorem tellsK (es : Exs) : ∀ (X : Cx) (C : Sc) (Y : Wd) (l : List Expr), Okx X C Y → chkL .keep C es l = true → PA X l (tAk Y es) := by
  intro X C Y l o h
  match es with
  | .nil =>
    rw [chkL.eq_def] at h
    dsimp only at h
    cases l with
    | nil => exact pa_nilK
    | cons _ _ => cases h
  | .cons e r =>
    rw [chkL.eq_def] at h
    dsimp only at h
    cases l with
    | nil => cases h
    | cons a l =>
      simp only [Bool.and_eq_true] at h
      exact pa_consK (tells e .keep X C Y a o h.1.1) (tellsK r X C Y l o h.2) h.1.2
theorem tellsV (es : Exs) : ∀ (X : Cx) (C : Sc) (Y : Wd) (l : List Expr), Okx X C Y → chkL .keep C es l = true → PA X l (tAv Y es) := by
  intro X C Y l o h
  match es with
  | .nil =>
    rw [chkL.eq_def] at h
    dsimp only at h
    cases l with
    | nil => exact pa_nilV
    | cons _ _ => cases h
  | .cons e r =>
    rw [chkL.eq_def] at h
    dsimp only at h
    cases l with
    | nil => cases h
    | cons a l =>
      simp only [Bool.and_eq_true] at h
      exact pa_consV (tells e .keep X C Y a o h.1.1) (tellsV r X C Y l o h.2) h.1.2
theorem tellsI (it : It) : ∀ (X : Cx) (C : Sc) (Y : Wd) (tg iter : Expr), Okx X C Y → chkI C it tg iter = true → PI X tg iter (tI Y it) := by
  intro X C Y tg iter o h
  match it with
  | .seq e =>
    rw [chkI.eq_def] at h
    exact c_seq o (tells e .keep X C Y _ o h)
  | .rng1 e =>
    rw [chkI.eq_def] at h
    dsimp only at h
    split at h
    · simp only [Bool.and_eq_true] at h
      exact c_rng1 (tp := ‹Pos›) o (eq_of_beq h.1.1.1) h.1.1.2 (tells e .look X C Y _ o h.1.2) h.2
    · cases h
  | .rng2 x y =>
    rw [chkI.eq_def] at h
    dsimp only at h
    split at h
    · simp only [Bool.and_eq_true] at h
      obtain ⟨⟨⟨⟨⟨h1, h2⟩, h3⟩, h4⟩, h5⟩, h6⟩ := h
      exact c_rng2 (tp := ‹Pos›) o (eq_of_beq h1) h2 (tells x .look X C Y _ o h3) (tells y .look X C Y _ o h4) h5 h6
    · cases h
  | .enum e =>
    rw [chkI.eq_def] at h
    dsimp only at h
    split at h
    · split at h
      · simp only [Bool.and_eq_true] at h
        exact c_enum o (eq_of_beq h.1.1.1) h.1.1.2 (tells e .keep X C Y _ o h.1.2) h.2
      · cases h
    · cases h
  | .zip x y =>
    rw [chkI.eq_def] at h
    dsimp only at h
    split at h
    · split at h
      · simp only [Bool.and_eq_true] at h
        obtain ⟨⟨⟨⟨⟨h1, h2⟩, h3⟩, h4⟩, h5⟩, h6⟩ := h
        exact c_zip o (eq_of_beq h1) h2 (tells x .keep X C Y _ o h3) (tells y .keep X C Y _ o h4) h5 h6
      · cases h
    · cases h
end
end Ip
/-! Ip17: whether a term tells a text, statements. -/
namespace Ip
open PySem PySem.Spec PyProof.Rows L2

/-- the stores of a, b = x, y: none where they are made from the left -/
def swD (C : Sc) (ts vs : List Expr) : Option (Option (List Str)) :=
  if !(ts.length == 2 || ts.length == 3) || vs.length != ts.length then some none
  else if vs.any (fun | .Starred .. => true | _ => false) then some none
  else
    let line := (ts.head?.map (·.pos.line)).getD 0
    let names := ts.filterMap fun
      | .Name id pos => if C.sc.names.lookup id == some .local && pos.line == line then some id else none
      | _ => none
    if names.length != ts.length || names.eraseDups.length != names.length then some none
    else if vs.all (foldedForSure 8) then some none
    else if vs.all (constantsAlone 8) then none
    else some (some names)
theorem swD_ok {X : Cx} {C : Sc} {Y : Wd} {ts vs : List Expr} {k k2 : Nat} {p p2 : Pos} {r : Option (List Str)} (o : Okx X C Y) (h : swD C ts vs = some r) : swappedStores [.Tuple ts k p] (.Tuple vs k2 p2) X.env = pure r := by
  have hk : (X.env.blockKind != .function) = false := by
    unfold Env.blockKind
    rw [o.sc, o.kind]
    rfl
  have hkf : X.env.kindOf = fun x => C.sc.names.lookup x := by
    funext x
    unfold Env.kindOf
    rw [o.sc]
  unfold swD at h
  unfold swappedStores
  simp only [hk, Bool.or_false, hkf]
  split at h
  · rename_i c
    cases h
    exact if_pos c
  · rename_i c
    refine Eq.trans (if_neg c) ?_
    split at h
    · rename_i c2
      cases h
      exact if_pos c2
    · rename_i c2
      refine Eq.trans (if_neg c2) ?_
      dsimp only at h
      split at h
      · rename_i c3
        cases h
        exact if_pos c3
      · rename_i c3
        refine Eq.trans (if_neg c3) ?_
        split at h
        · rename_i c4
          cases h
          exact if_pos c4
        · rename_i c4
          refine Eq.trans (if_neg c4) ?_
          split at h
          · cases h
          · rename_i c5
            cases h
            exact if_neg c5
def swB (C : Sc) (x : Str) (px : Pos) (line : Nat) (scope : Scope) : Bool :=
  C.sc.names.lookup x == some .local && px.line == line && !(scope.names.any fun (n, k) => n == x && (k == .local || k == .cell))
theorem swB_ok {X : Cx} {C : Sc} {Y : Wd} {e : Expr} {g : List Comprehension} {scope : Scope} {p px : Pos} {x : Str} {line : Nat} (o : Okx X C Y) : swapsWith (.ListComp e g scope p) (some (.Name x px)) line X.env = pure (swB C x px p.line scope) := by
  have hk : (X.env.blockKind == .function) = true := by
    unfold Env.blockKind
    rw [o.sc, o.kind]
    rfl
  have hkf : X.env.kindOf x = C.sc.names.lookup x := by
    unfold Env.kindOf
    rw [o.sc]
  show pure (X.env.blockKind == .function && X.env.kindOf x == some .local && px.line == p.line && !(scope.names.any fun (n, k) => n == x && (k == .local || k == .cell))) = _
  rw [hk, hkf, Bool.true_and]
  rfl
theorem swaps_of {env : Env} {t : Option Expr} {line : Nat} : ∀ {a : Expr}, isComp a = false → swapsWith a t line env = pure false := by
  intro a h
  cases a with
  | ListComp => cases h
  | SetComp => cases h
  | DictComp => cases h
  | _ => rfl
def isTup : Expr → Bool
  | .Tuple .. => true
  | _ => false
def asgOk (C : Sc) (tg a : Expr) : Bool :=
  match tg with
  | .Tuple ts _ _ => match a with
    | .Tuple vs _ _ => (match swD C ts vs with | some none => true | _ => false)
    | _ => true
  | _ => false
def chkNm (C : Sc) (i : Nat) (x : Str) : Bool := (match C.N[i]? with | some y => y == x | none => false) && C.sc.names.lookup x == some .local
mutual
def chkS (C : Sc) (s : Sm) (st : Stmt) : Bool :=
  match s with
  | .asg t e => match st with
    | .Assign [tg] a _ => chkTg C t tg && asgOk C tg a && chk .keep C e a
    | _ => false
  | .set i e => match st with
    | .Assign [.Name x _] a _ => chkLoc C i x && (if isComp a then chk .fresh C e a else chk .keep C e a)
    | _ => false
  | .own i e => match st with
    | .Assign [.Name x _] a _ => chkLoc C i x && chk .fresh C e a
    | _ => false
  | .newd _ => false
  | .newd1 _ _ _ => false
  | .newl i => match st with
    | .Assign [.Name x _] (.List [] _) _ => chkLoc C i x
    | _ => false
  | .par is es => match st with
    | .Assign [.Tuple [.Name x px, .Name y py] kt pt] (.Tuple [a, b] _ _) _ => (match is with
      | [i, j] => chkNm C i x && chkNm C j y && (i != j) && chkL .keep C es [a, b] && (swD C [.Name x px, .Name y py] [a, b] == some (some [x, y]))
      | _ => false)
    | .Assign [.Tuple [.Name x px, .Name y py, .Name z pz] kt pt] (.Tuple [a, b, c] _ _) _ => (match is with
      | [i, j, k] => chkNm C i x && chkNm C j y && chkNm C k z && (i != j) && (i != k) && (j != k) && chkL .keep C es [a, b, c] && (swD C [.Name x px, .Name y py, .Name z pz] [a, b, c] == some (some [x, y, z]))
      | _ => false)
    | _ => false
  | .append i e => match st with
    | .Expr (.Call (.Attribute (.Name x _) m apos) [a] [] cpos) _ => chkVar C i x && m == "append" && chk .keep C e a && noStar a && (apos.endLine == cpos.line)
    | _ => false
  | .extend i e => match st with
    | .Expr (.Call (.Attribute (.Name x _) m apos) [a] [] cpos) _ => chkVar C i x && m == "extend" && chk .keep C e a && noStar a && (apos.endLine == cpos.line)
    | _ => false
  | .appendL i e => match st with
    | .Expr (.Call (.Attribute (.Name x _) m apos) [a] [] cpos) _ => chkVar C i x && m == "append" && chk .keep C e a && noStar a && (apos.endLine == cpos.line)
    | _ => false
  | .pop0 t i => match st with
    | .Assign [tg] (.Call (.Attribute (.Name x _) m apos) [.Constant (.int 0) _ _] [] cpos) _ => chkTg C t tg && chkVar C i x && m == "pop" && (apos.endLine == cpos.line)
    | _ => false
  | .putd _ _ _ => false
  | .puti i k v => match st with
    | .Assign [.Subscript (.Name x _) b _] a _ => chkVar C i x && chk .keep C v a && chk .look C k b && notSlice b
    | _ => false
  | .keep _ => false
  | .expr e => match st with
    | .Expr a _ => chk .keep C e a && !isComp a
    | _ => false
  | .ifs c x y => match st with
    | .If d l r _ => chk .test C c d && chkSs C x l && chkSs C y r
    | _ => false
  | .fors t it b => match st with
    | .For tg iter l [] _ => chkTg C t tg && chkI C it tg iter && notSet iter && chkSs C b l
    | _ => false
  | .whiles c b => match st with
    | .While d l [] _ => chk .test C c d && chkSs C b l
    | _ => false
  | .ret e => match st with
    | .Return (some a) _ => chk .keep C e a
    | .Return none _ => (match e with | .con .none => true | _ => false)
    | _ => false
  | .raise k => match st with
    | .Raise (some (.Call (.Name x _) [.Constant (.str _) _ _] [] _)) none _ => (match C.cname k with | some y => y == x | none => false) && chkGl C x
    | _ => false
  | .brk => match st with
    | .Break _ => true
    | _ => false
  | .cont => match st with
    | .Continue _ => true
    | _ => false
  | .pass => match st with
    | .Pass _ => true
    | .Expr (.Constant (.str _) _ _) _ => true
    | _ => false
def chkSs (C : Sc) (ss : Sms) (sts : List Stmt) : Bool :=
  match ss with
  | .nil => sts.isEmpty
  | .cons s r => match s with
    | .keep _ => chkSs C r sts
    | s => match sts with
      | st :: sts => chkS C s st && chkSs C r sts
      | [] => false
end
theorem nm_of {X : Cx} {C : Sc} {Y : Wd} {i : Nat} {x : Str} (o : Okx X C Y) (h : chkNm C i x = true) : X.N[i]? = some x ∧ X.env.scope.names.lookup x = some .local := by
  unfold chkNm at h
  simp only [Bool.and_eq_true] at h
  rw [o.N, o.sc]
  refine ⟨?_, eq_of_beq h.2⟩
  have h1 := h.1
  split at h1
  · rename_i y e
    rw [e, eq_of_beq h1]
  · cases h1
theorem noStar_tg {C : Sc} {t : Tg} {a : Expr} (h : chkTg C t a = true) : noStar a = true := by
  rw [chkTg.eq_def] at h
  cases t <;> dsimp only at h <;> split at h <;> first | rfl | cases h
/-- name = a row -/
theorem lc_set {X : Cx} {C : Sc} {Y : Wd} {i : Nat} {x : Str} {px pos : Pos} {e : Ex} {a : Expr} {sm : Sm} (o : Okx X C Y) (hi : chkLoc C i x = true) (hc : chk .fresh C e a = true) (ha : isComp a = true) (R : ∀ D σ H, tS Y sm D σ H → tAsg (tF Y e) (gName i) D σ H) :
    PS X (.Assign [.Name x px] a pos) (tS Y sm) := by
  obtain ⟨h1, h2, h3⟩ := loc_of o hi
  have gen : swapsWith a (some (.Name x px)) pos.line X.env = pure false → PS X (.Assign [.Name x px] a pos) (tS Y sm) := fun hs =>
    (ps_set o.nd h1 h2 (tells e .fresh X C Y a o hc) hs h3).imp fun D σ H q => R D σ H q
  cases a with
  | ListComp b g scope p =>
    cases hsw : swB C x px p.line scope with
    | false => exact gen (by rw [swB_ok o, hsw])
    | true =>
      have hl : X.env.scope.names.lookup x = some .local := by
        unfold swB at hsw
        simp only [Bool.and_eq_true] at hsw
        rw [o.sc]
        exact eq_of_beq hsw.1.1
      have hs : swapsWith (.ListComp b g scope p) (some (.Name x px)) pos.line X.env = pure true := by rw [swB_ok o, hsw]
      cases e with
      | comp own elt t it =>
        rw [chk.eq_def] at hc
        dsimp only at hc
        simp only [Bool.and_eq_true] at hc
        obtain ⟨_, hc⟩ := hc
        split at hc
        · rename_i heq
          cases heq
          simp only [Bool.and_eq_true] at hc
          obtain ⟨⟨c1, c2⟩, c3⟩ := hc
          refine s_lc o (lcp_of own elt t it X C Y _ _ _ _ o (tellsI it X C Y _ _ o c2) (fun X' o' => tells elt .keep X' (C.blk _) Y.nox _ o' c3) c1) h1 hl hs ?_
          rw [withNames_map]
          exact R
        · cases hc
      | compIf own elt t it c =>
        rw [chk.eq_def] at hc
        dsimp only at hc
        simp only [Bool.and_eq_true] at hc
        obtain ⟨_, hc⟩ := hc
        split at hc
        · rename_i heq
          cases heq
          simp only [Bool.and_eq_true] at hc
          obtain ⟨⟨⟨c1, c2⟩, c3⟩, c4⟩ := hc
          refine s_lcIf o (lcp_of own elt t it X C Y _ _ _ _ o (tellsI it X C Y _ _ o c2) (fun X' o' => tells elt .keep X' (C.blk _) Y.nox _ o' c3) c1) (fun X' o' => (tells c .test X' (C.blk _) Y.nox _ o' c4).1) h1 hl hs ?_
          rw [withNames_map]
          exact R
        · cases hc
      | bi b es => rw [chk.eq_def] at hc; cases b <;> simp [Md.as] at hc
      | _ => rw [chk.eq_def] at hc; simp [Md.val, Md.as, Md.asF] at hc
  | SetComp =>
    exfalso
    rw [chk.eq_def] at hc
    cases e with
    | bi b es => cases b <;> simp [Md.as, Md.asF] at hc
    | _ => simp [Md.val, Md.as, Md.asF] at hc
  | DictComp =>
    exfalso
    rw [chk.eq_def] at hc
    cases e with
    | bi b es => cases b <;> simp [Md.as, Md.asF] at hc
    | _ => simp [Md.val, Md.as, Md.asF] at hc
  | _ => cases ha
end Ip
/-! Ip18: what is told is so: statements. -/
namespace Ip
open PySem PySem.Spec PyProof.Rows L2

theorem asg_ok {X : Cx} {C : Sc} {Y : Wd} {tg a : Expr} {line : Nat} (o : Okx X C Y) (h : asgOk C tg a = true) : swapsWithSole [tg] a line X.env = pure false ∧ swappedStores [tg] a X.env = pure none := by
  cases tg with
  | Tuple ts k p =>
    refine ⟨?_, ?_⟩
    · show swapsWith a (some (.Tuple ts k p)) line X.env = pure false
      cases a <;> rfl
    · cases a with
      | Tuple vs k2 p2 =>
        unfold asgOk at h
        dsimp only at h
        split at h
        · rename_i e
          exact swD_ok o e
        · cases h
      | _ => rfl
  | _ => cases h
theorem sub_sw {env : Env} {a b c : Expr} {p : Pos} {line : Nat} : swapsWithSole [.Subscript b c p] a line env = pure false := by
  show swapsWith a (some (.Subscript b c p)) line env = pure false
  cases a <;> rfl
theorem sub_st {env : Env} {a b c : Expr} {p : Pos} : swappedStores [.Subscript b c p] a env = pure none := by
  cases a <;> rfl
theorem pop_st {env : Env} {tg f : Expr} {args : List Expr} {kw : List Keyword} {p : Pos} : swappedStores [tg] (.Call f args kw p) env = pure none := by
  cases tg <;> rfl
theorem sub_as {env : Env} {a : Expr} {p : Pos} {v : Value} : ∀ {b : Expr}, notSlice b = true → assign (.Subscript a b p) env v = (do
      let ov ← holding [v] (eval a env)
      let iv ← holding [v, ov] (eval b env)
      standAt p
      holding [v, ov, iv] (setItem ov iv v)
      release [v, ov, iv] []) := by
  intro b h
  cases b with
  | Slice => cases h
  | _ => rfl
theorem bne_ok {i j : Nat} (h : (i != j) = true) : i ≠ j := by simpa using h
mutual
theorem runs (s : Sm) : ∀ (X : Cx) (C : Sc) (Y : Wd) (st : Stmt), Okx X C Y → chkS C s st = true → PS X st (tS Y s) := by
  intro X C Y st o h
  match s with
  | .asg t e =>
    rw [chkS.eq_def] at h
    dsimp only at h
    split at h
    · simp only [Bool.and_eq_true] at h
      obtain ⟨⟨h1, h2⟩, h3⟩ := h
      obtain ⟨a1, a2⟩ := asg_ok o h2
      exact s_asg (tells e .keep X C Y _ o h3) (tg_of o t _ h1) a1 a2 (noStar_tg h1)
    · cases h
  | .set i e =>
    rw [chkS.eq_def] at h
    dsimp only at h
    split at h
    · rename_i x px a pos
      simp only [Bool.and_eq_true] at h
      obtain ⟨h1, h2⟩ := h
      split at h2
      · rename_i hc
        exact lc_set o h1 h2 hc fun D σ H q => by
          have := s_set.set_read q
          exact tE_tF this
      · rename_i hc
        obtain ⟨g1, g2, g3⟩ := loc_of o h1
        exact s_set o g1 g2 g3 (tells e .keep X C Y _ o h2) (swaps_of (by simpa using hc))
    · cases h
  | .own i e =>
    rw [chkS.eq_def] at h
    dsimp only at h
    split at h
    · rename_i x px a pos
      simp only [Bool.and_eq_true] at h
      obtain ⟨h1, h2⟩ := h
      cases hc : isComp a with
      | true => exact lc_set o h1 h2 hc fun D σ H q => s_own.own_read q
      | false =>
        obtain ⟨g1, g2, g3⟩ := loc_of o h1
        exact s_own o g1 g2 g3 (tells e .fresh X C Y _ o h2) (swaps_of hc)
    · cases h
  | .newd _ => rw [chkS.eq_def] at h; cases h
  | .newd1 _ _ _ => rw [chkS.eq_def] at h; cases h
  | .newl i =>
    rw [chkS.eq_def] at h
    dsimp only at h
    split at h
    · obtain ⟨g1, g2, g3⟩ := loc_of o h
      exact s_newl o g1 g2 g3
    · cases h
  | .par is es =>
    rw [chkS.eq_def] at h
    dsimp only at h
    split at h
    · split at h
      · simp only [Bool.and_eq_true] at h
        obtain ⟨⟨⟨⟨h1, h2⟩, h3⟩, h4⟩, h5⟩ := h
        obtain ⟨n1, l1⟩ := nm_of o h1
        obtain ⟨n2, l2⟩ := nm_of o h2
        exact s_par o n1 n2 (bne_ok h3) l1 l2 (tellsV es X C Y _ o h4) (swD_ok o (eq_of_beq h5))
      · cases h
    · split at h
      · simp only [Bool.and_eq_true] at h
        obtain ⟨⟨⟨⟨⟨⟨⟨h1, h2⟩, h3⟩, h4⟩, h5⟩, h6⟩, h7⟩, h8⟩ := h
        obtain ⟨n1, l1⟩ := nm_of o h1
        obtain ⟨n2, l2⟩ := nm_of o h2
        obtain ⟨n3, l3⟩ := nm_of o h3
        exact s_par3 o n1 n2 n3 (bne_ok h4) (bne_ok h5) (bne_ok h6) l1 l2 l3 (tellsV es X C Y _ o h7) (swD_ok o (eq_of_beq h8))
      · cases h
    · cases h
  | .append i e =>
    rw [chkS.eq_def] at h
    dsimp only at h
    split at h
    · simp only [Bool.and_eq_true] at h
      obtain ⟨⟨⟨⟨h1, h2⟩, h3⟩, h4⟩, h5⟩ := h
      exact s_append o h1 (eq_of_beq h2) (tells e .keep X C Y _ o h3) h4 h5
    · cases h
  | .extend i e =>
    rw [chkS.eq_def] at h
    dsimp only at h
    split at h
    · simp only [Bool.and_eq_true] at h
      obtain ⟨⟨⟨⟨h1, h2⟩, h3⟩, h4⟩, h5⟩ := h
      exact s_extend o h1 (eq_of_beq h2) (tells e .keep X C Y _ o h3) h4 h5
    · cases h
  | .appendL i e =>
    rw [chkS.eq_def] at h
    dsimp only at h
    split at h
    · simp only [Bool.and_eq_true] at h
      obtain ⟨⟨⟨⟨h1, h2⟩, h3⟩, h4⟩, h5⟩ := h
      exact s_appendL o h1 (eq_of_beq h2) (tells e .keep X C Y _ o h3) h4 h5
    · cases h
  | .pop0 t i =>
    rw [chkS.eq_def] at h
    dsimp only at h
    split at h
    · simp only [Bool.and_eq_true] at h
      obtain ⟨⟨⟨h1, h2⟩, h3⟩, h4⟩ := h
      exact s_pop0 o h2 (eq_of_beq h3) (tg_of o t _ h1) h4 (noStar_tg h1) rfl pop_st
    · cases h
  | .putd _ _ _ => rw [chkS.eq_def] at h; cases h
  | .puti i k v =>
    rw [chkS.eq_def] at h
    dsimp only at h
    split at h
    · simp only [Bool.and_eq_true] at h
      obtain ⟨⟨⟨h1, h2⟩, h3⟩, h4⟩ := h
      exact s_puti o h1 (tells v .keep X C Y _ o h2) (tells k .look X C Y _ o h3) h4 sub_sw sub_st (fun v => sub_as h4)
    · cases h
  | .keep _ => rw [chkS.eq_def] at h; cases h
  | .expr e =>
    rw [chkS.eq_def] at h
    dsimp only at h
    split at h
    · simp only [Bool.and_eq_true] at h
      exact s_expr (tells e .keep X C Y _ o h.1) (swaps_of (by simpa using h.2))
    · cases h
  | .ifs c x y =>
    rw [chkS.eq_def] at h
    dsimp only at h
    split at h
    · simp only [Bool.and_eq_true] at h
      exact s_if (tells c .test X C Y _ o h.1.1).1 (runsAll x X C Y _ o h.1.2) (runsAll y X C Y _ o h.2)
    · cases h
  | .fors t it b =>
    rw [chkS.eq_def] at h
    dsimp only at h
    split at h
    · simp only [Bool.and_eq_true] at h
      obtain ⟨⟨⟨h1, h2⟩, h3⟩, h4⟩ := h
      exact s_for o (tellsI it X.nox C Y.nox _ _ o.nox h2) (tg_of o.nox t _ h1) (runsAll b X.nox C Y.nox _ o.nox h4) (folded_of h3)
    · cases h
  | .whiles c b =>
    rw [chkS.eq_def] at h
    dsimp only at h
    split at h
    · simp only [Bool.and_eq_true] at h
      exact s_while o (tells c .test X.nox C Y.nox _ o.nox h.1).1 (runsAll b X.nox C Y.nox _ o.nox h.2)
    · cases h
  | .ret e =>
    rw [chkS.eq_def] at h
    dsimp only at h
    split at h
    · exact s_ret (tells e .keep X C Y _ o h)
    · split at h
      · exact s_retN
      · cases h
    · cases h
  | .raise k =>
    rw [chkS.eq_def] at h
    dsimp only at h
    split at h
    · simp only [Bool.and_eq_true] at h
      obtain ⟨h1, h2⟩ := h
      split at h1
      · rename_i y hy
        have e := eq_of_beq h1
        subst e
        exact s_raise o hy h2
      · cases h1
    · cases h
  | .brk =>
    rw [chkS.eq_def] at h
    dsimp only at h
    split at h
    · exact s_brk
    · cases h
  | .cont =>
    rw [chkS.eq_def] at h
    dsimp only at h
    split at h
    · exact s_cont
    · cases h
  | .pass =>
    rw [chkS.eq_def] at h
    dsimp only at h
    split at h
    · exact s_pass
    · exact ps_doc.imp fun D σ H q => by
        obtain ⟨H0, G0, β0, ρ, st, G, β, Gm, s, sg, p⟩ := q
        exact p σ H G β s sg
    · cases h
theorem runsAll (ss : Sms) : ∀ (X : Cx) (C : Sc) (Y : Wd) (sts : List Stmt), Okx X C Y → chkSs C ss sts = true → PSs X sts (tSs Y ss) := by
  intro X C Y sts o h
  match ss with
  | .nil =>
    rw [chkSs.eq_def] at h
    dsimp only at h
    cases sts with
    | nil => exact s_nil
    | cons _ _ => cases h
  | .cons s r =>
    rw [chkSs.eq_def] at h
    dsimp only at h
    split at h
    · exact s_keep (runsAll r X C Y sts o h)
    · split at h
      · simp only [Bool.and_eq_true] at h
        exact s_cons (runs s X C Y _ o h.1) (runsAll r X C Y _ o h.2)
      · cases h
end
end Ip
/-! Ip19: defs. -/
namespace Ip
open PySem PySem.Spec PyProof.Rows L2

/-- a def of the text: its name, its names, its parameters, its statement, its term -/
structure FD where
  name : Str
  N : List Str
  ps : List Str
  st : Stmt
  F : Fn
structure Lnk where
  defs : Nat → Option FD
  gname : Nat → Option Str
  tname : Nat → Option Str
  cname : Nat → Option Str
  gv : Nat → Option D
  tv : Nat → List (D × D)
def Lnk.Γ (L : Lnk) (f : Nat) : Option Fn := (L.defs f).map (·.F)
def Lnk.fname (L : Lnk) (f : Nat) : Option (Str × Nat) := (L.defs f).map fun d => (d.name, d.ps.length)
def Lnk.sc (L : Lnk) (d : FD) : Sc := ⟨d.N, defScope d.st, fun _ => true, L.fname, L.gname, L.tname, L.cname⟩
/-- a body without its text of words -/
def undoc : List Stmt → List Stmt
  | .Expr (.Constant (.str _) _ _) _ :: r => r
  | b => b
def scopeB (N ps : List Str) (sc : Scope) : Bool :=
  (match sc.kind with | .function => true | _ => false) && !sc.isCoroutine && !sc.isGenerator && decide N.Nodup && decide (N.take ps.length = ps) &&
    (ps.all fun x => match sc.names.lookup x with | some .local => true | some .cell => true | _ => false) && sc.names.all fun y => match y.2 with | .free => false | _ => true
theorem scopeB_ok {N ps : List Str} {sc : Scope} (h : scopeB N ps sc = true) : FnScope N ps sc := by
  unfold scopeB at h
  simp only [Bool.and_eq_true, List.all_eq_true, decide_eq_true_eq, Bool.not_eq_true'] at h
  obtain ⟨⟨⟨⟨⟨⟨h1, h2⟩, h3⟩, h4⟩, h5⟩, h6⟩, h7⟩ := h
  refine ⟨?_, h2, h3, h4, h5, fun x hx => ?_, fun y hy e => ?_⟩
  · split at h1
    · assumption
    · cases h1
  · have := h6 x hx
    split at this
    · rename_i e; exact .inl e
    · rename_i e; exact .inr e
    · cases this
  · have := h7 y hy
    rw [e] at this
    cases this
def plainA (a : Arguments) (ps : List Str) : Bool := a.posonlyargs.isEmpty && decide (a.args.map (·.arg) = ps) && a.vararg.isNone && a.kwonlyargs.isEmpty && a.kwarg.isNone && decide ps.Nodup
theorem look_zip : ∀ (ps : List Str) (us : List Value) (n : Str), us.length = ps.length → n ∈ ps → ((ps.zip us).lookup n).isSome = true
  | [], _, _, _, h => by cases h
  | p :: ps, u :: us, n, hl, h => by
    rw [List.zip_cons_cons, List.lookup_cons]
    cases e : n == p with
    | true => rfl
    | false =>
      refine look_zip ps us n (by simpa using hl) ?_
      rcases List.mem_cons.mp h with h | h
      · subst h; simp at e
      · exact h
  | _ :: _, [], _, hl, _ => by simp at hl
theorem map_zip : ∀ (ps : List Str) (us : List Value) (pre : List (Str × Value)), us.length = ps.length → ps.Nodup → (∀ n ∈ ps, pre.lookup n = none) → ps.filterMap (fun n => ((pre ++ ps.zip us).lookup n).map (n, ·)) = ps.zip us
  | [], us, _, _, _, _ => by simp
  | p :: ps, u :: us, pre, hl, hn, hp => by
    rw [List.nodup_cons] at hn
    rw [List.filterMap_cons, List.zip_cons_cons, List.lookup_append, hp p (by simp), Option.none_or, List.lookup_cons]
    simp only [beq_self_eq_true]
    show (p, u) :: _ = _
    congr 1
    have ih := map_zip ps us (pre ++ [(p, u)]) (by simpa using hl) hn.2 (fun n hm => by
      rw [List.lookup_append, hp n (by simp [hm]), Option.none_or, List.lookup_cons]
      have : (n == p) = false := by
        rw [beq_eq_false_iff_ne]
        rintro rfl
        exact hn.1 hm
      rw [this]
      rfl)
    rw [List.append_assoc] at ih
    exact ih
  | _ :: _, [], _, hl, _, _ => by simp at hl
theorem bind_plain {name qual : Str} {a : Arguments} {body : List Stmt} {scope : Scope} {kV doc pm cdv ct : Value} {an : Option Addr} {ps : List Str} (h : plainA a ps = true) (us : List Value) (hl : us.length = ps.length) :
    bindArgs (PySem.W.fnOf name qual a body scope .none kV doc pm an cdv ct) ⟨us, []⟩ = pure (ps.zip us) := by
  unfold plainA at h
  simp only [Bool.and_eq_true, decide_eq_true_eq, List.isEmpty_iff, Option.isNone_iff_eq_none] at h
  obtain ⟨⟨⟨⟨⟨h1, h2⟩, h3⟩, h4⟩, h5⟩, h6⟩ := h
  have m1 : (ps.filter fun n => ((ps.zip us).lookup n).isNone) = [] := by
    rw [List.filter_eq_nil_iff]
    intro n hn
    have := look_zip ps us n hl hn
    cases e : (ps.zip us).lookup n with
    | none => rw [e] at this; cases this
    | some _ => simp
  have m2 := map_zip ps us [] hl h6 (fun _ _ => rfl)
  rw [List.nil_append] at m2
  unfold bindArgs PySem.W.fnOf
  simp only [h1, h2, h3, h4, h5, List.map_nil, List.nil_append, List.append_nil, List.forIn_nil, pure_bind, seqItems?, notAStandIn]
  simp only [hl]
  simp
  simp only [List.drop_nil, List.length_nil, Nat.sub_zero, List.take_length, m1, m2]
  rfl
def FD.ok (L : Lnk) (d : FD) : Bool := scopeB d.N d.ps (defScope d.st) && (d.F.np == d.ps.length) && (d.F.ns == d.N.length) && plainA (defArgs d.st) d.ps && chkSs (L.sc d) d.F.body (undoc (defBody d.st))
theorem plain_of {L : Lnk} {d : FD} (h : d.ok L = true) : plainA (defArgs d.st) d.ps = true := by
  unfold FD.ok at h
  simp only [Bool.and_eq_true] at h
  exact h.1.2
/-- what the head tells of the linked text -/
structure LnkOk (L : Lnk) (w : World) (K : Fg) (mg : Str → Option Value) (ca : Nat → Addr) : Prop where
  def_ : ∀ f d, L.defs f = some d → ∃ fa fd, FunD K d.name d.name (defArgs d.st) (defBody d.st) (defScope d.st) [] [] fa fd ∧ mg d.name = some (.ref fa)
  chk : ∀ f d, L.defs f = some d → d.ok L = true
  glob : ∀ g x d, L.gname g = some x → L.gv g = some d → ∃ u v, mg x = some u ∧ RelV v u ∧ ∀ G, Rep K G d v
  free : ∀ x, x ∈ bnames → mg x = none
  tab : ∀ g x, L.tname g = some x → ∃ fa, mg x = some (.ref fa) ∧ ∀ z d, getK (L.tv g) (.str z) = some d → ∃ v, KDct K w fa z v ∧ ∀ G, Rep K G d v
  exc : ∀ c x, L.cname c = some x → ∃ (fa : Addr) (B newId initId : String) (bmB : List Value), ca c = fa ∧ mg x = some (.ref fa) ∧ PySem.W.keepIn K (.ref fa) = true ∧ ExcBaseFacts B newId initId bmB ∧ PySem.W.excIn K fa bmB newId = true ∧
    (∀ (M : Model) (h : Heap), K.In h → PySem.W.Looks M h (isSubtype (.ref fa) (.type "BaseException")) true ∧ PySem.W.Looks M h (typeOf (.ref fa)) (.type "type"))
def Lnk.Y (L : Lnk) (K : Fg) (ca : Nat → Addr) (k : Nat) : Wd := ⟨K, L.gv, L.tv, callN L.gv L.tv L.Γ k, ca, fun _ _ _ => False⟩
theorem undoc_ok {X : Cx} {Y : Wd} {ss : Sms} {b : List Stmt} (h : PSs X (undoc b) (tSs Y ss)) : PSs X b (tSs Y ss) := by
  unfold undoc at h
  split at h
  · exact s_doc h
  · exact h
theorem RepVs.get {K : Fg} {G : Hp} {β : List Addr} : ∀ {xs : List Val} {vs : List V} (i : Nat) {x : Val}, RepVs K G β xs vs → xs[i]? = some x → ∃ v, vs[i]? = some v ∧ RepV K G β x v
  | x :: xs, v :: vs, 0, y, h, e => by
    simp only [List.getElem?_cons_zero, Option.some.injEq] at e
    subst e
    exact ⟨v, rfl, h.1⟩
  | x :: xs, v :: vs, i + 1, y, h, e => by
    obtain ⟨u, a, b⟩ := RepVs.get i h.2 (by simpa using e)
    exact ⟨u, by simpa using a, b⟩
  | [], _, _, _, _, e => by simp at e
  | _ :: _, [], _, _, h, _ => by simp [RepVs] at h
theorem start_ok {K : Fg} {H G : Hp} {β : List Addr} {st : Store} {args : List Val} {vs : List V} {N : List Str} (l : Lay K H G β st) (r : RepVs K G β args vs) (hn : args.length ≤ N.length) : ST K H G β (start0 args N.length) st (L2.start N vs) H G β := by
  have hl := r.length
  have gt : ∀ (i : Nat) (s : Slot), (start0 args N.length)[i]? = some s → (∃ x v, s = .v x ∧ args[i]? = some x ∧ vs[i]? = some v ∧ RepV K G β x v) ∨ s = .un := by
    intro i s h
    unfold start0 at h
    by_cases hi : i < args.length
    · rw [List.getElem?_append_left (by simpa using hi), List.getElem?_map, Option.map_eq_some_iff] at h
      obtain ⟨x, hx, rfl⟩ := h
      obtain ⟨v, hv, rv⟩ := r.get i hx
      exact .inl ⟨x, v, rfl, hx, hv, rv⟩
    · rw [List.getElem?_append_right (by simpa using hi)] at h
      right
      have := List.mem_of_getElem? h
      exact (List.mem_replicate.mp this).2
  refine ⟨l, Ext.refl .., ?_, fun i s h => ?_, fun i j s t p hs ht os ot _ _ => ?_⟩
  · unfold start0 L2.start
    simp [hl]
  · rcases gt i s h with ⟨x, v, rfl, hx, hv, rv⟩ | rfl
    · refine ⟨some v, ?_, v, rfl, rv⟩
      unfold L2.start
      have hi : i < vs.length := (List.getElem?_eq_some_iff.mp hv).1
      rw [List.getElem?_append_left (by simpa using hi), List.getElem?_map, hv]
      rfl
    · have hi : i < (start0 args N.length).length := (List.getElem?_eq_some_iff.mp h).1
      have hi2 : i < (L2.start N vs).length := by
        unfold start0 at hi
        unfold L2.start
        simp at hi ⊢
        omega
      exact ⟨_, List.getElem?_eq_getElem hi2, trivial⟩
  · rcases gt i s hs with ⟨x, v, rfl, _⟩ | rfl
    · cases os
    · cases os
section
variable {L : Lnk} {P : Program} {w : World} {K : Fg} {mg : Str → Option Value} {base : Heap} {ca : Nat → Addr}
theorem all_ok (O : LnkOk L w K mg ca) : ∀ (k f : Nat) (d : FD) (fa : Addr) (fd : FuncData), L.defs f = some d → FunD K d.name d.name (defArgs d.st) (defBody d.st) (defScope d.st) [] [] fa fd →
    FnOk P w K mg base (L2.CX P w) k fa fd d.ps (spF (L.Y K ca k) f d.ps.length)
  | 0, f, d, fa, fd, hd, F => by
    refine ⟨fun vs H Q E h => ?_, fun A outer s H args us vs Q E hr e0 b r h => ?_⟩
    · obtain ⟨G, β, st, args, ha, l, rv, p⟩ := h
      rw [← rv.length, ha]
    · obtain ⟨G, β, st, args, ha, l, rv, p⟩ := h
      exact p.elim
  | k + 1, f, d, fa, fd, hd, F => by
    have hok := O.chk f d hd
    unfold FD.ok at hok
    simp only [Bool.and_eq_true] at hok
    obtain ⟨⟨⟨⟨h1, h2⟩, h3⟩, _⟩, h4⟩ := hok
    have S := scopeB_ok h1
    have hnp := eq_of_beq h2
    have hns := eq_of_beq h3
    refine F.ok S (fun vs H Q E h => ?_) (fun cdv A outer s H vs Q E hr h => ?_)
    · obtain ⟨G, β, st, args, ha, l, rv, p⟩ := h
      rw [← rv.length, ha]
    · obtain ⟨G, β, st, args, ha, l, rv, p⟩ := h
      have o : Okx (cxOf (L2.CX P w) P w K mg base d.N d.name (defScope d.st) fa cdv A outer s H E) (L.sc d) { L.Y K ca k with E := E } := {
        K := rfl
        N := rfl
        sc := rfl
        fn := rfl
        nd := S.nd
        calm := rfl
        hu := by have := hr.un; show (A.deeper _).units + 200 < cLine; omega
        glob := O.glob
        free := O.free
        tab := O.tab
        exc := O.exc
        kind := S.kind
        tk := takes_of rfl rfl rfl rfl
        call := fun g x n hg => by
          have hg' : (L.defs g).map (fun d => (d.name, d.ps.length)) = some (x, n) := hg
          rw [Option.map_eq_some_iff] at hg'
          obtain ⟨d2, hd2, e2⟩ := hg'
          cases e2
          obtain ⟨fa2, fd2, F2, m2⟩ := O.def_ g d2 hd2
          exact ⟨k, fa2, fd2, d2.ps, m2, F2.kp, all_ok O k g d2 fa2 fd2 hd2 F2, hr, F2.bindsN (fun kV doc pm an cdv ct us hl => bind_plain (plain_of (O.chk g d2 hd2)) us hl), rfl⟩ }
      refine ⟨_, undoc_ok (runsAll d.F.body _ (L.sc d) _ _ o h4), ?_⟩
      have hΓ : L.Γ f = some d.F := by unfold Lnk.Γ; rw [hd]; rfl
      have hc : callN L.gv L.tv L.Γ (k + 1) f args st = (runSs L.gv L.tv (callN L.gv L.tv L.Γ k) d.F.body (start0 args d.F.ns) st).res := by
        show (match L.Γ f with
          | none => Rs.bad
          | some F => if args.length = F.np ∧ F.np ≤ F.ns then (runSs L.gv L.tv (callN L.gv L.tv L.Γ k) F.body (start0 args F.ns) st).res else .bad) = _
        rw [hΓ]
        dsimp only
        rw [if_pos]
        refine ⟨by rw [ha, hnp], ?_⟩
        rw [hnp, hns]
        have := congrArg List.length S.pre
        rw [List.length_take] at this
        omega
      have hargs : args.length ≤ d.N.length := by
        have := congrArg List.length S.pre
        rw [List.length_take] at this
        omega
      have p' : Pt { L.Y K ca (k + 1) with E := E } (callN L.gv L.tv L.Γ (k + 1) f args st) (RlV { L.Y K ca (k + 1) with E := E }) H G β Q := p
      rw [hc, hns] at p'
      refine ⟨H, G, β, start0 args d.N.length, st, G, β, G, start_ok l rv hargs, Sub.refl _, ?_⟩
      show PtO { L.Y K ca k with E := E } (runSs L.gv L.tv (callN L.gv L.tv L.Γ k) d.F.body (start0 args d.N.length) st) H G β G _
      cases hrun : runSs L.gv L.tv (callN L.gv L.tv L.Γ k) d.F.body (start0 args d.N.length) st with
      | nx ρ1 st1 =>
        rw [hrun] at p'
        exact fun σ1 H1 G1 β1 s1 _ => p' .non H1 G1 β1 s1.ext s1.lay (show Rep K G1 .none .non from rep_none)
      | ret v st1 =>
        rw [hrun] at p'
        exact fun u H1 G1 β1 x1 l1 r1 => p' u H1 G1 β1 x1 l1 r1
      | exc c st1 =>
        rw [hrun] at p'
        exact p'
      | brk ρ1 st1 => rw [hrun] at p'; exact p'.elim
      | cont ρ1 st1 => rw [hrun] at p'; exact p'.elim
      | bad => rw [hrun] at p'; exact p'.elim
/-- the law, asked with any script -/
theorem law_ok (k f : Nat) (h : ∀ ns : List Int, ns.length ≤ 63 → ∃ st, callN L.gv L.tv L.Γ k f [.scr ns] [] = .ok (.d (.bool true)) st) (H : Hp) (a : Addr) (ns : List Int) (hn : ns.length ≤ 63) (hs : SqL K H a (ns.map V.int)) :
    spF (L.Y K ca k) f 1 [.ref a] H (fun v _ => v = .bl true) fun _ _ _ => False := by
  obtain ⟨st, hst⟩ := h ns hn
  refine ⟨H, [], [], [.scr ns], rfl, ⟨Sub.refl _, rfl, fun n c hc => by simp at hc, List.nodup_nil, fun a ha => by cases ha⟩, ⟨⟨a, rfl, hs⟩, trivial⟩, ?_⟩
  have e : callN L.gv L.tv L.Γ k f [.scr ns] [] = .ok (.d (.bool true)) st := hst
  show Pt _ (callN L.gv L.tv L.Γ k f [.scr ns] []) _ _ _ _ _
  rw [e]
  intro u H1 G1 β1 x1 l1 r1
  have r2 : Rep K G1 (.bool true) u := r1
  rw [Rep] at r2
  exact r2
end
end Ip
/-! Ip20: the head: what is looked at behind the top. -/
namespace Ip
open PySem PySem.Spec PyProof.Rows L2

mutual
/-- a value that stands for data, within the written part -/
def repB (K : Fg) (d : D) (u : Value) : Bool :=
  match d with
  | .none => match u with | .none => true | _ => false
  | .bool b => match u with | .bool c => b == c | _ => false
  | .int i => match u with | .int j _ => i == j | _ => false
  | .str x => match u with | .str y _ => x == y | _ => false
  | .tuple ds => match u with
    | .ref a => match K.lookup a with
      | some ⟨.type "tuple", _, .seq its _, _⟩ => decide (its.size ≤ 1000) && repsB K ds its.toList
      | _ => false
    | _ => false
  | _ => false
def repsB (K : Fg) (ds : List D) (us : List Value) : Bool :=
  match ds with
  | [] => us.isEmpty
  | d :: ds => match us with
    | u :: us => repB K d u && repsB K ds us
    | [] => false
end
mutual
theorem repB_ok {K : Fg} : ∀ (d : D) (u : Value), repB K d u = true → ∃ v, RelV v u ∧ ∀ G, Rep K G d v
  | .none, u, h => by
    rw [repB.eq_def] at h
    dsimp only at h
    split at h
    · exact ⟨.non, rfl, fun G => rep_none⟩
    · cases h
  | .bool b, u, h => by
    rw [repB.eq_def] at h
    dsimp only at h
    split at h
    · have e := eq_of_beq h
      subst e
      exact ⟨.bl b, rfl, fun G => rep_bool⟩
    · cases h
  | .int i, u, h => by
    rw [repB.eq_def] at h
    dsimp only at h
    split at h
    · have e := eq_of_beq h
      subst e
      exact ⟨.int i, ⟨_, rfl⟩, fun G => rep_int⟩
    · cases h
  | .str i, u, h => by
    rw [repB.eq_def] at h
    dsimp only at h
    split at h
    · have e := eq_of_beq h
      subst e
      exact ⟨.str i, ⟨_, rfl⟩, fun G => rep_str⟩
    · cases h
  | .tuple ds, u, h => by
    rw [repB.eq_def] at h
    dsimp only at h
    split at h
    · rename_i a
      split at h
      · rename_i od its n sl hk
        simp only [Bool.and_eq_true, decide_eq_true_eq] at h
        obtain ⟨vs, hv, hr⟩ := repsB_ok ds its.toList h.2
        exact ⟨.ref a, rfl, fun G => tup_rep (.inr ⟨_, its, n, hk, rfl, rfl, by rw [sizeLine_eq]; omega, hv⟩) (hr G)⟩
      · cases h
    · cases h
  | .list _, u, h => by rw [repB.eq_def] at h; cases h
  | .dict _, u, h => by rw [repB.eq_def] at h; cases h
theorem repsB_ok {K : Fg} : ∀ (ds : List D) (us : List Value), repsB K ds us = true → ∃ vs, Vals vs us ∧ ∀ G, Reps K G ds vs
  | [], us, h => by
    rw [repsB.eq_def] at h
    dsimp only at h
    cases us with
    | nil => exact ⟨[], .nil, fun G => Reps.nil⟩
    | cons _ _ => cases h
  | d :: ds, us, h => by
    rw [repsB.eq_def] at h
    dsimp only at h
    cases us with
    | nil => cases h
    | cons u us =>
      simp only [Bool.and_eq_true] at h
      obtain ⟨v, h1, h2⟩ := repB_ok d u h.1
      obtain ⟨vs, h3, h4⟩ := repsB_ok ds us h.2
      exact ⟨v :: vs, .cons h1 h3, fun G => Reps.cons (h2 G) (h4 G)⟩
end
/-- the tables of a linked text: its defs, its constants, its classes of errors -/
structure Tab where
  defs : List (Nat × FD)
  cons : List (Nat × Str × D)
  excs : List (Nat × Str)
def Tab.lnk (T : Tab) (tv : Nat → List (D × D)) : Lnk where
  defs f := (T.defs.find? fun p => p.1 == f).map (·.2)
  gname g := (T.cons.find? fun p => p.1 == g).map (·.2.1)
  tname _ := none
  cname c := (T.excs.find? fun p => p.1 == c).map (·.2)
  gv g := (T.cons.find? fun p => p.1 == g).map (·.2.2)
  tv := tv
def defD (d : FD) : He.DefD := ⟨(d.name, none), d.name, d.name, defArgs d.st, defBody d.st, defScope d.st, [], []⟩
def Tab.fn (T : Tab) : List He.DefD := T.defs.map fun p => defD p.2
def Tab.fa (T : Tab) : List He.Fa := (T.defs.map fun p => .glo p.2.name) ++ (bnames.map .free ++ ((T.excs.map fun p => .exc p.2) ++ T.excs.map fun p => .glo p.2))
def conB (K : Fg) (p : Nat × Str × D) : Bool := match PySem.W.nsIn K mainGlobals p.2.1 with
  | some (some u) => repB K p.2.2 u
  | _ => false
abbrev Al2 : Type := He.AlD × Bool
def ob2 (n : Nat) (T : Tab) (g : Addr → Option Obj) : Al2 := (He.obsDG n T.fa T.fn g, T.cons.all fun p => conB (He.frG g (He.asD g n)) p)
def hook2 (n : Nat) (T : Tab) : PySem.W.Hook where
  α := Al2
  obs s := ob2 n T s.heap.get?
  val _ := (He.valD T.fn, true)
  says _ h := ∃ K : Fg, K.In h ∧ He.SaysD T.fa T.fn K ∧ (T.cons.all fun p => conB K p) = true
  of _ _ e := ⟨_, He.frG_in, congrArg (fun z : Al2 => z.1) e, congrArg (fun z : Al2 => z.2) e⟩
  keeps _ _ _ x k := by
    obtain ⟨K, hK, c⟩ := x
    exact ⟨K, PySem.W.Frag.In.keeps hK k, c⟩
theorem ob2_eq {n : Nat} {T : Tab} {g : Addr → Option Obj} {s : Shared} (h : ∀ a, g a = s.heap.get? a) : ob2 n T g = (hook2 n T).obs s := by
  have e : g = s.heap.get? := funext h
  rw [e]
  rfl
theorem fact_of {fa : List He.Fa} {fn : List He.DefD} {K : Fg} (c : He.SaysD fa fn K) {f : He.Fa} (h : f ∈ fa) : f.ok K = true := by
  obtain ⟨i, hi⟩ := List.getElem?_of_mem h
  exact c.fact i hi
theorem find_mem {α : Type} {l : List (Nat × α)} {f : Nat} {d : α} (h : (l.find? fun p => p.1 == f).map (·.2) = some d) : (f, d) ∈ l := by
  rw [Option.map_eq_some_iff] at h
  obtain ⟨p, hp, rfl⟩ := h
  have h1 := List.mem_of_find?_eq_some hp
  have h2 := List.find?_some hp
  have h3 := eq_of_beq h2
  subst h3
  exact h1
theorem lnk_ok {T : Tab} {tv : Nat → List (D × D)} {w : World} {K : Fg} {mg : Str → Option Value} {h : Heap} (X : K.In h) (G : h.Ns mainGlobals mg) (c : He.SaysD T.fa T.fn K) (c2 : (T.cons.all fun p => conB K p) = true)
    (hc : (T.defs.all fun p => p.2.ok (T.lnk tv)) = true) : ∃ ca, LnkOk (T.lnk tv) w K mg ca := by
  refine ⟨fun k => He.ga K (((T.excs.find? fun p => p.1 == k).map (·.2)).getD ⟨#[]⟩), ?_⟩
  refine ⟨fun f d hd => ?_, fun f d hd => ?_, fun g x d hx hd => ?_, fun x hx => ?_, ?_, fun k x hx => ?_⟩
  · have hm := find_mem hd
    obtain ⟨i, hi⟩ := List.getElem?_of_mem hm
    have hfn : T.fn[i]? = some (defD d) := by
      unfold Tab.fn
      rw [List.getElem?_map, hi]
      rfl
    obtain ⟨fd, F⟩ := c.def_ i hfn
    refine ⟨_, fd, F, ?_⟩
    exact He.glo_ok X G (fact_of c (f := .glo d.name) (List.mem_append_left _ (List.mem_map.mpr ⟨_, hm, rfl⟩)))
  · rw [List.all_eq_true] at hc
    exact hc _ (find_mem hd)
  · have hx' : (T.cons.find? fun p => p.1 == g).map (·.2.1) = some x := hx
    have hd' : (T.cons.find? fun p => p.1 == g).map (·.2.2) = some d := hd
    rw [Option.map_eq_some_iff] at hx' hd'
    obtain ⟨p, hp, rfl⟩ := hx'
    obtain ⟨p', hp', rfl⟩ := hd'
    rw [hp] at hp'
    cases hp'
    rw [List.all_eq_true] at c2
    have := c2 p (List.mem_of_find?_eq_some hp)
    unfold conB at this
    split at this
    · rename_i u hu
      obtain ⟨v, r1, r2⟩ := repB_ok _ _ this
      exact ⟨u, v, PySem.W.mg_of X G hu, r1, r2⟩
    · cases this
  · exact He.free_ok X G (fact_of c (f := .free x) (List.mem_append_right _ (List.mem_append_left _ (List.mem_map.mpr ⟨_, hx, rfl⟩))))
  · intro g x hx
    cases hx
  · have hx' : (T.excs.find? fun p => p.1 == k).map (·.2) = some x := hx
    have hm := find_mem hx'
    have g1 := He.glo_ok X G (fact_of c (f := .glo x) (List.mem_append_right _ (List.mem_append_right _ (List.mem_append_right _ (List.mem_map.mpr ⟨_, hm, rfl⟩)))))
    obtain ⟨e1, e2, e3, e4⟩ := He.exc_ok (fact_of c (f := .exc x) (List.mem_append_right _ (List.mem_append_right _ (List.mem_append_left _ (List.mem_map.mpr ⟨_, hm, rfl⟩)))))
    refine ⟨_, _, _, _, _, ?_, g1, e2, PySem.F.excBase_ValueError, e1, fun M h' X' => ⟨PySem.W.looks_subIn X' e3, PySem.W.looks_typeIn X' e4⟩⟩
    rw [hx']
    rfl
/-- all that the head asks of a law -/
theorem facts_of {T : Tab} {tv : Nat → List (D × D)} (hc : (T.defs.all fun p => p.2.ok (T.lnk tv)) = true) {k f : Nat} {d : FD} {x : Str} (hd : (T.lnk tv).defs f = some d) (hp : d.ps = [x])
    (A : ∀ ns : List Int, ns.length ≤ 63 → ∃ st, callN (T.lnk tv).gv tv (T.lnk tv).Γ k f [.scr ns] [] = .ok (.d (.bool true)) st)
    {P : Program} {w : World} {K : Fg} {h : Heap} {mg : Str → Option Value} {a : Addr} (X : K.In h) (G : h.Ns mainGlobals mg) (hfa : mg d.name = some (.ref a)) (c : He.SaysD T.fa T.fn K) (c2 : (T.cons.all fun p => conB K p) = true) :
    ∃ (fd : FuncData) (sp : Sp), (∀ (s : Shared) (u : Value), BindsTo s fd ⟨[u], []⟩ [(x, u)]) ∧
      (∀ (H : Hp) (a : Addr) (ns : List Int), ns.length ≤ 63 → Only H → SqL K H a (ns.map V.int) → sp [.ref a] H (fun v _ => v = .bl true) fun _ _ _ => False) ∧
      ∀ base : Heap, K.In base → base.Ns mainGlobals mg → FnOk P w K mg base (L2.CX P w) k a fd [x] sp := by
  obtain ⟨ca, O⟩ := lnk_ok (tv := tv) (w := w) X G c c2 hc
  obtain ⟨fa, fd, F, hm⟩ := O.def_ f d hd
  rw [hfa] at hm
  cases hm
  refine ⟨fd, spF ((T.lnk tv).Y K ca k) f 1, fun s v => ?_, fun H a ns hn ho hs => law_ok k f A H a ns hn hs, fun base hb hg => ?_⟩
  · exact FunD.bindsA (ps := [x]) F (fun kV doc pm an cdv ct us hl => bind_plain (by rw [← hp]; exact plain_of (O.chk f d hd)) us hl) s [v] rfl
  · have := all_ok (P := P) (base := base) O k f d a fd hd F
    rw [hp] at this
    exact this
theorem cx_none {P : Program} {w : World} : ∀ (H : Hp) (s : Shared) (e : Value) (s' : Shared), L2.CX P w [] H s (fun _ _ _ => False) e s' → False := fun _ _ _ _ h => by
  obtain ⟨_, _, _, _, _, _, _, _, _, _, _, _, z⟩ := h
  exact z
/-- the end: the law's def called, over what the head tells -/
theorem walkI {l : PySem.W.OpenLaw} {k : Nat} {q : Program} {loose : List Str} {XP : (Str → Option Value) → Heap → Prop} {YP : World → Heap → Prop} {d : DefRec} {x : Str} (hm : l.most = some 63) (h0 : d.params.defaults = []) (room : Room k callerA)
    (F : ∀ (w : World) (mg : Str → Option Value) (a : Addr) (h : Heap), YP w h → h.Ns mainGlobals mg → mg d.name = some (.ref a) →
      ∃ (K : Fg) (fd : FuncData) (sp : Sp), K.In h ∧ (∀ (s : Shared) (u : Value), BindsTo s fd ⟨[u], []⟩ [(x, u)]) ∧
        (∀ (H : Hp) (b : Addr) (is : List Int), is.length ≤ 63 → Only H → SqL K H b (is.map V.int) → sp [.ref b] H (fun v _ => v = .bl true) fun _ _ _ => False) ∧
        ∀ b0 : Heap, K.In b0 → b0.Ns mainGlobals mg → FnOk l.prog w K mg b0 (L2.CX l.prog w) k a fd [x] sp) : PySem.W.WalkO q loose XP YP l.row.toRowW d [] (fun f vs => PySem.call f vs) := by
  refine Att.attach_call hm h0 fun w t₀ t₁ mg mb a o pm cd doc b us is G Y2 e1 e2 e3 e4 e5 e6 e7 e8 => ?_
  obtain ⟨K, fd, sp, KX, hb, hsp, hF⟩ := F w mg a _ Y2 G.T.g e4
  refine law_call KX G.T.g G.T.b G.T.builtins G.T.nolimit e8 e5 e6 (Nat.le_trans e7 ?_) room hF hb (fun H o1 o2 => hsp H b is e7 o1 o2) fun H e t => cx_none H t₁ e t
  rw [sizeLine_eq]
  omega
end Ip
/-! Pl1: plain laws of the small language. -/
namespace Ip
open PySem

@[simp] theorem tx_cps (l : List Nat) : (⟨l.toArray⟩ : Str).cps.toList = l := by simp
@[simp] theorem wipe_none (ρ : Ev) : wipeE ρ [] = ρ := rfl
@[simp] theorem wipe_more (ρ : Ev) (i : Nat) (r : List Nat) : wipeE ρ (i :: r) = (wipeE ρ r).set i .un := rfl
@[simp] theorem isa1 (s : Str) : isaD .str (.str s) = true := rfl
@[simp] theorem isa2 (xs : List D) : isaD .tuple (.tuple xs) = true := rfl
@[simp] theorem isa3 (i : Int) : isaD .int (.int i) = true := rfl
@[simp] theorem isa4 (i : Int) : isaD .bool (.int i) = false := rfl
@[simp] theorem isa5 (xs : List D) : isaD .list (.list xs) = true := rfl
@[simp] theorem needD_d (x : D) (st : Store) : needD (.ok (.d x) st) = .ok x st := rfl
@[simp] theorem needD_bad : needD .bad = .bad := rfl
@[simp] theorem calm_ok {α : Type} (a : α) (st : Store) : (Rs.ok a st).calm = .ok a st := rfl
@[simp] theorem dat_d (x : D) : (Val.d x).dat = some x := rfl
@[simp] theorem val_v (x : Val) : (Slot.v x).val = some x := rfl
@[simp] theorem look_v (x : Val) : (Slot.v x).look = some x := rfl
@[simp] theorem look_ol (xs : List D) : (Slot.ol xs).look = some (.d (.list xs)) := rfl
@[simp] theorem map_d (o : D) : (some o).map Val.d = some (.d o) := rfl
variable {gv : Nat → Option D} {tv : Nat → List (D × D)} {cf : CallF}
/-- a row whose items are told one by one, the store as it was -/
theorem compL_map {α : Type} {t : Tg} {elt : Ev → Store → Rs D} {ρ : Ev} {st : Store} {enc g : α → D} : ∀ {l : List α}, (∀ a ∈ l, ∃ ρ', t.put (enc a) ρ = some ρ' ∧ elt ρ' st = .ok (g a) st) → compL t elt (fun _ st => .ok (.bool true) st) ρ (l.map enc) st = .ok (l.map g) st
  | [], _ => rfl
  | x :: xs, h => by
    obtain ⟨ρ', h1, h2⟩ := h x (by simp)
    rw [List.map_cons, compL, h1]
    simp only [bind_ok, h2]
    rw [compL_map fun y hy => h y (by simp [hy])]
    rfl
theorem compL_filter {α : Type} {t : Tg} {elt c : Ev → Store → Rs D} {ρ : Ev} {st : Store} {enc g : α → D} {p : α → Bool} : ∀ {l : List α}, (∀ a ∈ l, ∃ ρ', t.put (enc a) ρ = some ρ' ∧ c ρ' st = .ok (.bool (p a)) st ∧ (p a = true → elt ρ' st = .ok (g a) st)) →
    compL t elt c ρ (l.map enc) st = .ok ((l.filter p).map g) st
  | [], _ => rfl
  | x :: xs, h => by
    obtain ⟨ρ', h1, h2, h3⟩ := h x (by simp)
    rw [List.map_cons, compL, h1]
    simp only [bind_ok, h2]
    have ih := compL_filter (l := xs) fun y hy => h y (by simp [hy])
    cases e : p x with
    | true =>
      simp only [h3 e, bind_ok, ih]
      simp [e]
    | false =>
      simp only [ih]
      simp [e]
/-- a row whose items are told one by one, the store going on -/
theorem compL_go {t : Tg} {elt : Ev → Store → Rs D} {ρ : Ev} (S : Nat → Store) (g : Nat → D) : ∀ (xs : List D) (k : Nat), (∀ (j : Nat) (x : D), xs[j]? = some x → ∃ ρ', t.put x ρ = some ρ' ∧ elt ρ' (S (k + j)) = .ok (g (k + j)) (S (k + j + 1))) →
    compL t elt (fun _ st => .ok (.bool true) st) ρ xs (S k) = .ok ((List.range xs.length).map fun j => g (k + j)) (S (k + xs.length))
  | [], k, _ => rfl
  | x :: xs, k, h => by
    obtain ⟨ρ', h1, h2⟩ := h 0 x rfl
    rw [compL, h1]
    simp only [bind_ok]
    rw [Nat.add_zero] at h2
    rw [h2]
    simp only [bind_ok]
    have ih := compL_go (ρ := ρ) S g xs (k + 1) fun j y hj => by
      have := h (j + 1) y (by simpa using hj)
      rw [show k + (j + 1) = k + 1 + j by omega] at this
      exact this
    rw [ih]
    simp only [bind_ok, List.length_cons, List.range_succ_eq_map, List.map_cons, List.map_map]
    congr 1
    · congr 1
      apply List.map_congr_left
      intro j _
      show g (k + 1 + j) = g (k + (j + 1))
      rw [show k + 1 + j = k + (j + 1) by omega]
    · rw [show k + 1 + xs.length = k + (xs.length + 1) by omega]
theorem compL_go0 {t : Tg} {elt : Ev → Store → Rs D} {ρ : Ev} (S : Nat → Store) (g : Nat → D) (xs : List D) (h : ∀ (j : Nat) (x : D), xs[j]? = some x → ∃ ρ', t.put x ρ = some ρ' ∧ elt ρ' (S j) = .ok (g j) (S (j + 1))) :
    compL t elt (fun _ st => .ok (.bool true) st) ρ xs (S 0) = .ok ((List.range xs.length).map g) (S xs.length) := by
  have := compL_go (t := t) (elt := elt) (ρ := ρ) S g xs 0 fun j x hj => by
    have := h j x hj
    rw [Nat.zero_add]
    exact this
  rw [this, Nat.zero_add]
  congr 1
  apply List.map_congr_left
  intro j _
  rw [Nat.zero_add]
/-- the turns of a for that goes on to the end -/
theorem forL_inv {t : Tg} {body : Ev → Store → Out} {st : Store} (P : Ev → Prop) : ∀ (xs : List D) (ρ : Ev), P ρ → (∀ x ∈ xs, ∀ ρ, P ρ → ∃ ρ1 ρ2, t.put x ρ = some ρ1 ∧ body ρ1 st = .nx ρ2 st ∧ P ρ2) → ∃ ρ', P ρ' ∧ forL t body xs ρ st = .nx ρ' st
  | [], ρ, h, _ => ⟨ρ, h, rfl⟩
  | x :: xs, ρ, h, hb => by
    obtain ⟨ρ1, ρ2, h1, h2, h3⟩ := hb x (by simp) ρ h
    obtain ⟨ρ', h4, h5⟩ := forL_inv P xs ρ2 h3 fun y hy => hb y (by simp [hy])
    refine ⟨ρ', h4, ?_⟩
    rw [forL, h1]
    simp only [h2]
    exact h5
/-- .. with the state told turn by turn -/
theorem forL_go {t : Tg} {body : Ev → Store → Out} {st : Store} (S : Nat → Ev) : ∀ (xs : List D) (k : Nat), (∀ (j : Nat) (x : D), xs[j]? = some x → ∃ ρ1, t.put x (S (k + j)) = some ρ1 ∧ body ρ1 st = .nx (S (k + j + 1)) st) → forL t body xs (S k) st = .nx (S (k + xs.length)) st
  | [], k, _ => rfl
  | x :: xs, k, h => by
    obtain ⟨ρ1, h1, h2⟩ := h 0 x rfl
    rw [Nat.add_zero] at h1 h2
    rw [forL, h1]
    simp only [h2]
    have := forL_go S xs (k + 1) fun j y hj => by
      have := h (j + 1) y (by simpa using hj)
      rw [show k + (j + 1) = k + 1 + j by omega] at this
      exact this
    rw [this, List.length_cons, show k + 1 + xs.length = k + (xs.length + 1) by omega]
@[simp] theorem e_var (i : Nat) (ρ : Ev) (st : Store) : evE gv tv cf (.var i) ρ st = Rs.of ((ρ[i]?).bind Slot.val) st := by rw [evE] <;> rfl
@[simp] theorem e_tv (i : Nat) (ρ : Ev) (st : Store) : evE gv tv cf (.tv i) ρ st = Rs.of ((ρ[i]?).bind Slot.look) st := by rw [evE] <;> rfl
@[simp] theorem e_con (d : D) (ρ : Ev) (st : Store) : evE gv tv cf (.con d) ρ st = .ok (.d d) st := by rw [evE] <;> rfl
@[simp] theorem e_glob (g : Nat) (ρ : Ev) (st : Store) : evE gv tv cf (.glob g) ρ st = Rs.of ((gv g).map Val.d) st := by rw [evE] <;> rfl
@[simp] theorem e_tup (es : Exs) (ρ : Ev) (st : Store) : evE gv tv cf (.tup es) ρ st = (evs gv tv cf es ρ st).bind fun xs st => .ok (.d (.tuple xs)) st := by rw [evE] <;> rfl
@[simp] theorem e_lst (es : Exs) (ρ : Ev) (st : Store) : evE gv tv cf (.lst es) ρ st = (evs gv tv cf es ρ st).bind fun xs st => .ok (.d (.list xs)) st := by rw [evE] <;> rfl
@[simp] theorem e_bin (o : Bop) (a : Ex) (b : Ex) (ρ : Ev) (st : Store) : evE gv tv cf (.bin o a b) ρ st = (needD (evE gv tv cf a ρ st)).bind fun x st => (needD (evE gv tv cf b ρ st)).bind fun y st => Rs.of ((binD o x y).map Val.d) st := by rw [evE] <;> rfl
@[simp] theorem e_neg (a : Ex) (ρ : Ev) (st : Store) : evE gv tv cf (.neg a) ρ st = (needD (evE gv tv cf a ρ st)).bind fun x st => match x with
    | .int i => .ok (.d (.int (-i))) st
    | _ => .bad := by rw [evE] <;> rfl
@[simp] theorem e_not (a : Ex) (ρ : Ev) (st : Store) : evE gv tv cf (.not a) ρ st = (needD (evE gv tv cf a ρ st)).bind fun x st => match x with
    | .bool b => .ok (.d (.bool (!b))) st
    | _ => .bad := by rw [evE] <;> rfl
@[simp] theorem e_and (a : Ex) (b : Ex) (ρ : Ev) (st : Store) : evE gv tv cf (.and a b) ρ st = (needD (evE gv tv cf a ρ st)).bind fun x st => match x with
    | .bool true => evE gv tv cf b ρ st
    | .bool false => .ok (.d (.bool false)) st
    | _ => .bad := by rw [evE] <;> rfl
@[simp] theorem e_or (a : Ex) (b : Ex) (ρ : Ev) (st : Store) : evE gv tv cf (.or a b) ρ st = (needD (evE gv tv cf a ρ st)).bind fun x st => match x with
    | .bool true => .ok (.d (.bool true)) st
    | .bool false => evE gv tv cf b ρ st
    | _ => .bad := by rw [evE] <;> rfl
@[simp] theorem e_cmp (o : Cop) (a : Ex) (b : Ex) (ρ : Ev) (st : Store) : evE gv tv cf (.cmp o a b) ρ st = (needD (evE gv tv cf a ρ st)).bind fun x st => (needD (evE gv tv cf b ρ st)).bind fun y st => Rs.of ((cmpD o x y).map fun b => Val.d (.bool b)) st := by rw [evE] <;> rfl
@[simp] theorem e_chain (o : Cop) (p : Cop) (a : Ex) (b : Ex) (c : Ex) (ρ : Ev) (st : Store) : evE gv tv cf (.chain o p a b c) ρ st = (needD (evE gv tv cf a ρ st)).bind fun x st => (needD (evE gv tv cf b ρ st)).bind fun y st => match cmpD o x y with
    | some true => (needD (evE gv tv cf c ρ st)).bind fun z st => Rs.of ((cmpD p y z).map fun b => Val.d (.bool b)) st
    | some false => .ok (.d (.bool false)) st
    | none => .bad := by rw [evE] <;> rfl
@[simp] theorem e_isn (n : Bool) (a : Ex) (ρ : Ev) (st : Store) : evE gv tv cf (.isn n a) ρ st = (needD (evE gv tv cf a ρ st)).bind fun x st => .ok (.d (.bool (n != (match x with | .none => true | _ => false)))) st := by rw [evE] <;> rfl
@[simp] theorem e_ist (n : Bool) (a : Ex) (ρ : Ev) (st : Store) : evE gv tv cf (.ist n a) ρ st = (needD (evE gv tv cf a ρ st)).bind fun x st => match x with
    | .bool b => .ok (.d (.bool (n != b))) st
    | _ => .bad := by rw [evE] <;> rfl
@[simp] theorem e_ite (c : Ex) (a : Ex) (b : Ex) (ρ : Ev) (st : Store) : evE gv tv cf (.ite c a b) ρ st = (needD (evE gv tv cf c ρ st)).bind fun x st => match x with
    | .bool true => evE gv tv cf a ρ st
    | .bool false => evE gv tv cf b ρ st
    | _ => .bad := by rw [evE] <;> rfl
@[simp] theorem e_idx (a : Ex) (b : Ex) (ρ : Ev) (st : Store) : evE gv tv cf (.idx a b) ρ st = (needD (evE gv tv cf a ρ st)).bind fun x st => (needD (evE gv tv cf b ρ st)).bind fun y st => Rs.of ((idxD x y).map Val.d) st := by rw [evE] <;> rfl
@[simp] theorem e_slc (a : Ex) (lo : Ex) (hi : Ex) (ρ : Ev) (st : Store) : evE gv tv cf (.slc a lo hi) ρ st = (needD (evE gv tv cf a ρ st)).bind fun x st => (needD (evE gv tv cf lo ρ st)).bind fun y st => match y with
    | .int i => (needD (evE gv tv cf hi ρ st)).bind fun z st => match z with
      | .int j => Rs.of ((cutD x (some i) (some j)).map Val.d) st
      | _ => .bad
    | _ => .bad := by rw [evE] <;> rfl
@[simp] theorem e_slo (a : Ex) (lo : Ex) (ρ : Ev) (st : Store) : evE gv tv cf (.slo a lo) ρ st = (needD (evE gv tv cf a ρ st)).bind fun x st => (needD (evE gv tv cf lo ρ st)).bind fun y st => match y with
    | .int i => Rs.of ((cutD x (some i) none).map Val.d) st
    | _ => .bad := by rw [evE] <;> rfl
@[simp] theorem e_shi (a : Ex) (hi : Ex) (ρ : Ev) (st : Store) : evE gv tv cf (.shi a hi) ρ st = (needD (evE gv tv cf a ρ st)).bind fun x st => (needD (evE gv tv cf hi ρ st)).bind fun y st => match y with
    | .int i => Rs.of ((cutD x none (some i)).map Val.d) st
    | _ => .bad := by rw [evE] <;> rfl
@[simp] theorem e_rev (a : Ex) (ρ : Ev) (st : Store) : evE gv tv cf (.rev a) ρ st = (needD (evE gv tv cf a ρ st)).bind fun x st => Rs.of ((revD x).map Val.d) st := by rw [evE] <;> rfl
@[simp] theorem e_call (f : Nat) (es : Exs) (ρ : Ev) (st : Store) : evE gv tv cf (.call f es) ρ st = (evVs gv tv cf es ρ st).bind fun xs st => cf f xs st := by rw [evE] <;> rfl
theorem e_bi (b : Bi) (es : Exs) (ρ : Ev) (st : Store) : evE gv tv cf (.bi b es) ρ st = (evs gv tv cf es ρ st).bind fun xs st => Rs.of ((biD b xs).map Val.d) st := by rw [evE] <;> rfl
@[simp] theorem e_b_len (es : Exs) (ρ : Ev) (st : Store) : evE gv tv cf (.bi .len es) ρ st = (evs gv tv cf es ρ st).bind fun xs st => Rs.of ((biD .len xs).map Val.d) st := e_bi ..
@[simp] theorem e_b_abs (es : Exs) (ρ : Ev) (st : Store) : evE gv tv cf (.bi .abs es) ρ st = (evs gv tv cf es ρ st).bind fun xs st => Rs.of ((biD .abs xs).map Val.d) st := e_bi ..
@[simp] theorem e_b_max2 (es : Exs) (ρ : Ev) (st : Store) : evE gv tv cf (.bi .max2 es) ρ st = (evs gv tv cf es ρ st).bind fun xs st => Rs.of ((biD .max2 xs).map Val.d) st := e_bi ..
@[simp] theorem e_b_min2 (es : Exs) (ρ : Ev) (st : Store) : evE gv tv cf (.bi .min2 es) ρ st = (evs gv tv cf es ρ st).bind fun xs st => Rs.of ((biD .min2 xs).map Val.d) st := e_bi ..
@[simp] theorem e_b_max1 (es : Exs) (ρ : Ev) (st : Store) : evE gv tv cf (.bi .max1 es) ρ st = (evs gv tv cf es ρ st).bind fun xs st => Rs.of ((biD .max1 xs).map Val.d) st := e_bi ..
@[simp] theorem e_b_min1 (es : Exs) (ρ : Ev) (st : Store) : evE gv tv cf (.bi .min1 es) ρ st = (evs gv tv cf es ρ st).bind fun xs st => Rs.of ((biD .min1 xs).map Val.d) st := e_bi ..
@[simp] theorem e_b_sum (es : Exs) (ρ : Ev) (st : Store) : evE gv tv cf (.bi .sum es) ρ st = (evs gv tv cf es ρ st).bind fun xs st => Rs.of ((biD .sum xs).map Val.d) st := e_bi ..
@[simp] theorem e_b_sorted (es : Exs) (ρ : Ev) (st : Store) : evE gv tv cf (.bi .sorted es) ρ st = (evs gv tv cf es ρ st).bind fun xs st => Rs.of ((biD .sorted xs).map Val.d) st := e_bi ..
@[simp] theorem e_b_list (es : Exs) (ρ : Ev) (st : Store) : evE gv tv cf (.bi .list es) ρ st = (evs gv tv cf es ρ st).bind fun xs st => Rs.of ((biD .list xs).map Val.d) st := e_bi ..
@[simp] theorem e_b_tuple (es : Exs) (ρ : Ev) (st : Store) : evE gv tv cf (.bi .tuple es) ρ st = (evs gv tv cf es ρ st).bind fun xs st => Rs.of ((biD .tuple xs).map Val.d) st := e_bi ..
@[simp] theorem e_b_int (es : Exs) (ρ : Ev) (st : Store) : evE gv tv cf (.bi .int es) ρ st = (evs gv tv cf es ρ st).bind fun xs st => Rs.of ((biD .int xs).map Val.d) st := e_bi ..
@[simp] theorem e_b_isa (t : Ty) (es : Exs) (ρ : Ev) (st : Store) : evE gv tv cf (.bi (.isa t) es) ρ st = (evs gv tv cf es ρ st).bind fun xs st => Rs.of ((biD (.isa t) xs).map Val.d) st := e_bi ..
@[simp] theorem e_smt (m : Mt) (a : Ex) (e : Ex) (ρ : Ev) (st : Store) : evE gv tv cf (.smt m a e) ρ st = (needD (evE gv tv cf a ρ st)).bind fun x st => match x with
    | .str s => (needD (evE gv tv cf e ρ st)).bind fun y st => Rs.of ((mtD m (.str s) y).map Val.d) st
    | _ => .bad := by rw [evE] <;> rfl
@[simp] theorem e_tab (g : Nat) (a : Ex) (ρ : Ev) (st : Store) : evE gv tv cf (.tab g a) ρ st = (needD (evE gv tv cf a ρ st)).bind fun x st => match x with
    | .str s => Rs.of ((getK (tv g) (.str s)).map Val.d) st
    | _ => .bad := by rw [evE] <;> rfl
@[simp] theorem e_lenL (i : Nat) (ρ : Ev) (st : Store) : evE gv tv cf (.lenL i) ρ st = match (ρ[i]?).bind Slot.val with
    | some (.loc n) => match st[n]? with
      | some (.lst xs) => .ok (.d (.int xs.length)) st
      | _ => .bad
    | _ => .bad := by rw [evE] <;> rfl
@[simp] theorem e_lenS (i : Nat) (ρ : Ev) (st : Store) : evE gv tv cf (.lenS i) ρ st = match (ρ[i]?).bind Slot.val with
    | some (.scr ns) => .ok (.d (.int ns.length)) st
    | _ => .bad := by rw [evE] <;> rfl
@[simp] theorem e_nilS (i : Nat) (ρ : Ev) (st : Store) : evE gv tv cf (.nilS i) ρ st = match (ρ[i]?).bind Slot.val with
    | some (.scr ns) => .ok (.d (.bool ns.isEmpty)) st
    | _ => .bad := by rw [evE] <;> rfl
@[simp] theorem e_idxS (i : Nat) (a : Ex) (ρ : Ev) (st : Store) : evE gv tv cf (.idxS i a) ρ st = match (ρ[i]?).bind Slot.val with
    | some (.scr ns) => (needD (evE gv tv cf a ρ st)).bind fun y st => match y with
      | .int j => Rs.of (((ixZ ns.length j).bind fun k => ns[k]?).map fun n => Val.d (.int n)) st
      | _ => .bad
    | _ => .bad := by rw [evE] <;> rfl
@[simp] theorem es_nil (ρ : Ev) (st : Store) : evs gv tv cf .nil ρ st = .ok [] st := by rw [evs] <;> rfl
@[simp] theorem es_cons (e : Ex) (r : Exs) (ρ : Ev) (st : Store) : evs gv tv cf (.cons e r) ρ st = (needD (evE gv tv cf e ρ st)).bind fun x st => (evs gv tv cf r ρ st).bind fun xs st => .ok (x :: xs) st := by rw [evs] <;> rfl
@[simp] theorem ev_nil (ρ : Ev) (st : Store) : evVs gv tv cf .nil ρ st = .ok [] st := by rw [evVs] <;> rfl
@[simp] theorem ev_cons (e : Ex) (r : Exs) (ρ : Ev) (st : Store) : evVs gv tv cf (.cons e r) ρ st = (evE gv tv cf e ρ st).bind fun x st => (evVs gv tv cf r ρ st).bind fun xs st => .ok (x :: xs) st := by rw [evVs] <;> rfl
/-- a row -/
theorem e_comp {own : List Nat} {elt : Ex} {t : Tg} {it : It} {ρ : Ev} {st st1 st2 : Store} {xs ys : List D} (h1 : evI gv tv cf it ρ st = .ok xs st1) (h2 : compL t (fun ρ' st => (needD (evE gv tv cf elt ρ' st)).calm) (fun _ st => .ok (.bool true) st) (wipeE ρ own) xs st1 = .ok ys st2) :
    evE gv tv cf (.comp own elt t it) ρ st = .ok (.d (.list ys)) st2 := by
  rw [evE, h1]
  simp only [bind_ok]
  rw [h2]
  rfl
theorem e_compIf {own : List Nat} {elt c : Ex} {t : Tg} {it : It} {ρ : Ev} {st st1 st2 : Store} {xs ys : List D} (h1 : evI gv tv cf it ρ st = .ok xs st1) (h2 : compL t (fun ρ' st => (needD (evE gv tv cf elt ρ' st)).calm) (fun ρ' st => (needD (evE gv tv cf c ρ' st)).calm) (wipeE ρ own) xs st1 = .ok ys st2) :
    evE gv tv cf (.compIf own elt t it c) ρ st = .ok (.d (.list ys)) st2 := by
  rw [evE, h1]
  simp only [bind_ok]
  rw [h2]
  rfl
/-- .. the store going on -/
theorem e_go {own : List Nat} {elt : Ex} {t : Tg} {it : It} {ρ : Ev} {xs : List D} (S : Nat → Store) (g : Nat → D) (h1 : evI gv tv cf it ρ (S 0) = .ok xs (S 0)) (h2 : ∀ (j : Nat) (x : D), xs[j]? = some x → ∃ ρ', t.put x (wipeE ρ own) = some ρ' ∧ evE gv tv cf elt ρ' (S j) = .ok (.d (g j)) (S (j + 1))) :
    evE gv tv cf (.comp own elt t it) ρ (S 0) = .ok (.d (.list ((List.range xs.length).map g))) (S xs.length) :=
  e_comp h1 (compL_go0 S g xs fun j x hj => by
    obtain ⟨ρ', a, b⟩ := h2 j x hj
    exact ⟨ρ', a, by rw [b]; rfl⟩)
/-- .. item by item -/
theorem e_map {α : Type} {own : List Nat} {elt : Ex} {t : Tg} {it : It} {ρ : Ev} {st : Store} {l : List α} {enc : α → D} (g : α → D) (h1 : evI gv tv cf it ρ st = .ok (l.map enc) st) (h2 : ∀ a ∈ l, ∃ ρ', t.put (enc a) (wipeE ρ own) = some ρ' ∧ evE gv tv cf elt ρ' st = .ok (.d (g a)) st) :
    evE gv tv cf (.comp own elt t it) ρ st = .ok (.d (.list (l.map g))) st :=
  e_comp h1 (compL_map fun x hx => by
    obtain ⟨ρ', a, b⟩ := h2 x hx
    exact ⟨ρ', a, by rw [b]; rfl⟩)
theorem e_filter {α : Type} {own : List Nat} {elt c : Ex} {t : Tg} {it : It} {ρ : Ev} {st : Store} {l : List α} {enc : α → D} (g : α → D) (p : α → Bool) (h1 : evI gv tv cf it ρ st = .ok (l.map enc) st)
    (h2 : ∀ a ∈ l, ∃ ρ', t.put (enc a) (wipeE ρ own) = some ρ' ∧ evE gv tv cf c ρ' st = .ok (.d (.bool (p a))) st ∧ (p a = true → evE gv tv cf elt ρ' st = .ok (.d (g a)) st)) :
    evE gv tv cf (.compIf own elt t it c) ρ st = .ok (.d (.list ((l.filter p).map g))) st :=
  e_compIf h1 (compL_filter fun x hx => by
    obtain ⟨ρ', a, b, d⟩ := h2 x hx
    exact ⟨ρ', a, by rw [b]; rfl, fun hp => by rw [d hp]; rfl⟩)
theorem asBools_map {α : Type} (p : α → Bool) : ∀ xs : List α, asBools (xs.map fun x => PyData.bool (p x)) = some (xs.map p)
  | [] => rfl
  | x :: xs => by simp [asBools, asBools_map p xs]
theorem asStrs_map : ∀ M : List (List Nat), asStrs (M.map tx) = some M
  | [] => rfl
  | r :: M => by
    show (asStrs (M.map tx)).map _ = _
    rw [asStrs_map M]
    simp
theorem asInts_map : ∀ M : List Int, asInts (M.map PyData.int) = some M
  | [] => rfl
  | r :: M => by simp [asInts, asInts_map M]
/-- all([.. for ..]) -/
theorem e_all {α : Type} {own : List Nat} {elt : Ex} {t : Tg} {it : It} {ρ : Ev} {st : Store} {l : List α} {enc : α → D} (p : α → Bool) (h1 : evI gv tv cf it ρ st = .ok (l.map enc) st) (h2 : ∀ a ∈ l, ∃ ρ', t.put (enc a) (wipeE ρ own) = some ρ' ∧ evE gv tv cf elt ρ' st = .ok (.d (.bool (p a))) st) :
    evE gv tv cf (.bi .all (.cons (.comp own elt t it) .nil)) ρ st = .ok (.d (.bool (l.all p))) st := by
  rw [e_bi, es_cons, e_map (fun x => .bool (p x)) h1 h2]
  show Rs.of (((asBools (l.map fun x => PyData.bool (p x))).map fun bs => PyData.bool (bs.all id)).map Val.d) st = _
  rw [asBools_map]
  simp
theorem e_allT {α : Type} {own : List Nat} {elt : Ex} {t : Tg} {it : It} {ρ : Ev} {st : Store} {l : List α} {enc : α → D} (h1 : evI gv tv cf it ρ st = .ok (l.map enc) st) (h2 : ∀ a ∈ l, ∃ ρ', t.put (enc a) (wipeE ρ own) = some ρ' ∧ evE gv tv cf elt ρ' st = .ok (.d (.bool true)) st) :
    evE gv tv cf (.bi .all (.cons (.comp own elt t it) .nil)) ρ st = .ok (.d (.bool true)) st := by
  rw [e_all (fun _ => true) h1 h2]
  have : (l.all fun _ => true) = true := by rw [List.all_eq_true]; intros; rfl
  rw [this]
theorem e_any {α : Type} {own : List Nat} {elt : Ex} {t : Tg} {it : It} {ρ : Ev} {st : Store} {l : List α} {enc : α → D} (p : α → Bool) (h1 : evI gv tv cf it ρ st = .ok (l.map enc) st) (h2 : ∀ a ∈ l, ∃ ρ', t.put (enc a) (wipeE ρ own) = some ρ' ∧ evE gv tv cf elt ρ' st = .ok (.d (.bool (p a))) st) :
    evE gv tv cf (.bi .any (.cons (.comp own elt t it) .nil)) ρ st = .ok (.d (.bool (l.any p))) st := by
  rw [e_bi, es_cons, e_map (fun x => .bool (p x)) h1 h2]
  show Rs.of (((asBools (l.map fun x => PyData.bool (p x))).map fun bs => PyData.bool (bs.any id)).map Val.d) st = _
  rw [asBools_map]
  simp
@[simp] theorem i_seq (e : Ex) (ρ : Ev) (st : Store) : evI gv tv cf (.seq e) ρ st = (needD (evE gv tv cf e ρ st)).bind fun x st => Rs.of (seqD x) st := by rw [evI] <;> rfl
@[simp] theorem i_rng1 (e : Ex) (ρ : Ev) (st : Store) : evI gv tv cf (.rng1 e) ρ st = (needD (evE gv tv cf e ρ st)).bind fun x st => match x with
    | .int j => if rngOk 0 j then .ok (rngD 0 j) st else .bad
    | _ => .bad := by rw [evI] <;> rfl
@[simp] theorem i_rng2 (a : Ex) (b : Ex) (ρ : Ev) (st : Store) : evI gv tv cf (.rng2 a b) ρ st = (needD (evE gv tv cf a ρ st)).bind fun x st => (needD (evE gv tv cf b ρ st)).bind fun y st => match x, y with
    | .int i, .int j => if rngOk i j then .ok (rngD i j) st else .bad
    | _, _ => .bad := by rw [evI] <;> rfl
@[simp] theorem i_enum (e : Ex) (ρ : Ev) (st : Store) : evI gv tv cf (.enum e) ρ st = (needD (evE gv tv cf e ρ st)).bind fun x st => match x with
    | .list xs => .ok (enumD 0 xs) st
    | _ => .bad := by rw [evI] <;> rfl
@[simp] theorem i_zip (a : Ex) (b : Ex) (ρ : Ev) (st : Store) : evI gv tv cf (.zip a b) ρ st = (needD (evE gv tv cf a ρ st)).bind fun x st => (needD (evE gv tv cf b ρ st)).bind fun y st => match x, y with
    | .list xs, .list ys => .ok (zipD xs ys) st
    | _, _ => .bad := by rw [evI] <;> rfl
@[simp] theorem rs_asg (t : Tg) (e : Ex) (ρ : Ev) (st : Store) : runS gv tv cf (.asg t e) ρ st = (needD (evE gv tv cf e ρ st)).out fun x st => ofEv (t.put x ρ) st := by rw [runS] <;> rfl
@[simp] theorem rs_set (i : Nat) (e : Ex) (ρ : Ev) (st : Store) : runS gv tv cf (.set i e) ρ st = (evE gv tv cf e ρ st).out fun x st => ofEv (setS ρ i (.v x)) st := by rw [runS] <;> rfl
@[simp] theorem rs_own (i : Nat) (e : Ex) (ρ : Ev) (st : Store) : runS gv tv cf (.own i e) ρ st = (needD (evE gv tv cf e ρ st)).out fun x st => match x with
    | .list xs => ofEv (setS ρ i (.ol xs)) st
    | _ => .bad := by rw [runS] <;> rfl
@[simp] theorem rs_newd (i : Nat) (ρ : Ev) (st : Store) : runS gv tv cf (.newd i) ρ st = ofEv (setS ρ i (.od [])) st := by rw [runS] <;> rfl
@[simp] theorem rs_newd1 (i : Nat) (k : Ex) (v : Ex) (ρ : Ev) (st : Store) : runS gv tv cf (.newd1 i k v) ρ st = (needD (evE gv tv cf k ρ st)).out fun x st => (needD (evE gv tv cf v ρ st)).out fun y st => if keyOk x && shallow x then ofEv (setS ρ i (.od [(x, y)])) st else .bad := by rw [runS] <;> rfl
@[simp] theorem rs_newl (i : Nat) (ρ : Ev) (st : Store) : runS gv tv cf (.newl i) ρ st = ofEv (setS ρ i (.v (.loc st.length))) (st ++ [.lst []]) := by rw [runS] <;> rfl
@[simp] theorem rs_par (is : List Nat) (es : Exs) (ρ : Ev) (st : Store) : runS gv tv cf (.par is es) ρ st = (evVs gv tv cf es ρ st).out fun xs st => ofEv (setAll is xs ρ) st := by rw [runS] <;> rfl
@[simp] theorem rs_append (i : Nat) (e : Ex) (ρ : Ev) (st : Store) : runS gv tv cf (.append i e) ρ st = match ρ[i]? with
    | some (.ol xs) => (needD (evE gv tv cf e ρ st)).out fun x st => if xs.length < lim then .nx (ρ.set i (.ol (xs ++ [x]))) st else .bad
    | _ => .bad := by rw [runS] <;> rfl
@[simp] theorem rs_extend (i : Nat) (e : Ex) (ρ : Ev) (st : Store) : runS gv tv cf (.extend i e) ρ st = match ρ[i]? with
    | some (.ol xs) => (needD (evE gv tv cf e ρ st)).out fun x st => match x with
      | .list ys => if xs.length + ys.length ≤ lim then .nx (ρ.set i (.ol (xs ++ ys))) st else .bad
      | _ => .bad
    | _ => .bad := by rw [runS] <;> rfl
@[simp] theorem rs_appendL (i : Nat) (e : Ex) (ρ : Ev) (st : Store) : runS gv tv cf (.appendL i e) ρ st = match ρ[i]? with
    | some (.v (.loc n)) => (needD (evE gv tv cf e ρ st)).out fun x st => match st[n]? with
      | some (.lst xs) => if xs.length < lim then .nx ρ (st.set n (.lst (xs ++ [x]))) else .bad
      | _ => .bad
    | _ => .bad := by rw [runS] <;> rfl
@[simp] theorem rs_pop0 (t : Tg) (i : Nat) (ρ : Ev) (st : Store) : runS gv tv cf (.pop0 t i) ρ st = match ρ[i]? with
    | some (.ol (x :: xs)) => ofEv (t.put x (ρ.set i (.ol xs))) st
    | _ => .bad := by rw [runS] <;> rfl
@[simp] theorem rs_putd (i : Nat) (k : Ex) (v : Ex) (ρ : Ev) (st : Store) : runS gv tv cf (.putd i k v) ρ st = match ρ[i]? with
    | some (.od kvs) => (needD (evE gv tv cf v ρ st)).out fun y st => (needD (evE gv tv cf k ρ st)).out fun x st =>
      if keyOk x && shallow x && decide (kvs.length < lim) then .nx (ρ.set i (.od (putK x y kvs))) st else .bad
    | _ => .bad := by rw [runS] <;> rfl
@[simp] theorem rs_puti (i : Nat) (k : Ex) (v : Ex) (ρ : Ev) (st : Store) : runS gv tv cf (.puti i k v) ρ st = match ρ[i]? with
    | some (.ol xs) => (needD (evE gv tv cf v ρ st)).out fun y st => (needD (evE gv tv cf k ρ st)).out fun x st => match x with
      | .int j => match ixZ xs.length j with
        | some m => .nx (ρ.set i (.ol (xs.set m y))) st
        | none => .bad
      | _ => .bad
    | _ => .bad := by rw [runS] <;> rfl
@[simp] theorem rs_keep (i : Nat) (ρ : Ev) (st : Store) : runS gv tv cf (.keep i) ρ st = match ρ[i]? with
    | some (.ol xs) => .nx (ρ.set i (.v (.d (.list xs)))) st
    | some (.od kvs) => .nx (ρ.set i (.v (.d (.dict kvs)))) st
    | some _ => .nx ρ st
    | none => .bad := by rw [runS] <;> rfl
@[simp] theorem rs_expr (e : Ex) (ρ : Ev) (st : Store) : runS gv tv cf (.expr e) ρ st = (evE gv tv cf e ρ st).out fun _ st => .nx ρ st := by rw [runS] <;> rfl
@[simp] theorem rs_ifs (c : Ex) (a : Sms) (b : Sms) (ρ : Ev) (st : Store) : runS gv tv cf (.ifs c a b) ρ st = (needD (evE gv tv cf c ρ st)).out fun x st => match x with
    | .bool true => runSs gv tv cf a ρ st
    | .bool false => runSs gv tv cf b ρ st
    | _ => .bad := by rw [runS] <;> rfl
theorem rs_for {t : Tg} {it : It} {b : Sms} {ρ : Ev} {st st1 : Store} {xs : List D} (h : evI gv tv cf it ρ st = .ok xs st1) : runS gv tv cf (.fors t it b) ρ st = forL t (fun ρ st => runSs gv tv cf b ρ st) xs ρ st1 := by
  rw [runS, h]
  rfl
@[simp] theorem rs_ret (e : Ex) (ρ : Ev) (st : Store) : runS gv tv cf (.ret e) ρ st = (evE gv tv cf e ρ st).out fun v st => .ret v st := by rw [runS] <;> rfl
@[simp] theorem rs_raise (c : Nat) (ρ : Ev) (st : Store) : runS gv tv cf (.raise c) ρ st = .exc c st := by rw [runS] <;> rfl
@[simp] theorem rs_brk  (ρ : Ev) (st : Store) : runS gv tv cf (.brk) ρ st = .brk ρ st := by rw [runS] <;> rfl
@[simp] theorem rs_cont  (ρ : Ev) (st : Store) : runS gv tv cf (.cont) ρ st = .cont ρ st := by rw [runS] <;> rfl
@[simp] theorem rs_pass  (ρ : Ev) (st : Store) : runS gv tv cf (.pass) ρ st = .nx ρ st := by rw [runS] <;> rfl
@[simp] theorem ss_nil (ρ : Ev) (st : Store) : runSs gv tv cf .nil ρ st = .nx ρ st := by rw [runSs] <;> rfl
@[simp] theorem ss_cons (s : Sm) (r : Sms) (ρ : Ev) (st : Store) : runSs gv tv cf (.cons s r) ρ st = (runS gv tv cf s ρ st).next fun ρ st => runSs gv tv cf r ρ st := by rw [runSs] <;> rfl
theorem call_of {Γ : Nat → Option Fn} {k : Nat} {st : Store} {f : Nat} {F : Fn} (h : Γ f = some F) (args : List Val) (hn : args.length = F.np ∧ F.np ≤ F.ns) : callN gv tv Γ (k + 1) f args st = (runSs gv tv (callN gv tv Γ k) F.body (start0 args F.ns) st).res := by
  show (match Γ f with
    | none => Rs.bad
    | some F => if args.length = F.np ∧ F.np ≤ F.ns then (runSs gv tv (callN gv tv Γ k) F.body (start0 args F.ns) st).res else .bad) = _
  rw [h]
  dsimp only
  rw [if_pos hn]
/-- one statement behind another -/
theorem seqR {s : Sm} {r : Sms} {ρ ρ' : Ev} {st st' : Store} {R : Rs Val} (h : runS gv tv cf s ρ st = .nx ρ' st') (h2 : (runSs gv tv cf r ρ' st').res = R) : (runSs gv tv cf (.cons s r) ρ st).res = R := by
  rw [ss_cons, h]
  exact h2
theorem seqE {s : Sm} {r : Sms} {ρ : Ev} {st st' : Store} {v : Val} (h : runS gv tv cf s ρ st = .ret v st') : (runSs gv tv cf (.cons s r) ρ st).res = .ok v st' := by
  rw [ss_cons, h]
  rfl
/-- a test that does not hold, with nothing else -/
theorem if_no {c : Ex} {a : Sms} {ρ : Ev} {st : Store} (h : evE gv tv cf c ρ st = .ok (.d (.bool false)) st) : runS gv tv cf (.ifs c a .nil) ρ st = .nx ρ st := by
  rw [rs_ifs, h]
  simp
theorem if_yes {c : Ex} {a b : Sms} {ρ : Ev} {st : Store} (h : evE gv tv cf c ρ st = .ok (.d (.bool true)) st) : runS gv tv cf (.ifs c a b) ρ st = runSs gv tv cf a ρ st := by
  rw [rs_ifs, h]
  simp
/-! ### items -/
theorem ixZ_nat {n i : Nat} (h : i < n) : ixZ n (i : Int) = some i := by
  unfold ixZ
  rw [if_pos (by omega), if_pos (by omega)]
  rfl
theorem ixZ_of {n : Nat} {i : Int} (h0 : 0 ≤ i) (h : i < n) : ixZ n i = some i.toNat := by
  unfold ixZ
  rw [if_pos h0, if_pos h]
theorem ixZ_neg1 {n : Nat} (h : 0 < n) : ixZ n (-1) = some (n - 1) := by
  unfold ixZ
  rw [if_neg (by omega), if_pos (by omega)]
  congr 1
  omega
theorem idx_tuple {xs : List D} {i : Nat} {x : D} (h : xs[i]? = some x) : idxD (.tuple xs) (.int i) = some x := by
  have hi := (List.getElem?_eq_some_iff.mp h).1
  simp only [idxD, ixZ_nat hi, Option.bind_some, h]
theorem idx_list {xs : List D} {i : Nat} {x : D} (h : xs[i]? = some x) : idxD (.list xs) (.int i) = some x := by
  have hi := (List.getElem?_eq_some_iff.mp h).1
  simp only [idxD, ixZ_nat hi, Option.bind_some, h]
theorem idx_tx {l : List Nat} {i : Nat} {c : Nat} (h : l[i]? = some c) (hl : l.length ≤ lim) : idxD (tx l) (.int i) = some (tx [c]) := by
  have hi := (List.getElem?_eq_some_iff.mp h).1
  simp only [idxD, tx_cps, hl, if_true, ixZ_nat hi, Option.bind_some, h]
  rfl
theorem rng0 (n : Nat) : rngD 0 (n : Int) = (List.range n).map fun (k : Nat) => PyData.int (k : Nat) := by
  unfold rngD
  rw [Int.sub_zero, Int.toNat_natCast]
  apply List.map_congr_left
  intro k _
  rw [Int.zero_add]
theorem rngOk0 {n : Nat} (h : n ≤ 1000000) : rngOk 0 (n : Int) = true := by
  unfold rngOk
  simp
  omega
theorem mul_lit (i j : Int) (h : inr64 j = true) : binD .mul (.int i) (.int j) = some (.int (i * j)) := by
  simp only [binD]
  rw [h, Bool.or_true, if_pos rfl]
theorem lit_mul (i j : Int) (h : inr64 i = true) : binD .mul (.int i) (.int j) = some (.int (i * j)) := by
  simp only [binD]
  rw [h, Bool.true_or, if_pos rfl]
theorem mod_ok (i j : Int) (h : j ≠ 0) : binD .mod (.int i) (.int j) = some (.int (i.fmod j)) := by
  simp only [binD]
  rw [if_pos h]
theorem add_ok (i j : Int) : binD .add (.int i) (.int j) = some (.int (i + j)) := rfl
theorem sub_ok (i j : Int) : binD .sub (.int i) (.int j) = some (.int (i - j)) := rfl
end Ip
namespace Ip
open PySem
/-- maps.is_whole(thing, low, most): 0 thing, 1 low, 2 most -/
def f0 : Fn := ⟨3, 3, (.cons (.ret (.and (.bi (.isa .int) (.cons (.var 0) .nil)) (.and (.not (.bi (.isa .bool) (.cons (.var 0) .nil))) (.chain .le .le (.var 1) (.var 0) (.var 2))))) .nil)⟩
/-- maps.is_map(thing): 0 thing, 1 sign, 2 row -/
def f1 : Fn := ⟨1, 3, (.cons (.ifs (.or (.not (.bi (.isa .tuple) (.cons (.var 0) .nil))) (.not (.chain .le .le (.con (.int 1)) (.bi .len (.cons (.var 0) .nil)) (.glob 0)))) (.cons (.ret (.con (.bool false))) .nil) .nil) (.cons (.ifs (.not (.bi .all (.cons (.comp [2] (.and (.bi (.isa .str) (.cons (.var 2) .nil)) (.chain .le .le (.con (.int 1)) (.bi .len (.cons (.var 2) .nil)) (.glob 0))) (.name 2) (.seq (.var 0))) .nil))) (.cons (.ret (.con (.bool false))) .nil) .nil) (.cons (.ifs (.not (.bi .all (.cons (.comp [2] (.cmp .eq (.bi .len (.cons (.var 2) .nil)) (.bi .len (.cons (.idx (.var 0) (.con (.int 0))) .nil))) (.name 2) (.seq (.var 0))) .nil))) (.cons (.ret (.con (.bool false))) .nil) .nil) (.cons (.ret (.bi .all (.cons (.comp [1] (.cmp .isin (.var 1) (.glob 1)) (.name 1) (.seq (.smt .join (.con (tx [])) (.bi .list (.cons (.var 0) .nil))))) .nil))) .nil))))⟩
/-- maps.need_map(thing): 0 thing -/
def f2 : Fn := ⟨1, 1, (.cons (.ifs (.not (.call 1 (.cons (.var 0) .nil))) (.cons (.raise 1) .nil) .nil) .nil)⟩
/-- maps.is_cell(some, thing): 0 some, 1 thing -/
def f3 : Fn := ⟨2, 2, (.cons (.ifs (.or (.not (.bi (.isa .tuple) (.cons (.var 1) .nil))) (.cmp .ne (.bi .len (.cons (.var 1) .nil)) (.con (.int 2)))) (.cons (.ret (.con (.bool false))) .nil) .nil) (.cons (.ret (.and (.call 0 (.cons (.idx (.var 1) (.con (.int 0))) (.cons (.con (.int 0)) (.cons (.bin .sub (.bi .len (.cons (.idx (.var 0) (.con (.int 0))) .nil)) (.con (.int 1))) .nil)))) (.call 0 (.cons (.idx (.var 1) (.con (.int 1))) (.cons (.con (.int 0)) (.cons (.bin .sub (.bi .len (.cons (.var 0) .nil)) (.con (.int 1))) .nil)))))) .nil))⟩
/-- maps.need_cell(some, thing): 0 some, 1 thing -/
def f4 : Fn := ⟨2, 2, (.cons (.ifs (.not (.call 3 (.cons (.var 0) (.cons (.var 1) .nil)))) (.cons (.raise 2) .nil) .nil) .nil)⟩
/-- maps.need_height(thing): 0 thing -/
def f5 : Fn := ⟨1, 1, (.cons (.ifs (.or (.not (.bi (.isa .str) (.cons (.var 0) .nil))) (.cmp .notin (.var 0) (.glob 4))) (.cons (.raise 3) .nil) .nil) .nil)⟩
/-- maps.need_far(thing): 0 thing -/
def f6 : Fn := ⟨1, 1, (.cons (.ifs (.not (.call 0 (.cons (.var 0) (.cons (.con (.int 0)) (.cons (.glob 3) .nil))))) (.cons (.raise 4) .nil) .nil) .nil)⟩
/-- maps.sign_at(some, cell): 0 some, 1 cell -/
def f7 : Fn := ⟨2, 2, (.cons (.ret (.idx (.idx (.var 0) (.idx (.var 1) (.con (.int 1)))) (.idx (.var 1) (.con (.int 0))))) .nil)⟩
/-- maps.all_cells(some): 0 some, 1 made, 2 left, 3 top -/
def f8 : Fn := ⟨1, 4, (.cons (.own 1 (.lst .nil)) (.cons (.fors (.name 2) (.rng1 (.bi .len (.cons (.idx (.var 0) (.con (.int 0))) .nil))) (.cons (.extend 1 (.comp [3] (.tup (.cons (.var 2) (.cons (.var 3) .nil))) (.name 3) (.rng1 (.bi .len (.cons (.var 0) .nil))))) .nil)) (.cons (.keep 1) (.cons (.ret (.var 1)) .nil))))⟩
/-- maps.is_floor(some, cell): 0 some, 1 cell -/
def f9 : Fn := ⟨2, 2, (.cons (.ret (.cmp .isin (.call 7 (.cons (.var 0) (.cons (.var 1) .nil))) (.glob 2))) .nil)⟩
/-- maps.need_floor(some, cell): 0 some, 1 cell -/
def f10 : Fn := ⟨2, 2, (.cons (.expr (.call 4 (.cons (.var 0) (.cons (.var 1) .nil)))) (.cons (.ifs (.not (.call 9 (.cons (.var 0) (.cons (.var 1) .nil)))) (.cons (.raise 8) .nil) .nil) .nil))⟩
/-- maps.floors(some): 0 some, 1 cell -/
def f11 : Fn := ⟨1, 2, (.cons (.ret (.compIf [1] (.var 1) (.name 1) (.seq (.call 8 (.cons (.var 0) .nil))) (.call 9 (.cons (.var 0) (.cons (.var 1) .nil))))) .nil)⟩
/-- maps.hides(some, cell, height): 0 some, 1 cell, 2 height -/
def f12 : Fn := ⟨3, 3, (.cons (.ret (.or (.cmp .isin (.call 7 (.cons (.var 0) (.cons (.var 1) .nil))) (.con (tx [35, 43]))) (.and (.cmp .eq (.call 7 (.cons (.var 0) (.cons (.var 1) .nil))) (.con (tx [61]))) (.cmp .eq (.var 2) (.con (tx [108, 111, 119])))))) .nil)⟩
/-- maps.steps_between(one, other): 0 one, 1 other -/
def f13 : Fn := ⟨2, 2, (.cons (.ret (.bi .max2 (.cons (.bi .abs (.cons (.bin .sub (.idx (.var 0) (.con (.int 0))) (.idx (.var 1) (.con (.int 0)))) .nil)) (.cons (.bi .abs (.cons (.bin .sub (.idx (.var 0) (.con (.int 1))) (.idx (.var 1) (.con (.int 1)))) .nil)) .nil)))) .nil)⟩
/-- maps.with_sign(some, cell, sign): 0 some, 1 cell, 2 sign, 3 row -/
def f14 : Fn := ⟨3, 4, (.cons (.set 3 (.idx (.var 0) (.idx (.var 1) (.con (.int 1))))) (.cons (.set 3 (.bin .add (.bin .add (.shi (.var 3) (.idx (.var 1) (.con (.int 0)))) (.var 2)) (.slo (.var 3) (.bin .add (.idx (.var 1) (.con (.int 0))) (.con (.int 1)))))) (.cons (.ret (.bin .add (.bin .add (.shi (.var 0) (.idx (.var 1) (.con (.int 1)))) (.tup (.cons (.var 3) .nil))) (.slo (.var 0) (.bin .add (.idx (.var 1) (.con (.int 1))) (.con (.int 1)))))) .nil)))⟩
/-- lines.span(begin, step, low, high): 0 begin, 1 step, 2 low, 3 high, 4 first, 5 last -/
def f15 : Fn := ⟨4, 6, (.cons (.ifs (.cmp .eq (.var 1) (.con (.int 0))) (.cons (.ret (.ite (.chain .lt .lt (.var 2) (.var 0) (.var 3)) (.tup (.cons (.tup (.cons (.con (.int 0)) (.cons (.con (.int 1)) .nil))) (.cons (.tup (.cons (.con (.int 1)) (.cons (.con (.int 1)) .nil))) .nil))) (.con .none))) .nil) .nil) (.cons (.par [4, 5] (.cons (.tup (.cons (.bin .sub (.var 2) (.var 0)) (.cons (.var 1) .nil))) (.cons (.tup (.cons (.bin .sub (.var 3) (.var 0)) (.cons (.var 1) .nil))) .nil))) (.cons (.ifs (.cmp .lt (.var 1) (.con (.int 0))) (.cons (.par [4, 5] (.cons (.tup (.cons (.bin .sub (.var 0) (.var 3)) (.cons (.bin .sub (.con (.int 0)) (.var 1)) .nil))) (.cons (.tup (.cons (.bin .sub (.var 0) (.var 2)) (.cons (.bin .sub (.con (.int 0)) (.var 1)) .nil))) .nil))) .nil) .nil) (.cons (.ret (.tup (.cons (.var 4) (.cons (.var 5) .nil)))) .nil))))⟩
/-- lines.is_less(one, other): 0 one, 1 other -/
def f16 : Fn := ⟨2, 2, (.cons (.ret (.cmp .lt (.bin .mul (.idx (.var 0) (.con (.int 0))) (.idx (.var 1) (.con (.int 1)))) (.bin .mul (.idx (.var 1) (.con (.int 0))) (.idx (.var 0) (.con (.int 1)))))) .nil)⟩
/-- lines.later(one, other): 0 one, 1 other -/
def f17 : Fn := ⟨2, 2, (.cons (.ret (.ite (.call 16 (.cons (.var 0) (.cons (.var 1) .nil))) (.var 1) (.var 0))) .nil)⟩
/-- lines.sooner(one, other): 0 one, 1 other -/
def f18 : Fn := ⟨2, 2, (.cons (.ret (.ite (.call 16 (.cons (.var 0) (.cons (.var 1) .nil))) (.var 0) (.var 1))) .nil)⟩
/-- lines.entered(one, other, cell): 0 one, 1 other, 2 cell, 3 first, 4 last, 5 axis, 6 begin, 7 found -/
def f19 : Fn := ⟨3, 8, (.cons (.asg (.tup (.cons (.name 3) (.cons (.name 4) .nil))) (.tup (.cons (.tup (.cons (.con (.int 0)) (.cons (.con (.int 1)) .nil))) (.cons (.tup (.cons (.con (.int 1)) (.cons (.con (.int 1)) .nil))) .nil)))) (.cons (.fors (.name 5) (.rng1 (.con (.int 2))) (.cons (.set 6 (.bin .add (.bin .mul (.con (.int 2)) (.idx (.var 0) (.var 5))) (.con (.int 1)))) (.cons (.set 7 (.call 15 (.cons (.var 6) (.cons (.bin .mul (.con (.int 2)) (.bin .sub (.idx (.var 1) (.var 5)) (.idx (.var 0) (.var 5)))) (.cons (.bin .mul (.con (.int 2)) (.idx (.var 2) (.var 5))) (.cons (.bin .add (.bin .mul (.con (.int 2)) (.idx (.var 2) (.var 5))) (.con (.int 2))) .nil)))))) (.cons (.ifs (.isn false (.var 7)) (.cons (.ret (.con .none)) .nil) .nil) (.cons (.par [3, 4] (.cons (.call 17 (.cons (.var 3) (.cons (.idx (.var 7) (.con (.int 0))) .nil))) (.cons (.call 18 (.cons (.var 4) (.cons (.idx (.var 7) (.con (.int 1))) .nil))) .nil))) .nil))))) (.cons (.ret (.ite (.call 16 (.cons (.var 3) (.cons (.var 4) .nil))) (.var 3) (.con .none))) .nil)))⟩
/-- lines.cells_between(one, other): 0 one, 1 other, 2 rows, 3 left, 4 top, 5 share, 6 far, 7 cell -/
def f20 : Fn := ⟨2, 8, (.cons (.ifs (.cmp .eq (.var 0) (.var 1)) (.cons (.ret (.lst (.cons (.var 0) .nil))) .nil) .nil) (.cons (.own 2 (.lst .nil)) (.cons (.fors (.name 3) (.rng2 (.bi .min2 (.cons (.idx (.var 0) (.con (.int 0))) (.cons (.idx (.var 1) (.con (.int 0))) .nil))) (.bin .add (.bi .max2 (.cons (.idx (.var 0) (.con (.int 0))) (.cons (.idx (.var 1) (.con (.int 0))) .nil))) (.con (.int 1)))) (.cons (.fors (.name 4) (.rng2 (.bi .min2 (.cons (.idx (.var 0) (.con (.int 1))) (.cons (.idx (.var 1) (.con (.int 1))) .nil))) (.bin .add (.bi .max2 (.cons (.idx (.var 0) (.con (.int 1))) (.cons (.idx (.var 1) (.con (.int 1))) .nil))) (.con (.int 1)))) (.cons (.set 5 (.call 19 (.cons (.var 0) (.cons (.var 1) (.cons (.tup (.cons (.var 3) (.cons (.var 4) .nil))) .nil))))) (.cons (.ifs (.isn true (.var 5)) (.cons (.append 2 (.tup (.cons (.bin .add (.bi .abs (.cons (.bin .sub (.var 3) (.idx (.var 0) (.con (.int 0)))) .nil)) (.bi .abs (.cons (.bin .sub (.var 4) (.idx (.var 0) (.con (.int 1)))) .nil))) (.cons (.tup (.cons (.var 3) (.cons (.var 4) .nil))) .nil)))) .nil) .nil) .nil))) .nil)) (.cons (.ret (.comp [6, 7] (.var 7) (.tup (.cons (.name 6) (.cons (.name 7) .nil))) (.seq (.bi .sorted (.cons (.tv 2) .nil))))) .nil))))⟩
/-- lines.corners_between(one, other): 0 one, 1 other, 2 across, 3 down, 4 made, 5 turn, 6 left, 7 up, 8 top -/
def f21 : Fn := ⟨2, 9, (.cons (.par [2, 3] (.cons (.bin .sub (.idx (.var 1) (.con (.int 0))) (.idx (.var 0) (.con (.int 0)))) (.cons (.bin .sub (.idx (.var 1) (.con (.int 1))) (.idx (.var 0) (.con (.int 1)))) .nil))) (.cons (.own 4 (.lst .nil)) (.cons (.fors (.name 5) (.rng2 (.con (.int 1)) (.bin .add (.bi .abs (.cons (.var 2) .nil)) (.con (.int 1)))) (.cons (.set 6 (.bin .add (.bin .add (.bin .mul (.con (.int 2)) (.idx (.var 0) (.con (.int 0)))) (.con (.int 1))) (.bin .mul (.bin .sub (.bin .mul (.con (.int 2)) (.var 5)) (.con (.int 1))) (.ite (.cmp .gt (.var 2) (.con (.int 0))) (.con (.int 1)) (.neg (.con (.int 1))))))) (.cons (.set 7 (.bin .mul (.bin .sub (.bin .sub (.var 6) (.bin .mul (.con (.int 2)) (.idx (.var 0) (.con (.int 0))))) (.con (.int 1))) (.var 3))) (.cons (.ifs (.and (.cmp .ne (.var 2) (.con (.int 0))) (.cmp .eq (.bin .mod (.var 7) (.var 2)) (.con (.int 0)))) (.cons (.set 8 (.bin .add (.bin .add (.bin .mul (.con (.int 2)) (.idx (.var 0) (.con (.int 1)))) (.con (.int 1))) (.bin .fdiv (.var 7) (.var 2)))) (.cons (.ifs (.and (.cmp .eq (.bin .mod (.var 8) (.con (.int 2))) (.con (.int 0))) (.cmp .ne (.var 3) (.con (.int 0)))) (.cons (.append 4 (.call 22 (.cons (.bin .fdiv (.var 6) (.con (.int 2))) (.cons (.bin .fdiv (.var 8) (.con (.int 2))) (.cons (.var 2) (.cons (.var 3) .nil)))))) .nil) .nil) .nil)) .nil) .nil)))) (.cons (.keep 4) (.cons (.ret (.var 4)) .nil)))))⟩
/-- lines.touched(left, top, across, down): 0 left, 1 top, 2 across, 3 down -/
def f22 : Fn := ⟨4, 4, (.cons (.ifs (.cmp .eq (.cmp .gt (.var 2) (.con (.int 0))) (.cmp .gt (.var 3) (.con (.int 0)))) (.cons (.ret (.tup (.cons (.tup (.cons (.bin .sub (.var 0) (.con (.int 1))) (.cons (.var 1) .nil))) (.cons (.tup (.cons (.var 0) (.cons (.bin .sub (.var 1) (.con (.int 1))) .nil))) .nil)))) .nil) .nil) (.cons (.ret (.tup (.cons (.tup (.cons (.bin .sub (.var 0) (.con (.int 1))) (.cons (.bin .sub (.var 1) (.con (.int 1))) .nil))) (.cons (.tup (.cons (.var 0) (.cons (.var 1) .nil))) .nil)))) .nil))⟩
/-- seeing.bars_of(some, one, other, height): 0 some, 1 one, 2 other, 3 height, 4 made, 5 cell, 6 pair, 7 far, 8 bar -/
def f23 : Fn := ⟨4, 9, (.cons (.own 4 (.lst .nil)) (.cons (.fors (.name 5) (.seq (.call 20 (.cons (.var 1) (.cons (.var 2) .nil)))) (.cons (.ifs (.and (.cmp .notin (.var 5) (.tup (.cons (.var 1) (.cons (.var 2) .nil)))) (.call 12 (.cons (.var 0) (.cons (.var 5) (.cons (.var 3) .nil))))) (.cons (.append 4 (.tup (.cons (.bin .add (.bi .abs (.cons (.bin .sub (.idx (.var 5) (.con (.int 0))) (.idx (.var 1) (.con (.int 0)))) .nil)) (.bi .abs (.cons (.bin .sub (.idx (.var 5) (.con (.int 1))) (.idx (.var 1) (.con (.int 1)))) .nil))) (.cons (.tup (.cons (.var 5) .nil)) .nil)))) .nil) .nil) .nil)) (.cons (.fors (.name 6) (.seq (.call 21 (.cons (.var 1) (.cons (.var 2) .nil)))) (.cons (.ifs (.and (.call 12 (.cons (.var 0) (.cons (.idx (.var 6) (.con (.int 0))) (.cons (.var 3) .nil)))) (.call 12 (.cons (.var 0) (.cons (.idx (.var 6) (.con (.int 1))) (.cons (.var 3) .nil))))) (.cons (.append 4 (.tup (.cons (.bin .add (.bi .abs (.cons (.bin .sub (.idx (.idx (.var 6) (.con (.int 0))) (.con (.int 0))) (.idx (.var 1) (.con (.int 0)))) .nil)) (.bi .abs (.cons (.bin .sub (.idx (.idx (.var 6) (.con (.int 0))) (.con (.int 1))) (.idx (.var 1) (.con (.int 1)))) .nil))) (.cons (.var 6) .nil)))) .nil) .nil) .nil)) (.cons (.ret (.comp [7, 8] (.var 8) (.tup (.cons (.name 7) (.cons (.name 8) .nil))) (.seq (.bi .sorted (.cons (.tv 4) .nil))))) .nil))))⟩
/-- seeing.is_seen(some, one, other, height): 0 some, 1 one, 2 other, 3 height -/
def f24 : Fn := ⟨4, 4, (.cons (.ret (.cmp .eq (.call 23 (.cons (.var 0) (.cons (.var 1) (.cons (.var 2) (.cons (.var 3) .nil))))) (.lst .nil))) .nil)⟩
/-- seeing.need_two(some, one, other, height): 0 some, 1 one, 2 other, 3 height -/
def f25 : Fn := ⟨4, 4, (.cons (.expr (.call 2 (.cons (.var 0) .nil))) (.cons (.expr (.call 4 (.cons (.var 0) (.cons (.var 1) .nil)))) (.cons (.expr (.call 4 (.cons (.var 0) (.cons (.var 2) .nil)))) (.cons (.expr (.call 5 (.cons (.var 3) .nil))) .nil))))⟩
/-- seeing.sees(some, one, other, height): 0 some, 1 one, 2 other, 3 height -/
def f26 : Fn := ⟨4, 4, (.cons (.expr (.call 25 (.cons (.var 0) (.cons (.var 1) (.cons (.var 2) (.cons (.var 3) .nil)))))) (.cons (.ret (.call 24 (.cons (.var 0) (.cons (.var 1) (.cons (.var 2) (.cons (.var 3) .nil)))))) .nil))⟩
/-- seeing.between(some, one, other): 0 some, 1 one, 2 other -/
def f27 : Fn := ⟨3, 3, (.cons (.expr (.call 2 (.cons (.var 0) .nil))) (.cons (.expr (.call 4 (.cons (.var 0) (.cons (.var 1) .nil)))) (.cons (.expr (.call 4 (.cons (.var 0) (.cons (.var 2) .nil)))) (.cons (.ret (.call 20 (.cons (.var 1) (.cons (.var 2) .nil)))) .nil))))⟩
/-- seeing.bar(some, one, other, height): 0 some, 1 one, 2 other, 3 height -/
def f28 : Fn := ⟨4, 4, (.cons (.expr (.call 25 (.cons (.var 0) (.cons (.var 1) (.cons (.var 2) (.cons (.var 3) .nil)))))) (.cons (.ret (.idx (.bin .add (.call 23 (.cons (.var 0) (.cons (.var 1) (.cons (.var 2) (.cons (.var 3) .nil))))) (.lst (.cons (.con .none) .nil))) (.con (.int 0)))) .nil))⟩
/-- seeing.is_bar(some, one, other, height, thing): 0 some, 1 one, 2 other, 3 height, 4 thing, 5 cell -/
def f29 : Fn := ⟨5, 6, (.cons (.expr (.call 25 (.cons (.var 0) (.cons (.var 1) (.cons (.var 2) (.cons (.var 3) .nil)))))) (.cons (.ifs (.or (.not (.bi (.isa .tuple) (.cons (.var 4) .nil))) (.or (.not (.chain .le .le (.con (.int 1)) (.bi .len (.cons (.var 4) .nil)) (.con (.int 2)))) (.not (.bi .all (.cons (.comp [5] (.call 3 (.cons (.var 0) (.cons (.var 5) .nil))) (.name 5) (.seq (.var 4))) .nil))))) (.cons (.ret (.con (.bool false))) .nil) .nil) (.cons (.ret (.cmp .isin (.var 4) (.call 23 (.cons (.var 0) (.cons (.var 1) (.cons (.var 2) (.cons (.var 3) .nil))))))) .nil)))⟩
/-- seeing.seen_of(some, one, height, far): 0 some, 1 one, 2 height, 3 far, 4 made, 5 cell -/
def f30 : Fn := ⟨4, 6, (.cons (.own 4 (.lst .nil)) (.cons (.fors (.name 5) (.seq (.call 8 (.cons (.var 0) .nil))) (.cons (.ifs (.and (.cmp .le (.call 13 (.cons (.var 1) (.cons (.var 5) .nil))) (.var 3)) (.call 24 (.cons (.var 0) (.cons (.var 1) (.cons (.var 5) (.cons (.var 2) .nil)))))) (.cons (.append 4 (.var 5)) .nil) .nil) .nil)) (.cons (.keep 4) (.cons (.ret (.var 4)) .nil))))⟩
/-- seeing.seen(some, one, height, far): 0 some, 1 one, 2 height, 3 far -/
def f31 : Fn := ⟨4, 4, (.cons (.expr (.call 2 (.cons (.var 0) .nil))) (.cons (.expr (.call 4 (.cons (.var 0) (.cons (.var 1) .nil)))) (.cons (.expr (.call 5 (.cons (.var 2) .nil))) (.cons (.expr (.call 6 (.cons (.var 3) .nil))) (.cons (.ret (.call 30 (.cons (.var 0) (.cons (.var 1) (.cons (.var 2) (.cons (.var 3) .nil)))))) .nil)))))⟩
/-- lights.are_lamps(some, thing): 0 some, 1 thing, 2 lamp -/
def f32 : Fn := ⟨2, 3, (.cons (.ifs (.or (.not (.bi (.isa .tuple) (.cons (.var 1) .nil))) (.cmp .gt (.bi .len (.cons (.var 1) .nil)) (.glob 7))) (.cons (.ret (.con (.bool false))) .nil) .nil) (.cons (.fors (.name 2) (.seq (.var 1)) (.cons (.ifs (.or (.not (.bi (.isa .tuple) (.cons (.var 2) .nil))) (.or (.cmp .ne (.bi .len (.cons (.var 2) .nil)) (.con (.int 2))) (.not (.call 3 (.cons (.var 0) (.cons (.idx (.var 2) (.con (.int 0))) .nil)))))) (.cons (.ret (.con (.bool false))) .nil) .nil) (.cons (.ifs (.not (.call 0 (.cons (.idx (.var 2) (.con (.int 1))) (.cons (.con (.int 1)) (.cons (.glob 8) .nil))))) (.cons (.ret (.con (.bool false))) .nil) .nil) .nil))) (.cons (.ret (.con (.bool true))) .nil)))⟩
/-- lights.need_lamps(some, thing): 0 some, 1 thing -/
def f33 : Fn := ⟨2, 2, (.cons (.expr (.call 2 (.cons (.var 0) .nil))) (.cons (.ifs (.not (.call 32 (.cons (.var 0) (.cons (.var 1) .nil)))) (.cons (.raise 5) .nil) .nil) .nil))⟩
/-- lights.light_at(some, lamps, cell): 0 some, 1 lamps, 2 cell, 3 total, 4 place, 5 strong -/
def f34 : Fn := ⟨3, 6, (.cons (.set 3 (.con (.int 0))) (.cons (.fors (.tup (.cons (.name 4) (.cons (.name 5) .nil))) (.seq (.var 1)) (.cons (.ifs (.call 24 (.cons (.var 0) (.cons (.var 4) (.cons (.var 2) (.cons (.con (tx [104, 105, 103, 104])) .nil))))) (.cons (.set 3 (.bin .add (.var 3) (.bi .max2 (.cons (.con (.int 0)) (.cons (.bin .sub (.var 5) (.call 13 (.cons (.var 4) (.cons (.var 2) .nil)))) .nil))))) .nil) .nil) .nil)) (.cons (.ret (.var 3)) .nil)))⟩
/-- lights.light(some, lamps): 0 some, 1 lamps, 2 made, 3 top, 4 left -/
def f35 : Fn := ⟨2, 5, (.cons (.expr (.call 33 (.cons (.var 0) (.cons (.var 1) .nil)))) (.cons (.own 2 (.lst .nil)) (.cons (.fors (.name 3) (.rng1 (.bi .len (.cons (.var 0) .nil))) (.cons (.append 2 (.comp [4] (.call 34 (.cons (.var 0) (.cons (.var 1) (.cons (.tup (.cons (.var 4) (.cons (.var 3) .nil))) .nil)))) (.name 4) (.rng1 (.bi .len (.cons (.idx (.var 0) (.con (.int 0))) .nil))))) .nil)) (.cons (.keep 2) (.cons (.ret (.var 2)) .nil)))))⟩
/-- lights.lit(some, lamps, one, height, least): 0 some, 1 lamps, 2 one, 3 height, 4 least, 5 cell -/
def f36 : Fn := ⟨5, 6, (.cons (.expr (.call 33 (.cons (.var 0) (.cons (.var 1) .nil)))) (.cons (.expr (.call 4 (.cons (.var 0) (.cons (.var 2) .nil)))) (.cons (.expr (.call 5 (.cons (.var 3) .nil))) (.cons (.expr (.call 6 (.cons (.var 4) .nil))) (.cons (.ret (.compIf [5] (.var 5) (.name 5) (.seq (.call 30 (.cons (.var 0) (.cons (.var 2) (.cons (.var 3) (.cons (.con (.int 99)) .nil)))))) (.cmp .ge (.call 34 (.cons (.var 0) (.cons (.var 1) (.cons (.var 5) .nil)))) (.var 4)))) .nil)))))⟩
/-- lookers.is_looker(some, thing): 0 some, 1 thing, 2 side -/
def f37 : Fn := ⟨2, 3, (.cons (.ifs (.or (.not (.bi (.isa .tuple) (.cons (.var 1) .nil))) (.or (.cmp .ne (.bi .len (.cons (.var 1) .nil)) (.con (.int 3))) (.not (.call 3 (.cons (.var 0) (.cons (.idx (.var 1) (.con (.int 0))) .nil)))))) (.cons (.ret (.con (.bool false))) .nil) .nil) (.cons (.ifs (.or (.not (.bi (.isa .str) (.cons (.idx (.var 1) (.con (.int 1))) .nil))) (.or (.not (.chain .le .le (.con (.int 1)) (.bi .len (.cons (.idx (.var 1) (.con (.int 1))) .nil)) (.con (.int 4)))) (.not (.bi .all (.cons (.comp [2] (.cmp .isin (.var 2) (.glob 5)) (.name 2) (.seq (.idx (.var 1) (.con (.int 1))))) .nil))))) (.cons (.ret (.con (.bool false))) .nil) .nil) (.cons (.ret (.call 0 (.cons (.idx (.var 1) (.con (.int 2))) (.cons (.con (.int 1)) (.cons (.con (.int 8)) .nil))))) .nil)))⟩
/-- lookers.need_lookers(some, thing): 0 some, 1 thing, 2 one -/
def f38 : Fn := ⟨2, 3, (.cons (.expr (.call 2 (.cons (.var 0) .nil))) (.cons (.ifs (.or (.not (.bi (.isa .tuple) (.cons (.var 1) .nil))) (.or (.cmp .gt (.bi .len (.cons (.var 1) .nil)) (.glob 9)) (.not (.bi .all (.cons (.comp [2] (.call 37 (.cons (.var 0) (.cons (.var 2) .nil))) (.name 2) (.seq (.var 1))) .nil))))) (.cons (.raise 6) .nil) .nil) .nil))⟩
/-- lookers.is_ahead(place, side, cell): 0 place, 1 side, 2 cell, 3 across, 4 down, 5 step, 6 ahead, 7 beside -/
def f39 : Fn := ⟨3, 8, (.cons (.par [3, 4] (.cons (.bin .sub (.idx (.var 2) (.con (.int 0))) (.idx (.var 0) (.con (.int 0)))) (.cons (.bin .sub (.idx (.var 2) (.con (.int 1))) (.idx (.var 0) (.con (.int 1)))) .nil))) (.cons (.set 5 (.tab 0 (.var 1))) (.cons (.set 6 (.bin .add (.bin .mul (.var 3) (.idx (.var 5) (.con (.int 0)))) (.bin .mul (.var 4) (.idx (.var 5) (.con (.int 1)))))) (.cons (.set 7 (.bin .add (.bi .abs (.cons (.bin .mul (.var 3) (.idx (.var 5) (.con (.int 1)))) .nil)) (.bi .abs (.cons (.bin .mul (.var 4) (.idx (.var 5) (.con (.int 0)))) .nil)))) (.cons (.ret (.and (.cmp .gt (.var 6) (.con (.int 0))) (.cmp .le (.var 7) (.var 6)))) .nil)))))⟩
/-- lookers.looks_at(some, looker, moment, cell, height): 0 some, 1 looker, 2 moment, 3 cell, 4 height, 5 place, 6 sides, 7 far -/
def f40 : Fn := ⟨5, 8, (.cons (.asg (.tup (.cons (.name 5) (.cons (.name 6) (.cons (.name 7) .nil)))) (.var 1)) (.cons (.ifs (.cmp .eq (.var 3) (.var 5)) (.cons (.ret (.con (.bool true))) .nil) .nil) (.cons (.ifs (.or (.cmp .gt (.call 13 (.cons (.var 5) (.cons (.var 3) .nil))) (.var 7)) (.not (.call 39 (.cons (.var 5) (.cons (.idx (.var 6) (.bin .mod (.var 2) (.bi .len (.cons (.var 6) .nil)))) (.cons (.var 3) .nil)))))) (.cons (.ret (.con (.bool false))) .nil) .nil) (.cons (.ret (.call 24 (.cons (.var 0) (.cons (.var 5) (.cons (.var 3) (.cons (.var 4) .nil)))))) .nil))))⟩
/-- lookers.is_watched(some, lookers, moment, cell, height): 0 some, 1 lookers, 2 moment, 3 cell, 4 height, 5 looker -/
def f41 : Fn := ⟨5, 6, (.cons (.ret (.bi .any (.cons (.comp [5] (.call 40 (.cons (.var 0) (.cons (.var 5) (.cons (.var 2) (.cons (.var 3) (.cons (.var 4) .nil)))))) (.name 5) (.seq (.var 1))) .nil))) .nil)⟩
/-- lookers.watched(some, lookers, moment, height): 0 some, 1 lookers, 2 moment, 3 height, 4 cell -/
def f42 : Fn := ⟨4, 5, (.cons (.expr (.call 38 (.cons (.var 0) (.cons (.var 1) .nil)))) (.cons (.ifs (.not (.call 0 (.cons (.var 2) (.cons (.con (.int 0)) (.cons (.glob 10) .nil))))) (.cons (.raise 4) .nil) .nil) (.cons (.expr (.call 5 (.cons (.var 3) .nil))) (.cons (.ret (.compIf [4] (.var 4) (.name 4) (.seq (.call 8 (.cons (.var 0) .nil))) (.call 41 (.cons (.var 0) (.cons (.var 1) (.cons (.var 2) (.cons (.var 4) (.cons (.var 3) .nil)))))))) .nil))))⟩
/-- lookers.turn_of(lookers): 0 lookers, 1 place, 2 sides, 3 far -/
def f43 : Fn := ⟨1, 4, (.cons (.ifs (.bi .any (.cons (.comp [1, 2, 3] (.cmp .eq (.bi .len (.cons (.var 2) .nil)) (.con (.int 3))) (.tup (.cons (.name 1) (.cons (.name 2) (.cons (.name 3) .nil)))) (.seq (.var 0))) .nil)) (.cons (.ret (.con (.int 12))) .nil) .nil) (.cons (.ret (.con (.int 4))) .nil))⟩
/-- ways.next_cell(some, cell, move): 0 some, 1 cell, 2 move, 3 step, 4 goal -/
def f44 : Fn := ⟨3, 5, (.cons (.ifs (.cmp .eq (.var 2) (.con (tx [46]))) (.cons (.ret (.var 1)) .nil) .nil) (.cons (.set 3 (.tab 0 (.var 2))) (.cons (.set 4 (.tup (.cons (.bin .add (.idx (.var 1) (.con (.int 0))) (.idx (.var 3) (.con (.int 0)))) (.cons (.bin .add (.idx (.var 1) (.con (.int 1))) (.idx (.var 3) (.con (.int 1)))) .nil)))) (.cons (.ifs (.or (.not (.call 3 (.cons (.var 0) (.cons (.var 4) .nil)))) (.not (.call 9 (.cons (.var 0) (.cons (.var 4) .nil))))) (.cons (.ret (.con .none)) .nil) .nil) (.cons (.ret (.var 4)) .nil)))))⟩
/-- ways.tables(some, lookers, height): 0 some, 1 lookers, 2 height, 3 seen_by, 4 made, 5 moment, 6 row, 7 place, 8 sides, 9 far, 10 cells, 11 cell -/
def f45 : Fn := ⟨3, 12, (.cons (.set 3 (.comp [7, 8, 9] (.call 30 (.cons (.var 0) (.cons (.var 7) (.cons (.var 2) (.cons (.var 9) .nil))))) (.tup (.cons (.name 7) (.cons (.name 8) (.cons (.name 9) .nil)))) (.seq (.var 1)))) (.cons (.own 4 (.lst .nil)) (.cons (.fors (.name 5) (.rng1 (.call 43 (.cons (.var 1) .nil))) (.cons (.newd 6) (.cons (.fors (.tup (.cons (.tup (.cons (.name 7) (.cons (.name 8) (.cons (.name 9) .nil)))) (.cons (.name 10) .nil))) (.zip (.var 1) (.var 3)) (.cons (.fors (.name 11) (.seq (.var 10)) (.cons (.ifs (.or (.cmp .eq (.var 11) (.var 7)) (.call 39 (.cons (.var 7) (.cons (.idx (.var 8) (.bin .mod (.var 5) (.bi .len (.cons (.var 8) .nil)))) (.cons (.var 11) .nil))))) (.cons (.putd 6 (.var 11) (.con (.bool true))) .nil) .nil) .nil)) .nil)) (.cons (.keep 6) (.cons (.append 4 (.var 6)) .nil))))) (.cons (.keep 4) (.cons (.ret (.var 4)) .nil)))))⟩
/-- ways.need_all(some, begin, goal, lookers, height): 0 some, 1 begin, 2 goal, 3 lookers, 4 height -/
def f46 : Fn := ⟨5, 5, (.cons (.expr (.call 38 (.cons (.var 0) (.cons (.var 3) .nil)))) (.cons (.expr (.call 10 (.cons (.var 0) (.cons (.var 1) .nil)))) (.cons (.expr (.call 10 (.cons (.var 0) (.cons (.var 2) .nil)))) (.cons (.expr (.call 5 (.cons (.var 4) .nil))) .nil))))⟩
/-- ways.fewest_seen(some, begin, goal, lookers, height): 0 some, 1 begin, 2 goal, 3 lookers, 4 height, 5 seen_at, 6 turn, 7 row, 8 known, 9 many, 10 moves, 11 way, 12 cell, 13 move, 14 later, 15 here -/
def f47 : Fn := ⟨5, 16, (.cons (.expr (.call 46 (.cons (.var 0) (.cons (.var 1) (.cons (.var 2) (.cons (.var 3) (.cons (.var 4) .nil))))))) (.cons (.set 5 (.call 45 (.cons (.var 0) (.cons (.var 3) (.cons (.var 4) .nil))))) (.cons (.set 6 (.bi .len (.cons (.var 5) .nil))) (.cons (.own 7 (.lst (.cons (.tup (.cons (.bi .int (.cons (.cmp .isin (.var 1) (.idx (.var 5) (.con (.int 0)))) .nil)) (.cons (.con (.int 0)) (.cons (.con (tx [])) (.cons (.var 1) .nil))))) .nil))) (.cons (.newd 8) (.cons (.whiles (.cmp .ne (.tv 7) (.lst .nil)) (.cons (.pop0 (.tup (.cons (.name 9) (.cons (.name 10) (.cons (.name 11) (.cons (.name 12) .nil))))) 7) (.cons (.ifs (.cmp .eq (.var 12) (.var 2)) (.cons (.ret (.tup (.cons (.var 9) (.cons (.var 11) .nil)))) .nil) .nil) (.cons (.ifs (.cmp .isin (.tup (.cons (.var 12) (.cons (.bin .mod (.var 10) (.var 6)) .nil))) (.tv 8)) (.cons .cont .nil) .nil) (.cons (.putd 8 (.tup (.cons (.var 12) (.cons (.bin .mod (.var 10) (.var 6)) .nil))) (.con (.bool true))) (.cons (.fors (.name 13) (.seq (.glob 11)) (.cons (.set 14 (.call 44 (.cons (.var 0) (.cons (.var 12) (.cons (.var 13) .nil))))) (.cons (.ifs (.and (.isn true (.var 14)) (.cmp .notin (.tup (.cons (.var 14) (.cons (.bin .mod (.bin .add (.var 10) (.con (.int 1))) (.var 6)) .nil))) (.tv 8))) (.cons (.set 15 (.bi .int (.cons (.cmp .isin (.var 14) (.idx (.var 5) (.bin .mod (.bin .add (.var 10) (.con (.int 1))) (.var 6)))) .nil))) (.cons (.append 7 (.tup (.cons (.bin .add (.var 9) (.var 15)) (.cons (.bin .add (.var 10) (.con (.int 1))) (.cons (.bin .add (.var 11) (.var 13)) (.cons (.var 14) .nil)))))) .nil)) .nil) .nil))) (.cons (.own 7 (.bi .sorted (.cons (.tv 7) .nil))) .nil))))))) (.cons (.ret (.con .none)) .nil)))))))⟩
/-- ways.hidden_way(some, begin, goal, lookers, height): 0 some, 1 begin, 2 goal, 3 lookers, 4 height, 5 seen_at, 6 turn, 7 row, 8 known, 9 cell, 10 way, 11 move, 12 later, 13 key -/
def f48 : Fn := ⟨5, 14, (.cons (.expr (.call 46 (.cons (.var 0) (.cons (.var 1) (.cons (.var 2) (.cons (.var 3) (.cons (.var 4) .nil))))))) (.cons (.set 5 (.call 45 (.cons (.var 0) (.cons (.var 3) (.cons (.var 4) .nil))))) (.cons (.set 6 (.bi .len (.cons (.var 5) .nil))) (.cons (.ifs (.cmp .isin (.var 1) (.idx (.var 5) (.con (.int 0)))) (.cons (.ret (.con .none)) .nil) .nil) (.cons (.own 7 (.lst (.cons (.tup (.cons (.var 1) (.cons (.con (tx [])) .nil))) .nil))) (.cons (.newd1 8 (.tup (.cons (.var 1) (.cons (.con (.int 0)) .nil))) (.con (.bool true))) (.cons (.whiles (.cmp .ne (.tv 7) (.lst .nil)) (.cons (.pop0 (.tup (.cons (.name 9) (.cons (.name 10) .nil))) 7) (.cons (.ifs (.cmp .eq (.var 9) (.var 2)) (.cons (.ret (.var 10)) .nil) .nil) (.cons (.fors (.name 11) (.seq (.bi .sorted (.cons (.bi .list (.cons (.glob 11) .nil)) .nil))) (.cons (.set 12 (.call 44 (.cons (.var 0) (.cons (.var 9) (.cons (.var 11) .nil))))) (.cons (.set 13 (.tup (.cons (.var 12) (.cons (.bin .mod (.bin .add (.bi .len (.cons (.var 10) .nil)) (.con (.int 1))) (.var 6)) .nil)))) (.cons (.ifs (.and (.isn true (.var 12)) (.and (.cmp .notin (.var 13) (.tv 8)) (.cmp .notin (.var 12) (.idx (.var 5) (.bin .mod (.bin .add (.bi .len (.cons (.var 10) .nil)) (.con (.int 1))) (.var 6)))))) (.cons (.putd 8 (.var 13) (.con (.bool true))) (.cons (.append 7 (.tup (.cons (.var 12) (.cons (.bin .add (.var 10) (.var 11)) .nil)))) .nil)) .nil) .nil)))) .nil)))) (.cons (.ret (.con .none)) .nil))))))))⟩
/-- ways.moments_seen(some, begin, way, lookers, height): 0 some, 1 begin, 2 way, 3 lookers, 4 height, 5 cell, 6 many, 7 moment, 8 move -/
def f49 : Fn := ⟨5, 9, (.cons (.expr (.call 38 (.cons (.var 0) (.cons (.var 3) .nil)))) (.cons (.expr (.call 10 (.cons (.var 0) (.cons (.var 1) .nil)))) (.cons (.expr (.call 5 (.cons (.var 4) .nil))) (.cons (.ifs (.or (.not (.bi (.isa .str) (.cons (.var 2) .nil))) (.or (.cmp .gt (.bi .len (.cons (.var 2) .nil)) (.con (.int 200))) (.not (.bi .all (.cons (.comp [8] (.cmp .isin (.var 8) (.glob 11)) (.name 8) (.seq (.var 2))) .nil))))) (.cons (.ret (.con .none)) .nil) .nil) (.cons (.set 5 (.var 1)) (.cons (.set 6 (.bi .int (.cons (.call 41 (.cons (.var 0) (.cons (.var 3) (.cons (.con (.int 0)) (.cons (.var 5) (.cons (.var 4) .nil)))))) .nil))) (.cons (.fors (.tup (.cons (.name 7) (.cons (.name 8) .nil))) (.enum (.var 2)) (.cons (.set 5 (.call 44 (.cons (.var 0) (.cons (.var 5) (.cons (.var 8) .nil))))) (.cons (.ifs (.isn false (.var 5)) (.cons (.ret (.con .none)) .nil) .nil) (.cons (.set 6 (.bin .add (.var 6) (.bi .int (.cons (.call 41 (.cons (.var 0) (.cons (.var 3) (.cons (.bin .add (.var 7) (.con (.int 1))) (.cons (.var 5) (.cons (.var 4) .nil)))))) .nil)))) .nil)))) (.cons (.ret (.var 6)) .nil))))))))⟩
/-- posts.need_kind(some, height, far): 0 some, 1 height, 2 far -/
def f50 : Fn := ⟨3, 3, (.cons (.expr (.call 2 (.cons (.var 0) .nil))) (.cons (.expr (.call 5 (.cons (.var 1) .nil))) (.cons (.expr (.call 6 (.cons (.var 2) .nil))) .nil)))⟩
/-- posts.views(some, height, far): 0 some, 1 height, 2 far, 3 made, 4 cell, 5 other -/
def f51 : Fn := ⟨3, 6, (.cons (.newd 3) (.cons (.fors (.name 4) (.seq (.call 11 (.cons (.var 0) .nil))) (.cons (.putd 3 (.var 4) (.compIf [5] (.var 5) (.name 5) (.seq (.call 30 (.cons (.var 0) (.cons (.var 4) (.cons (.var 1) (.cons (.var 2) .nil)))))) (.call 9 (.cons (.var 0) (.cons (.var 5) .nil))))) .nil)) (.cons (.keep 3) (.cons (.ret (.var 3)) .nil))))⟩
/-- posts.choose(left, cells, book, many): 0 left, 1 cells, 2 book, 3 many, 4 widest, 5 place, 6 cell, 7 rest, 8 found, 9 one -/
def f52 : Fn := ⟨4, 10, (.cons (.ifs (.cmp .eq (.var 3) (.con (.int 0))) (.cons (.ret (.ite (.cmp .eq (.var 0) (.lst .nil)) (.tup .nil) (.con .none))) .nil) .nil) (.cons (.set 4 (.bi .max1 (.cons (.bin .add (.lst (.cons (.con (.int 0)) .nil)) (.comp [6] (.bi .len (.cons (.compIf [9] (.var 9) (.name 9) (.seq (.var 0)) (.cmp .isin (.var 9) (.idx (.var 2) (.var 6)))) .nil)) (.name 6) (.seq (.var 1)))) .nil))) (.cons (.ifs (.cmp .lt (.bin .mul (.var 4) (.var 3)) (.bi .len (.cons (.var 0) .nil))) (.cons (.ret (.con .none)) .nil) .nil) (.cons (.fors (.tup (.cons (.name 5) (.cons (.name 6) .nil))) (.enum (.var 1)) (.cons (.set 7 (.compIf [9] (.var 9) (.name 9) (.seq (.var 0)) (.cmp .notin (.var 9) (.idx (.var 2) (.var 6))))) (.cons (.set 8 (.call 52 (.cons (.var 7) (.cons (.slo (.var 1) (.bin .add (.var 5) (.con (.int 1)))) (.cons (.var 2) (.cons (.bin .sub (.var 3) (.con (.int 1))) .nil)))))) (.cons (.ifs (.isn true (.var 8)) (.cons (.ret (.bin .add (.tup (.cons (.var 6) .nil)) (.var 8))) .nil) .nil) .nil)))) (.cons (.ret (.con .none)) .nil)))))⟩
/-- posts.posts(some, height, far): 0 some, 1 height, 2 far, 3 book, 4 many, 5 found -/
def f53 : Fn := ⟨3, 6, (.cons (.expr (.call 50 (.cons (.var 0) (.cons (.var 1) (.cons (.var 2) .nil))))) (.cons (.set 3 (.call 51 (.cons (.var 0) (.cons (.var 1) (.cons (.var 2) .nil))))) (.cons (.fors (.name 4) (.rng1 (.bin .add (.glob 12) (.con (.int 1)))) (.cons (.set 5 (.call 52 (.cons (.call 11 (.cons (.var 0) .nil)) (.cons (.call 11 (.cons (.var 0) .nil)) (.cons (.var 3) (.cons (.var 4) .nil)))))) (.cons (.ifs (.isn true (.var 5)) (.cons (.ret (.var 5)) .nil) .nil) .nil))) (.cons (.ret (.con .none)) .nil))))⟩
/-- posts.are_posts(some, height, far, thing): 0 some, 1 height, 2 far, 3 thing, 4 book, 5 cell, 6 post -/
def f54 : Fn := ⟨4, 7, (.cons (.expr (.call 50 (.cons (.var 0) (.cons (.var 1) (.cons (.var 2) .nil))))) (.cons (.ifs (.or (.not (.bi (.isa .list) (.cons (.var 3) .nil))) (.not (.bi .all (.cons (.comp [5] (.and (.call 3 (.cons (.var 0) (.cons (.var 5) .nil))) (.call 9 (.cons (.var 0) (.cons (.var 5) .nil)))) (.name 5) (.seq (.var 3))) .nil)))) (.cons (.ret (.con (.bool false))) .nil) .nil) (.cons (.set 4 (.call 51 (.cons (.var 0) (.cons (.var 1) (.cons (.var 2) .nil))))) (.cons (.fors (.name 5) (.seq (.call 11 (.cons (.var 0) .nil))) (.cons (.ifs (.not (.bi .any (.cons (.comp [6] (.cmp .isin (.var 5) (.idx (.var 4) (.var 6))) (.name 6) (.seq (.var 3))) .nil))) (.cons (.ret (.con (.bool false))) .nil) .nil) .nil)) (.cons (.ret (.con (.bool true))) .nil)))))⟩
/-- posts.are_apart(some, height, far, thing): 0 some, 1 height, 2 far, 3 thing, 4 book, 5 cell, 6 one -/
def f55 : Fn := ⟨4, 7, (.cons (.expr (.call 50 (.cons (.var 0) (.cons (.var 1) (.cons (.var 2) .nil))))) (.cons (.ifs (.or (.not (.bi (.isa .list) (.cons (.var 3) .nil))) (.not (.bi .all (.cons (.comp [5] (.and (.call 3 (.cons (.var 0) (.cons (.var 5) .nil))) (.call 9 (.cons (.var 0) (.cons (.var 5) .nil)))) (.name 5) (.seq (.var 3))) .nil)))) (.cons (.ret (.con (.bool false))) .nil) .nil) (.cons (.ifs (.cmp .ne (.bi .lenset (.cons (.var 3) .nil)) (.bi .len (.cons (.var 3) .nil))) (.cons (.ret (.con (.bool false))) .nil) .nil) (.cons (.set 4 (.call 51 (.cons (.var 0) (.cons (.var 1) (.cons (.var 2) .nil))))) (.cons (.fors (.name 5) (.seq (.call 11 (.cons (.var 0) .nil))) (.cons (.ifs (.cmp .gt (.bi .len (.cons (.compIf [6] (.var 6) (.name 6) (.seq (.var 3)) (.cmp .isin (.var 6) (.idx (.var 4) (.var 5)))) .nil)) (.con (.int 1))) (.cons (.ret (.con (.bool false))) .nil) .nil) .nil)) (.cons (.ret (.con (.bool true))) .nil))))))⟩
/-- posts.seen_by_most(some, height, far): 0 some, 1 height, 2 far, 3 book, 4 counts, 5 most, 6 cell, 7 count, 8 one -/
def f56 : Fn := ⟨3, 9, (.cons (.expr (.call 50 (.cons (.var 0) (.cons (.var 1) (.cons (.var 2) .nil))))) (.cons (.set 3 (.call 51 (.cons (.var 0) (.cons (.var 1) (.cons (.var 2) .nil))))) (.cons (.set 4 (.comp [6] (.tup (.cons (.bi .len (.cons (.compIf [8] (.var 8) (.name 8) (.seq (.var 3)) (.cmp .isin (.var 6) (.idx (.var 3) (.var 8)))) .nil)) (.cons (.var 6) .nil))) (.name 6) (.seq (.call 11 (.cons (.var 0) .nil))))) (.cons (.set 5 (.bi .max1 (.cons (.bin .add (.lst (.cons (.con (.int 0)) .nil)) (.comp [7, 6] (.var 7) (.tup (.cons (.name 7) (.cons (.name 6) .nil))) (.seq (.var 4)))) .nil))) (.cons (.ret (.tup (.cons (.compIf [7, 6] (.var 6) (.tup (.cons (.name 7) (.cons (.name 6) .nil))) (.seq (.var 4)) (.cmp .eq (.var 7) (.var 5))) (.cons (.var 5) .nil)))) .nil)))))⟩
/-- mapping.rotated(some): 0 some, 1 left, 2 row -/
def f57 : Fn := ⟨1, 3, (.cons (.expr (.call 2 (.cons (.var 0) .nil))) (.cons (.ret (.bi .tuple (.cons (.comp [1] (.smt .join (.con (tx [])) (.comp [2] (.idx (.var 2) (.var 1)) (.name 2) (.seq (.rev (.var 0))))) (.name 1) (.rng1 (.bi .len (.cons (.idx (.var 0) (.con (.int 0))) .nil)))) .nil))) .nil))⟩
/-- mapping.rotated_cell(some, cell): 0 some, 1 cell -/
def f58 : Fn := ⟨2, 2, (.cons (.expr (.call 2 (.cons (.var 0) .nil))) (.cons (.expr (.call 4 (.cons (.var 0) (.cons (.var 1) .nil)))) (.cons (.ret (.tup (.cons (.bin .sub (.bin .sub (.bi .len (.cons (.var 0) .nil)) (.con (.int 1))) (.idx (.var 1) (.con (.int 1)))) (.cons (.idx (.var 1) (.con (.int 0))) .nil)))) .nil)))⟩
/-- mapping.flipped(some): 0 some, 1 row -/
def f59 : Fn := ⟨1, 2, (.cons (.expr (.call 2 (.cons (.var 0) .nil))) (.cons (.ret (.bi .tuple (.cons (.comp [1] (.rev (.var 1)) (.name 1) (.seq (.var 0))) .nil))) .nil))⟩
/-- mapping.cut_out(some, left, top, wide, high): 0 some, 1 left, 2 top, 3 wide, 4 high, 5 row -/
def f60 : Fn := ⟨5, 6, (.cons (.expr (.call 2 (.cons (.var 0) .nil))) (.cons (.ifs (.or (.not (.call 0 (.cons (.var 1) (.cons (.con (.int 0)) (.cons (.bin .sub (.bi .len (.cons (.idx (.var 0) (.con (.int 0))) .nil)) (.con (.int 1))) .nil))))) (.not (.call 0 (.cons (.var 2) (.cons (.con (.int 0)) (.cons (.bin .sub (.bi .len (.cons (.var 0) .nil)) (.con (.int 1))) .nil)))))) (.cons (.raise 12) .nil) .nil) (.cons (.ifs (.or (.not (.call 0 (.cons (.var 3) (.cons (.con (.int 1)) (.cons (.bin .sub (.bi .len (.cons (.idx (.var 0) (.con (.int 0))) .nil)) (.var 1)) .nil))))) (.not (.call 0 (.cons (.var 4) (.cons (.con (.int 1)) (.cons (.bin .sub (.bi .len (.cons (.var 0) .nil)) (.var 2)) .nil)))))) (.cons (.raise 12) .nil) .nil) (.cons (.ret (.bi .tuple (.cons (.comp [5] (.slc (.var 5) (.var 1) (.bin .add (.var 1) (.var 3))) (.name 5) (.seq (.slc (.var 0) (.var 2) (.bin .add (.var 2) (.var 4))))) .nil))) .nil))))⟩
/-- mapping.framed(some): 0 some, 1 wall, 2 row -/
def f61 : Fn := ⟨1, 3, (.cons (.expr (.call 2 (.cons (.var 0) .nil))) (.cons (.ifs (.or (.cmp .gt (.bin .add (.bi .len (.cons (.var 0) .nil)) (.con (.int 2))) (.glob 0)) (.cmp .gt (.bin .add (.bi .len (.cons (.idx (.var 0) (.con (.int 0))) .nil)) (.con (.int 2))) (.glob 0))) (.cons (.raise 12) .nil) .nil) (.cons (.set 1 (.bin .mul (.con (tx [35])) (.bin .add (.bi .len (.cons (.idx (.var 0) (.con (.int 0))) .nil)) (.con (.int 2))))) (.cons (.ret (.bin .add (.bin .add (.tup (.cons (.var 1) .nil)) (.bi .tuple (.cons (.comp [2] (.bin .add (.bin .add (.con (tx [35])) (.var 2)) (.con (tx [35]))) (.name 2) (.seq (.var 0))) .nil))) (.tup (.cons (.var 1) .nil)))) .nil))))⟩
/-- mapping.counted(some): 0 some, 1 whole, 2 sign -/
def f62 : Fn := ⟨1, 3, (.cons (.expr (.call 2 (.cons (.var 0) .nil))) (.cons (.set 1 (.smt .join (.con (tx [])) (.bi .list (.cons (.var 0) .nil)))) (.cons (.ret (.bi .tuple (.cons (.comp [2] (.smt .count (.var 1) (.var 2)) (.name 2) (.seq (.con (tx [46, 35, 61, 43, 47])))) .nil))) .nil)))⟩
/-- walking.neighbours(some, cell): 0 some, 1 cell, 2 made, 3 side, 4 other -/
def f63 : Fn := ⟨2, 5, (.cons (.set 2 (.comp [3] (.call 44 (.cons (.var 0) (.cons (.var 1) (.cons (.var 3) .nil)))) (.name 3) (.seq (.glob 5)))) (.cons (.ret (.compIf [4] (.var 4) (.name 4) (.seq (.var 2)) (.isn true (.var 4)))) .nil))⟩
/-- walking.distances(some, start, closed): 0 some, 1 start, 2 closed, 3 found, 4 row, 5 cell, 6 other -/
def f64 : Fn := ⟨3, 7, (.cons (.newd1 3 (.var 1) (.con (.int 0))) (.cons (.own 4 (.lst (.cons (.var 1) .nil))) (.cons (.whiles (.cmp .ne (.tv 4) (.lst .nil)) (.cons (.pop0 (.name 5) 4) (.cons (.fors (.name 6) (.seq (.call 63 (.cons (.var 0) (.cons (.var 5) .nil)))) (.cons (.ifs (.and (.cmp .notin (.var 6) (.tv 3)) (.cmp .notin (.var 6) (.var 2))) (.cons (.putd 3 (.var 6) (.bin .add (.idx (.tv 3) (.var 5)) (.con (.int 1)))) (.cons (.append 4 (.var 6)) .nil)) .nil) .nil)) .nil))) (.cons (.keep 3) (.cons (.ret (.var 3)) .nil)))))⟩
/-- walking.moves_to(some, one, goal): 0 some, 1 one, 2 goal -/
def f65 : Fn := ⟨3, 3, (.cons (.expr (.call 2 (.cons (.var 0) .nil))) (.cons (.expr (.call 10 (.cons (.var 0) (.cons (.var 1) .nil)))) (.cons (.expr (.call 10 (.cons (.var 0) (.cons (.var 2) .nil)))) (.cons (.ret (.bi .get1 (.cons (.call 64 (.cons (.var 0) (.cons (.var 1) (.cons (.lst .nil) .nil)))) (.cons (.var 2) .nil)))) .nil))))⟩
/-- walking.reached(some, one, many): 0 some, 1 one, 2 many, 3 found, 4 cell -/
def f66 : Fn := ⟨3, 5, (.cons (.expr (.call 2 (.cons (.var 0) .nil))) (.cons (.expr (.call 10 (.cons (.var 0) (.cons (.var 1) .nil)))) (.cons (.ifs (.not (.call 0 (.cons (.var 2) (.cons (.con (.int 0)) (.cons (.glob 14) .nil))))) (.cons (.raise 4) .nil) .nil) (.cons (.set 3 (.call 64 (.cons (.var 0) (.cons (.var 1) (.cons (.lst .nil) .nil))))) (.cons (.ret (.bi .sorted (.cons (.compIf [4] (.var 4) (.name 4) (.seq (.bi .list (.cons (.var 3) .nil))) (.cmp .le (.idx (.var 3) (.var 4)) (.var 2))) .nil))) .nil)))))⟩
/-- walking.rooms_of(some, closed): 0 some, 1 closed, 2 left, 3 made, 4 room, 5 cell -/
def f67 : Fn := ⟨2, 6, (.cons (.set 2 (.compIf [5] (.var 5) (.name 5) (.seq (.call 11 (.cons (.var 0) .nil))) (.cmp .notin (.var 5) (.var 1)))) (.cons (.own 3 (.lst .nil)) (.cons (.whiles (.cmp .ne (.var 2) (.lst .nil)) (.cons (.set 4 (.bi .sorted (.cons (.bi .list (.cons (.call 64 (.cons (.var 0) (.cons (.idx (.var 2) (.con (.int 0))) (.cons (.var 1) .nil)))) .nil)) .nil))) (.cons (.append 3 (.bi .tuple (.cons (.var 4) .nil))) (.cons (.set 2 (.compIf [5] (.var 5) (.name 5) (.seq (.var 2)) (.cmp .notin (.var 5) (.var 4)))) .nil)))) (.cons (.ret (.bi .sorted (.cons (.tv 3) .nil))) .nil))))⟩
/-- walking.rooms(some): 0 some -/
def f68 : Fn := ⟨1, 1, (.cons (.expr (.call 2 (.cons (.var 0) .nil))) (.cons (.ret (.call 67 (.cons (.var 0) (.cons (.lst .nil) .nil)))) .nil))⟩
/-- walking.narrows(some): 0 some, 1 many, 2 cell -/
def f69 : Fn := ⟨1, 3, (.cons (.expr (.call 2 (.cons (.var 0) .nil))) (.cons (.set 1 (.bi .len (.cons (.call 67 (.cons (.var 0) (.cons (.lst .nil) .nil))) .nil))) (.cons (.ret (.compIf [2] (.var 2) (.name 2) (.seq (.call 11 (.cons (.var 0) .nil))) (.cmp .gt (.bi .len (.cons (.call 67 (.cons (.var 0) (.cons (.lst (.cons (.var 2) .nil)) .nil))) .nil)) (.var 1)))) .nil)))⟩
/-- walking.farthest(some, one): 0 some, 1 one, 2 found, 3 many, 4 cell -/
def f70 : Fn := ⟨2, 5, (.cons (.expr (.call 2 (.cons (.var 0) .nil))) (.cons (.expr (.call 10 (.cons (.var 0) (.cons (.var 1) .nil)))) (.cons (.set 2 (.call 64 (.cons (.var 0) (.cons (.var 1) (.cons (.lst .nil) .nil))))) (.cons (.asg (.tup (.cons (.name 3) (.cons (.name 4) .nil))) (.bi .min1 (.cons (.comp [4] (.tup (.cons (.bin .sub (.con (.int 0)) (.idx (.var 2) (.var 4))) (.cons (.var 4) .nil))) (.name 4) (.seq (.bi .list (.cons (.var 2) .nil)))) .nil))) (.cons (.ret (.tup (.cons (.var 4) (.cons (.bin .sub (.con (.int 0)) (.var 3)) .nil)))) .nil)))))⟩
/-- webbing.need_kind(some, height): 0 some, 1 height -/
def f71 : Fn := ⟨2, 2, (.cons (.expr (.call 2 (.cons (.var 0) .nil))) (.cons (.expr (.call 5 (.cons (.var 1) .nil))) .nil))⟩
/-- webbing.pairs_seeing(some, height): 0 some, 1 height, 2 cells, 3 made, 4 at, 5 one, 6 other -/
def f72 : Fn := ⟨2, 7, (.cons (.expr (.call 71 (.cons (.var 0) (.cons (.var 1) .nil)))) (.cons (.set 2 (.call 11 (.cons (.var 0) .nil))) (.cons (.own 3 (.lst .nil)) (.cons (.fors (.tup (.cons (.name 4) (.cons (.name 5) .nil))) (.enum (.var 2)) (.cons (.extend 3 (.compIf [6] (.tup (.cons (.var 5) (.cons (.var 6) .nil))) (.name 6) (.seq (.slo (.var 2) (.bin .add (.var 4) (.con (.int 1))))) (.call 24 (.cons (.var 0) (.cons (.var 5) (.cons (.var 6) (.cons (.var 1) .nil))))))) .nil)) (.cons (.keep 3) (.cons (.ret (.var 3)) .nil))))))⟩
/-- webbing.most_open(some, height): 0 some, 1 height, 2 pairs, 3 counts, 4 most, 5 cell, 6 many, 7 pair -/
def f73 : Fn := ⟨2, 8, (.cons (.expr (.call 71 (.cons (.var 0) (.cons (.var 1) .nil)))) (.cons (.set 2 (.call 72 (.cons (.var 0) (.cons (.var 1) .nil)))) (.cons (.set 3 (.comp [5] (.tup (.cons (.bi .len (.cons (.compIf [7] (.con (.int 1)) (.name 7) (.seq (.var 2)) (.cmp .isin (.var 5) (.var 7))) .nil)) (.cons (.var 5) .nil))) (.name 5) (.seq (.call 11 (.cons (.var 0) .nil))))) (.cons (.set 4 (.bi .max1 (.cons (.bin .add (.lst (.cons (.con (.int 0)) .nil)) (.comp [6, 5] (.var 6) (.tup (.cons (.name 6) (.cons (.name 5) .nil))) (.seq (.var 3)))) .nil))) (.cons (.ret (.tup (.cons (.compIf [6, 5] (.var 5) (.tup (.cons (.name 6) (.cons (.name 5) .nil))) (.seq (.var 3)) (.cmp .eq (.var 6) (.var 4))) (.cons (.var 4) .nil)))) .nil)))))⟩
/-- webbing.signal(some, one, goal, height): 0 some, 1 one, 2 goal, 3 height, 4 cells, 5 known, 6 rows, 7 good, 8 later, 9 row, 10 cell -/
def f74 : Fn := ⟨4, 11, (.cons (.expr (.call 2 (.cons (.var 0) .nil))) (.cons (.expr (.call 10 (.cons (.var 0) (.cons (.var 1) .nil)))) (.cons (.expr (.call 10 (.cons (.var 0) (.cons (.var 2) .nil)))) (.cons (.expr (.call 5 (.cons (.var 3) .nil))) (.cons (.set 4 (.call 11 (.cons (.var 0) .nil))) (.cons (.newd1 5 (.var 1) (.con (.bool true))) (.cons (.set 6 (.lst (.cons (.tup (.cons (.var 1) .nil)) .nil))) (.cons (.whiles (.cmp .ne (.var 6) (.lst .nil)) (.cons (.set 7 (.compIf [9] (.var 9) (.name 9) (.seq (.var 6)) (.cmp .eq (.idx (.var 9) (.neg (.con (.int 1)))) (.var 2)))) (.cons (.ifs (.cmp .ne (.var 7) (.lst .nil)) (.cons (.ret (.bi .min1 (.cons (.var 7) .nil))) .nil) .nil) (.cons (.own 8 (.lst .nil)) (.cons (.fors (.name 9) (.seq (.var 6)) (.cons (.fors (.name 10) (.seq (.var 4)) (.cons (.ifs (.and (.cmp .notin (.var 10) (.tv 5)) (.call 24 (.cons (.var 0) (.cons (.idx (.var 9) (.neg (.con (.int 1)))) (.cons (.var 10) (.cons (.var 3) .nil)))))) (.cons (.putd 5 (.var 10) (.con (.bool true))) (.cons (.append 8 (.bin .add (.var 9) (.tup (.cons (.var 10) .nil)))) .nil)) .nil) .nil)) .nil)) (.cons (.keep 8) (.cons (.set 6 (.var 8)) .nil))))))) (.cons (.ret (.con .none)) .nil)))))))))⟩
/-- webbing.grown(crowd, cells, book): 0 crowd, 1 cells, 2 book, 3 best, 4 at, 5 cell, 6 rest, 7 found, 8 other -/
def f75 : Fn := ⟨3, 9, (.cons (.set 3 (.var 0)) (.cons (.fors (.tup (.cons (.name 4) (.cons (.name 5) .nil))) (.enum (.var 1)) (.cons (.set 6 (.compIf [8] (.var 8) (.name 8) (.seq (.slo (.var 1) (.bin .add (.var 4) (.con (.int 1))))) (.cmp .isin (.tup (.cons (.var 5) (.cons (.var 8) .nil))) (.var 2)))) (.cons (.ifs (.cmp .gt (.bin .add (.bin .add (.bi .len (.cons (.var 0) .nil)) (.con (.int 1))) (.bi .len (.cons (.var 6) .nil))) (.bi .len (.cons (.var 3) .nil))) (.cons (.set 7 (.call 75 (.cons (.bin .add (.var 0) (.tup (.cons (.var 5) .nil))) (.cons (.var 6) (.cons (.var 2) .nil))))) (.cons (.ifs (.cmp .gt (.bi .len (.cons (.var 7) .nil)) (.bi .len (.cons (.var 3) .nil))) (.cons (.set 3 (.var 7)) .nil) .nil) .nil)) .nil) .nil))) (.cons (.ret (.var 3)) .nil)))⟩
/-- webbing.crowd(some, height): 0 some, 1 height, 2 cells, 3 pair -/
def f76 : Fn := ⟨2, 4, (.cons (.expr (.call 71 (.cons (.var 0) (.cons (.var 1) .nil)))) (.cons (.set 2 (.call 11 (.cons (.var 0) .nil))) (.cons (.ifs (.cmp .gt (.bi .len (.cons (.var 2) .nil)) (.glob 15)) (.cons (.raise 11) .nil) .nil) (.cons (.ret (.call 75 (.cons (.tup .nil) (.cons (.var 2) (.cons (.bi .dict (.cons (.comp [3] (.tup (.cons (.var 3) (.cons (.con (.bool true)) .nil))) (.name 3) (.seq (.call 72 (.cons (.var 0) (.cons (.var 1) .nil))))) .nil)) .nil))))) .nil))))⟩
/-- webbing.blind(some, height): 0 some, 1 height, 2 pairs, 3 cell, 4 pair -/
def f77 : Fn := ⟨2, 5, (.cons (.expr (.call 71 (.cons (.var 0) (.cons (.var 1) .nil)))) (.cons (.set 2 (.call 72 (.cons (.var 0) (.cons (.var 1) .nil)))) (.cons (.ret (.compIf [3] (.var 3) (.name 3) (.seq (.call 11 (.cons (.var 0) .nil))) (.not (.bi .any (.cons (.comp [4] (.cmp .isin (.var 3) (.var 4)) (.name 4) (.seq (.var 2))) .nil))))) .nil)))⟩
/-- doors.all_doors(some): 0 some, 1 cell -/
def f78 : Fn := ⟨1, 2, (.cons (.expr (.call 2 (.cons (.var 0) .nil))) (.cons (.ret (.compIf [1] (.tup (.cons (.var 1) (.cons (.cmp .eq (.call 7 (.cons (.var 0) (.cons (.var 1) .nil))) (.con (tx [47]))) .nil))) (.name 1) (.seq (.call 8 (.cons (.var 0) .nil))) (.cmp .isin (.call 7 (.cons (.var 0) (.cons (.var 1) .nil))) (.con (tx [43, 47]))))) .nil))⟩
/-- doors.with_all(some, word): 0 some, 1 word, 2 sign, 3 row, 4 own -/
def f79 : Fn := ⟨2, 5, (.cons (.expr (.call 2 (.cons (.var 0) .nil))) (.cons (.ifs (.or (.not (.bi (.isa .str) (.cons (.var 1) .nil))) (.cmp .notin (.var 1) (.glob 16))) (.cons (.raise 7) .nil) .nil) (.cons (.set 2 (.ite (.cmp .eq (.var 1) (.con (tx [111, 112, 101, 110]))) (.con (tx [47])) (.con (tx [43])))) (.cons (.ret (.bi .tuple (.cons (.comp [3] (.smt .join (.con (tx [])) (.comp [4] (.ite (.cmp .isin (.var 4) (.con (tx [43, 47]))) (.var 2) (.var 4)) (.name 4) (.seq (.var 3)))) (.name 3) (.seq (.var 0))) .nil))) .nil))))⟩
/-- doors.pairs_in(some, cells, height): 0 some, 1 cells, 2 height, 3 many, 4 at, 5 one, 6 other -/
def f80 : Fn := ⟨3, 7, (.cons (.set 3 (.con (.int 0))) (.cons (.fors (.tup (.cons (.name 4) (.cons (.name 5) .nil))) (.enum (.var 1)) (.cons (.set 3 (.bin .add (.var 3) (.bi .len (.cons (.compIf [6] (.con (.int 1)) (.name 6) (.seq (.slo (.var 1) (.bin .add (.var 4) (.con (.int 1))))) (.call 24 (.cons (.var 0) (.cons (.var 5) (.cons (.var 6) (.cons (.var 2) .nil)))))) .nil)))) .nil)) (.cons (.ret (.var 3)) .nil)))⟩
/-- doors.door_worth(some, cell, height): 0 some, 1 cell, 2 height -/
def f81 : Fn := ⟨3, 3, (.cons (.expr (.call 2 (.cons (.var 0) .nil))) (.cons (.expr (.call 4 (.cons (.var 0) (.cons (.var 1) .nil)))) (.cons (.ifs (.cmp .notin (.call 7 (.cons (.var 0) (.cons (.var 1) .nil))) (.con (tx [43, 47]))) (.cons (.raise 7) .nil) .nil) (.cons (.expr (.call 5 (.cons (.var 2) .nil))) (.cons (.ret (.call 82 (.cons (.var 0) (.cons (.var 1) (.cons (.var 2) .nil))))) .nil)))))⟩
/-- doors.worth_of(some, cell, height): 0 some, 1 cell, 2 height, 3 cells, 4 other -/
def f82 : Fn := ⟨3, 5, (.cons (.set 3 (.compIf [4] (.var 4) (.name 4) (.seq (.call 11 (.cons (.var 0) .nil))) (.cmp .ne (.var 4) (.var 1)))) (.cons (.ret (.bin .sub (.call 80 (.cons (.call 14 (.cons (.var 0) (.cons (.var 1) (.cons (.con (tx [47])) .nil)))) (.cons (.var 3) (.cons (.var 2) .nil)))) (.call 80 (.cons (.call 14 (.cons (.var 0) (.cons (.var 1) (.cons (.con (tx [43])) .nil)))) (.cons (.var 3) (.cons (.var 2) .nil)))))) .nil))⟩
/-- doors.best_door(some, height): 0 some, 1 height, 2 rows, 3 worth, 4 cell, 5 is_open -/
def f83 : Fn := ⟨2, 6, (.cons (.expr (.call 2 (.cons (.var 0) .nil))) (.cons (.expr (.call 5 (.cons (.var 1) .nil))) (.cons (.set 2 (.comp [4, 5] (.tup (.cons (.bin .sub (.con (.int 0)) (.call 82 (.cons (.var 0) (.cons (.var 4) (.cons (.var 1) .nil))))) (.cons (.var 4) .nil))) (.tup (.cons (.name 4) (.cons (.name 5) .nil))) (.seq (.call 78 (.cons (.var 0) .nil))))) (.cons (.ifs (.cmp .eq (.var 2) (.lst .nil)) (.cons (.ret (.con .none)) .nil) .nil) (.cons (.asg (.tup (.cons (.name 3) (.cons (.name 4) .nil))) (.bi .min1 (.cons (.var 2) .nil))) (.cons (.ret (.tup (.cons (.var 4) (.cons (.bin .sub (.con (.int 0)) (.var 3)) .nil)))) .nil))))))⟩
/-- doors.opened_up(some, one, other, height): 0 some, 1 one, 2 other, 3 height, 4 shut, 5 cell, 6 is_open -/
def f84 : Fn := ⟨4, 7, (.cons (.expr (.call 2 (.cons (.var 0) .nil))) (.cons (.expr (.call 4 (.cons (.var 0) (.cons (.var 1) .nil)))) (.cons (.expr (.call 4 (.cons (.var 0) (.cons (.var 2) .nil)))) (.cons (.expr (.call 5 (.cons (.var 3) .nil))) (.cons (.ifs (.call 24 (.cons (.var 0) (.cons (.var 1) (.cons (.var 2) (.cons (.var 3) .nil))))) (.cons (.ret (.lst .nil)) .nil) .nil) (.cons (.set 4 (.compIf [5, 6] (.var 5) (.tup (.cons (.name 5) (.cons (.name 6) .nil))) (.seq (.call 78 (.cons (.var 0) .nil))) (.not (.var 6)))) (.cons (.ret (.compIf [5] (.var 5) (.name 5) (.seq (.var 4)) (.call 24 (.cons (.call 14 (.cons (.var 0) (.cons (.var 5) (.cons (.con (tx [47])) .nil)))) (.cons (.var 1) (.cons (.var 2) (.cons (.var 3) .nil))))))) .nil)))))))⟩
/-- lamping.dark(some, lamps, least): 0 some, 1 lamps, 2 least, 3 cell -/
def f85 : Fn := ⟨3, 4, (.cons (.expr (.call 33 (.cons (.var 0) (.cons (.var 1) .nil)))) (.cons (.expr (.call 6 (.cons (.var 2) .nil))) (.cons (.ret (.compIf [3] (.var 3) (.name 3) (.seq (.call 11 (.cons (.var 0) .nil))) (.cmp .lt (.call 34 (.cons (.var 0) (.cons (.var 1) (.cons (.var 3) .nil)))) (.var 2)))) .nil)))⟩
/-- lamping.total(some, lamps): 0 some, 1 lamps, 2 cell -/
def f86 : Fn := ⟨2, 3, (.cons (.expr (.call 33 (.cons (.var 0) (.cons (.var 1) .nil)))) (.cons (.ret (.bi .sum (.cons (.comp [2] (.call 34 (.cons (.var 0) (.cons (.var 1) (.cons (.var 2) .nil)))) (.name 2) (.seq (.call 11 (.cons (.var 0) .nil)))) .nil))) .nil))⟩
/-- lamping.brightest(some, lamps): 0 some, 1 lamps, 2 rows, 3 most, 4 cell, 5 light -/
def f87 : Fn := ⟨2, 6, (.cons (.expr (.call 33 (.cons (.var 0) (.cons (.var 1) .nil)))) (.cons (.set 2 (.comp [4] (.tup (.cons (.call 34 (.cons (.var 0) (.cons (.var 1) (.cons (.var 4) .nil)))) (.cons (.var 4) .nil))) (.name 4) (.seq (.call 11 (.cons (.var 0) .nil))))) (.cons (.set 3 (.bi .max1 (.cons (.bin .add (.lst (.cons (.con (.int 0)) .nil)) (.comp [5, 4] (.var 5) (.tup (.cons (.name 5) (.cons (.name 4) .nil))) (.seq (.var 2)))) .nil))) (.cons (.ret (.tup (.cons (.compIf [5, 4] (.var 4) (.tup (.cons (.name 5) (.cons (.name 4) .nil))) (.seq (.var 2)) (.cmp .eq (.var 5) (.var 3))) (.cons (.var 3) .nil)))) .nil))))⟩
/-- lamping.need_more(lamps, strong): 0 lamps, 1 strong -/
def f88 : Fn := ⟨2, 2, (.cons (.ifs (.not (.call 0 (.cons (.var 1) (.cons (.con (.int 1)) (.cons (.glob 8) .nil))))) (.cons (.raise 4) .nil) .nil) (.cons (.ifs (.cmp .eq (.bi .len (.cons (.var 0) .nil)) (.glob 7)) (.cons (.raise 5) .nil) .nil) .nil))⟩
/-- lamping.lamp_for(some, lamps, strong, least): 0 some, 1 lamps, 2 strong, 3 least, 4 rows, 5 cell -/
def f89 : Fn := ⟨4, 6, (.cons (.expr (.call 33 (.cons (.var 0) (.cons (.var 1) .nil)))) (.cons (.expr (.call 6 (.cons (.var 3) .nil))) (.cons (.expr (.call 88 (.cons (.var 1) (.cons (.var 2) .nil)))) (.cons (.set 4 (.comp [5] (.tup (.cons (.bi .len (.cons (.call 85 (.cons (.var 0) (.cons (.bin .add (.var 1) (.tup (.cons (.tup (.cons (.var 5) (.cons (.var 2) .nil))) .nil))) (.cons (.var 3) .nil)))) .nil)) (.cons (.var 5) .nil))) (.name 5) (.seq (.call 11 (.cons (.var 0) .nil))))) (.cons (.ret (.ite (.cmp .ne (.var 4) (.lst .nil)) (.idx (.bi .min1 (.cons (.var 4) .nil)) (.con (.int 1))) (.con .none))) .nil)))))⟩
/-- lamping.idle_lamps(some, lamps, least): 0 some, 1 lamps, 2 least, 3 whole, 4 made, 5 place -/
def f90 : Fn := ⟨3, 6, (.cons (.expr (.call 33 (.cons (.var 0) (.cons (.var 1) .nil)))) (.cons (.expr (.call 6 (.cons (.var 2) .nil))) (.cons (.set 3 (.call 85 (.cons (.var 0) (.cons (.var 1) (.cons (.var 2) .nil))))) (.cons (.own 4 (.lst .nil)) (.cons (.fors (.name 5) (.rng1 (.bi .len (.cons (.var 1) .nil))) (.cons (.ifs (.cmp .eq (.call 85 (.cons (.var 0) (.cons (.bin .add (.shi (.var 1) (.var 5)) (.slo (.var 1) (.bin .add (.var 5) (.con (.int 1))))) (.cons (.var 2) .nil)))) (.var 3)) (.cons (.append 4 (.var 5)) .nil) .nil) .nil)) (.cons (.keep 4) (.cons (.ret (.var 4)) .nil)))))))⟩
def gv0 : Nat → Option D
  | 0 => some (.int 7)
  | 1 => some (tx [46, 35, 61, 43, 47])
  | 2 => some (tx [46, 47])
  | 3 => some (.int 12)
  | 4 => some (.tuple [(tx [104, 105, 103, 104]), (tx [108, 111, 119])])
  | 5 => some (tx [110, 101, 115, 119])
  | 7 => some (.int 5)
  | 8 => some (.int 9)
  | 9 => some (.int 4)
  | 10 => some (.int 999)
  | 11 => some (tx [101, 110, 115, 119, 46])
  | 12 => some (.int 4)
  | 14 => some (.int 99)
  | 15 => some (.int 20)
  | 16 => some (.tuple [(tx [111, 112, 101, 110]), (tx [115, 104, 117, 116])])
  | _ => none
end Ip
/-! Pm1: maps; what the defs of maps.py tell of them. -/
namespace Ip
open PySem

/-- a map: its rows by codes -/
structure GM (M : List (List Nat)) (w h : Nat) : Prop where
  len : M.length = h
  h1 : 1 ≤ h
  h7 : h ≤ 7
  w1 : 1 ≤ w
  w7 : w ≤ 7
  row : ∀ r ∈ M, r.length = w
  sgn : ∀ r ∈ M, ∀ c ∈ r, c = 46 ∨ c = 35 ∨ c = 61 ∨ c = 43 ∨ c = 47
def mapD (M : List (List Nat)) : D := .tuple (M.map tx)
variable {gv : Nat → Option D} {tv : Nat → List (D × D)} {Γ : Nat → Option Fn} {k : Nat} {st : Store}
/-! ### is_whole -/
theorem is_whole_int (h : Γ 0 = some f0) (i lo hi : Int) : callN gv tv Γ (k + 1) 0 [.d (.int i), .d (.int lo), .d (.int hi)] st = .ok (.d (.bool (decide (lo ≤ i) && decide (i ≤ hi)))) st := by
  rw [call_of h _ ⟨rfl, by decide⟩]
  by_cases h1 : lo ≤ i
  · by_cases h2 : i ≤ hi <;> simp [f0, start0, biD, cmpD, h1, h2]
  · simp [f0, start0, biD, cmpD, h1]
theorem is_whole_yes (h : Γ 0 = some f0) {i lo hi : Int} (h1 : lo ≤ i) (h2 : i ≤ hi) : callN gv tv Γ (k + 1) 0 [.d (.int i), .d (.int lo), .d (.int hi)] st = .ok (.d (.bool true)) st := by
  rw [is_whole_int h, decide_eq_true h1, decide_eq_true h2]
  rfl
theorem flat_len {w : Nat} : ∀ M : List (List Nat), (∀ r ∈ M, r.length = w) → M.flatten.length = M.length * w
  | [], _ => by simp
  | r :: M, hr => by
    rw [List.flatten_cons, List.length_append, hr r (by simp), flat_len M fun r' h' => hr r' (by simp [h']), List.length_cons, Nat.add_mul]
    omega
theorem GM.flat {M : List (List Nat)} {w h : Nat} (g : GM M w h) : M.flatten.length ≤ 49 := by
  rw [flat_len M g.row, g.len]
  have := Nat.mul_le_mul g.h7 g.w7
  omega
theorem GM.ne {M : List (List Nat)} {w h : Nat} (g : GM M w h) : ∃ r R, M = r :: R ∧ r.length = w := by
  cases M with
  | nil => have := g.len; have := g.h1; simp at *; omega
  | cons r R => exact ⟨r, R, rfl, g.row r (by simp)⟩
theorem len_tx {r : List Nat} (h : r.length ≤ lim) : lenD (tx r) = some (.int (r.length : Nat)) := by simp [lenD, h]
theorem len_map (M : List (List Nat)) : lenD (mapD M) = some (.int (M.length : Nat)) := by simp [lenD, mapD]
theorem idx_row {M : List (List Nat)} {i : Nat} {r : List Nat} (h : M[i]? = some r) : idxD (mapD M) (.int i) = some (tx r) := by
  refine idx_tuple ?_
  rw [List.getElem?_map, h]
  rfl
theorem GM.rl {M : List (List Nat)} {w h : Nat} (g : GM M w h) {r : List Nat} (hr : r ∈ M) : r.length ≤ lim := by
  have := g.row r hr
  have := g.w7
  unfold lim
  omega
theorem join_rows {M : List (List Nat)} (h : M.flatten.length ≤ lim) : joinD (tx []) (.list (M.map tx)) = some (tx M.flatten) := by
  rw [List.length_flatten] at h
  simp [joinD, asStrs_map, h]
theorem seq_tx {l : List Nat} (h : l.length ≤ lim) : seqD (tx l) = some (l.map fun c => tx [c]) := by simp [seqD, h, charsD]
theorem is_map_ok (h0 : Γ 1 = some f1) (g0 : gv 0 = some (.int 7)) (g1 : gv 1 = some (tx [46, 35, 61, 43, 47])) {M : List (List Nat)} {w h : Nat} (g : GM M w h) : callN gv tv Γ (k + 1) 1 [.d (mapD M)] st = .ok (.d (.bool true)) st := by
  rw [call_of h0 _ ⟨rfl, by decide⟩]
  obtain ⟨r0, R, hM, hr0⟩ := g.ne
  have hl := g.len
  have hh := g.h1
  have hh7 := g.h7
  have hw := g.w1
  have hw7 := g.w7
  have hf := g.flat
  have i0 : idxD (mapD M) (.int 0) = some (tx r0) := idx_row (i := 0) (by rw [hM]; rfl)
  have l0 := len_tx (g.rl (r := r0) (by rw [hM]; simp))
  have m1 : (1 : Int) ≤ (M.length : Int) := by omega
  have m2 : (M.length : Int) ≤ 7 := by omega
  have row1 := e_allT (gv := gv) (tv := tv) (cf := callN gv tv Γ k) (own := [2]) (elt := .and (.bi (.isa .str) (.cons (.var 2) .nil)) (.chain .le .le (.con (.int 1)) (.bi .len (.cons (.var 2) .nil)) (.glob 0))) (t := .name 2) (it := .seq (.var 0))
    (ρ := [.v (.d (mapD M)), .un, .un]) (st := st) (l := M) (enc := tx) (by simp [mapD, seqD]) fun r hr => by
      have h1 := g.row r hr
      have e1 := len_tx (g.rl hr)
      have e2 : (1 : Int) ≤ (r.length : Int) := by omega
      have e3 : (r.length : Int) ≤ 7 := by omega
      exact ⟨_, rfl, by simp [biD, e1, cmpD, g0, e2, e3]⟩
  have row2 := e_allT (gv := gv) (tv := tv) (cf := callN gv tv Γ k) (own := [2]) (elt := .cmp .eq (.bi .len (.cons (.var 2) .nil)) (.bi .len (.cons (.idx (.var 0) (.con (.int 0))) .nil))) (t := .name 2) (it := .seq (.var 0))
    (ρ := [.v (.d (mapD M)), .un, .un]) (st := st) (l := M) (enc := tx) (by simp [mapD, seqD]) fun r hr => by
      have h1 := g.row r hr
      have e1 := len_tx (g.rl hr)
      exact ⟨_, rfl, by simp [biD, e1, i0, l0, cmpD, h1, hr0, shallow, PyData.plain, PyData.depth, PyData.eqv]⟩
  have row3 := e_allT (gv := gv) (tv := tv) (cf := callN gv tv Γ k) (own := [1]) (elt := .cmp .isin (.var 1) (.glob 1)) (t := .name 1) (it := .seq (.smt .join (.con (tx [])) (.bi .list (.cons (.var 0) .nil))))
    (ρ := [.v (.d (mapD M)), .un, .un]) (st := st) (l := M.flatten) (enc := fun c => tx [c]) (by
      have hf' : M.flatten.length ≤ lim := by unfold lim; omega
      simp [mapD, biD, listD, mtD, join_rows hf', seq_tx hf']) fun c hc => by
      obtain ⟨r, hr, hc⟩ := List.mem_flatten.mp hc
      refine ⟨_, rfl, ?_⟩
      rcases g.sgn r hr c hc with rfl | rfl | rfl | rfl | rfl <;> simp [cmpD, inD, g1, lim]
  have hi : isaD .tuple (mapD M) = true := rfl
  simp [f1, start0, biD, hi, len_map, cmpD, g0, m1, m2, row1, row2, row3]
theorem need_map_ok (h0 : Γ 1 = some f1) (h2 : Γ 2 = some f2) (g0 : gv 0 = some (.int 7)) (g1 : gv 1 = some (tx [46, 35, 61, 43, 47])) {M : List (List Nat)} {w h : Nat} (g : GM M w h) : callN gv tv Γ (k + 2) 2 [.d (mapD M)] st = .ok (.d .none) st := by
  rw [call_of h2 _ ⟨rfl, by decide⟩]
  simp [f2, start0, is_map_ok h0 g0 g1 g]
end Ip
/-! Pm2: equal data; maps turned, mirrored, cut, framed, counted. -/
namespace Ip
open PySem
variable {gv : Nat → Option D} {tv : Nat → List (D × D)} {Γ : Nat → Option Fn} {k : Nat} {st : Store}
/-! ### equal data -/
mutual
theorem eqv_refl : ∀ d : D, d.plain = true → PyData.eqv d d = true
  | .none, _ => by simp [PyData.eqv]
  | .bool _, _ => by simp [PyData.eqv]
  | .int _, _ => by simp [PyData.eqv]
  | .str _, _ => by simp [PyData.eqv]
  | .list xs, h => by simp only [PyData.plain] at h; simp only [PyData.eqv]; exact eqvs_refl xs h
  | .tuple xs, h => by simp only [PyData.plain] at h; simp only [PyData.eqv]; exact eqvs_refl xs h
  | .dict _, h => by simp [PyData.plain] at h
theorem eqvs_refl : ∀ xs : List D, PyData.plainAll xs = true → PyData.eqvAll xs xs = true
  | [], _ => by simp [PyData.eqvAll]
  | x :: xs, h => by
    simp only [PyData.plainAll, Bool.and_eq_true] at h
    simp only [PyData.eqvAll, eqv_refl x h.1, eqvs_refl xs h.2, Bool.and_true]
end
theorem same_eq {x : D} (h : shallow x = true) : cmpD .eq x x = some true := by
  have hp : x.plain = true := by unfold shallow at h; simp at h; exact h.1
  simp [cmpD, h, eqv_refl x hp]
theorem same_ne {x : D} (h : shallow x = true) : cmpD .ne x x = some false := by
  have hp : x.plain = true := by unfold shallow at h; simp at h; exact h.1
  simp [cmpD, h, eqv_refl x hp]
theorem sh_tx (l : List Nat) : shallow (tx l) = true := by simp [shallow, PyData.plain, PyData.depth]
theorem sh_int (i : Int) : shallow (.int i) = true := by simp [shallow, PyData.plain, PyData.depth]
theorem sh_bool (i : Bool) : shallow (.bool i) = true := by simp [shallow, PyData.plain, PyData.depth]
theorem plain_all {xs : List D} (h : ∀ x ∈ xs, x.plain = true) : PyData.plainAll xs = true := by
  induction xs with
  | nil => rfl
  | cons x xs ih => simp only [PyData.plainAll, h x (by simp), ih fun y hy => h y (by simp [hy]), Bool.and_true]
theorem depth_all {n : Nat} {xs : List D} (h : ∀ x ∈ xs, x.depth ≤ n) : PyData.depthAll xs ≤ n := by
  induction xs with
  | nil => simp [PyData.depthAll]
  | cons x xs ih =>
    have h1 := h x (by simp)
    have h2 := ih fun y hy => h y (by simp [hy])
    simp only [PyData.depthAll]
    omega
/-- flat: depth at most n -/
def flat (n : Nat) (x : D) : Bool := x.plain && decide (x.depth ≤ n)
theorem flat_sh {n : Nat} {x : D} (h : flat n x = true) (hn : n ≤ 32) : shallow x = true := by
  unfold flat at h
  unfold shallow
  simp only [Bool.and_eq_true, decide_eq_true_eq] at h ⊢
  exact ⟨h.1, by omega⟩
theorem flat_tuple {n : Nat} {xs : List D} (h : ∀ x ∈ xs, flat n x = true) : flat (n + 1) (.tuple xs) = true := by
  unfold flat
  simp only [Bool.and_eq_true, decide_eq_true_eq, PyData.plain, PyData.depth]
  refine ⟨plain_all fun x hx => ?_, ?_⟩
  · have := h x hx; unfold flat at this; simp only [Bool.and_eq_true] at this; exact this.1
  · have := depth_all (n := n) (xs := xs) fun x hx => by have := h x hx; unfold flat at this; simp only [Bool.and_eq_true, decide_eq_true_eq] at this; exact this.2
    exact decide_eq_true (Nat.succ_le_succ this)
theorem flat_list {n : Nat} {xs : List D} (h : ∀ x ∈ xs, flat n x = true) : flat (n + 1) (.list xs) = true := by
  unfold flat
  simp only [Bool.and_eq_true, decide_eq_true_eq, PyData.plain, PyData.depth]
  refine ⟨plain_all fun x hx => ?_, ?_⟩
  · have := h x hx; unfold flat at this; simp only [Bool.and_eq_true] at this; exact this.1
  · have := depth_all (n := n) (xs := xs) fun x hx => by have := h x hx; unfold flat at this; simp only [Bool.and_eq_true, decide_eq_true_eq] at this; exact this.2
    exact decide_eq_true (Nat.succ_le_succ this)
theorem flat_tx (n : Nat) (l : List Nat) : flat n (tx l) = true := by simp [flat, PyData.plain, PyData.depth]
theorem flat_int (n : Nat) (i : Int) : flat n (.int i) = true := by simp [flat, PyData.plain, PyData.depth]
theorem sh_map (M : List (List Nat)) : shallow (mapD M) = true := flat_sh (n := 1) (flat_tuple fun x hx => by
  obtain ⟨r, _, rfl⟩ := List.mem_map.mp hx
  exact flat_tx 0 r) (by omega)
theorem eqv_tx (a b : List Nat) : PyData.eqv (tx a) (tx b) = decide (a = b) := by
  simp only [PyData.eqv]
  by_cases h : a = b
  · subst h; simp
  · have : (⟨a.toArray⟩ : Str) ≠ ⟨b.toArray⟩ := by
      intro e
      apply h
      have := congrArg (fun s : Str => s.cps.toList) e
      simpa using this
    simp [h, this]
theorem eq_tx (a b : List Nat) : cmpD .eq (tx a) (tx b) = some (decide (a = b)) := by
  simp only [cmpD, sh_tx, Bool.and_self, if_true, eqv_tx]
theorem ne_tx (a b : List Nat) : cmpD .ne (tx a) (tx b) = some (!decide (a = b)) := by
  simp only [cmpD, sh_tx, Bool.and_self, if_true, eqv_tx]
theorem eq_int (a b : Int) : cmpD .eq (.int a) (.int b) = some (decide (a = b)) := by
  simp only [cmpD, sh_int, Bool.and_self, if_true, PyData.eqv]
  congr 1
theorem ne_int (a b : Int) : cmpD .ne (.int a) (.int b) = some (!decide (a = b)) := by
  simp only [cmpD, sh_int, Bool.and_self, if_true, PyData.eqv]
  congr 1
/-! ### what the defs of maps.py lean on -/
structure Mp (gv : Nat → Option D) (Γ : Nat → Option Fn) : Prop where
  g0 : gv 0 = some (.int 7)
  g1 : gv 1 = some (tx [46, 35, 61, 43, 47])
  h0 : Γ 0 = some f0
  h1 : Γ 1 = some f1
  h2 : Γ 2 = some f2
  h3 : Γ 3 = some f3
  h4 : Γ 4 = some f4
theorem need_ok (m : Mp gv Γ) {M : List (List Nat)} {w h : Nat} (g : GM M w h) : callN gv tv Γ (k + 2) 2 [.d (mapD M)] st = .ok (.d .none) st := need_map_ok m.h1 m.h2 m.g0 m.g1 g
/-- a cell -/
abbrev cellD (p : Nat × Nat) : D := .tuple [.int (p.1 : Nat), .int (p.2 : Nat)]
theorem GM.row0 {M : List (List Nat)} {w h : Nat} (g : GM M w h) : ∃ r, M[0]? = some r ∧ r.length = w := by
  obtain ⟨r, R, rfl, hr⟩ := g.ne
  exact ⟨r, rfl, hr⟩
theorem GM.top {M : List (List Nat)} {w h : Nat} (g : GM M w h) : ∃ r, idxD (mapD M) (.int 0) = some (tx r) ∧ lenD (tx r) = some (.int (w : Nat)) := by
  obtain ⟨r, hr, hl⟩ := g.row0
  have hm := List.mem_of_getElem? hr
  refine ⟨r, idx_row (i := 0) hr, ?_⟩
  rw [len_tx (g.rl hm), hl]
theorem GM.high {M : List (List Nat)} {w h : Nat} (g : GM M w h) : lenD (mapD M) = some (.int (h : Nat)) := by rw [len_map, g.len]
theorem is_cell_ok (m : Mp gv Γ) {M : List (List Nat)} {w h : Nat} (g : GM M w h) (x y : Nat) (hx : x < w) (hy : y < h) : callN gv tv Γ (k + 2) 3 [.d (mapD M), .d (cellD (x, y))] st = .ok (.d (.bool true)) st := by
  rw [call_of m.h3 _ ⟨rfl, by decide⟩]
  obtain ⟨r, e1, e2⟩ := g.top
  have e3 := g.high
  have c1 := is_whole_yes (gv := gv) (tv := tv) (k := k) (st := st) m.h0 (i := x) (lo := 0) (hi := (w : Int) - 1) (by omega) (by omega)
  have c2 := is_whole_yes (gv := gv) (tv := tv) (k := k) (st := st) m.h0 (i := y) (lo := 0) (hi := (h : Int) - 1) (by omega) (by omega)
  have s1 := sub_ok w 1
  have s2 := sub_ok h 1
  have i0 : idxD (cellD (x, y)) (.int 0) = some (.int (x : Nat)) := rfl
  have i1 : idxD (cellD (x, y)) (.int 1) = some (.int (y : Nat)) := rfl
  have l2 : lenD (cellD (x, y)) = some (.int 2) := rfl
  have ne2 := ne_int 2 2
  simp only [decide_true, Bool.not_true] at ne2
  generalize hM : mapD M = MM at *
  generalize (w : Int) - 1 = w1 at *
  generalize (h : Int) - 1 = h1 at *
  simp [f3, start0, biD, l2, ne2, i0, i1, e1, e2, e3, s1, s2, c1, c2]
theorem need_cell_ok (m : Mp gv Γ) {M : List (List Nat)} {w h : Nat} (g : GM M w h) (x y : Nat) (hx : x < w) (hy : y < h) : callN gv tv Γ (k + 3) 4 [.d (mapD M), .d (cellD (x, y))] st = .ok (.d .none) st := by
  rw [call_of m.h4 _ ⟨rfl, by decide⟩]
  have := is_cell_ok (gv := gv) (tv := tv) (k := k) (st := st) m g x y hx hy
  simp [f4, start0, this]
end Ip
/-! Pm3: mapping.py. -/
namespace Ip
open PySem
variable {gv : Nat → Option D} {tv : Nat → List (D × D)} {Γ : Nat → Option Fn} {k : Nat} {st : Store}
theorem join_signs {l : List Nat} (h : l.length ≤ lim) : joinD (tx []) (.list (l.map fun c => tx [c])) = some (tx l) := by
  have e : (l.map fun c => tx [c]) = (l.map fun c => [c]).map tx := by rw [List.map_map]; rfl
  have e2 : ∀ l : List Nat, (l.map fun c => [c]).flatten = l := by
    intro l
    induction l with
    | nil => rfl
    | cons c l ih => rw [List.map_cons, List.flatten_cons, ih]; rfl
  rw [e, join_rows (by rw [e2]; exact h), e2]
def rotM (M : List (List Nat)) (w : Nat) : List (List Nat) := (List.range w).map fun i => M.reverse.map fun r => r.getD i 0
def flipM (M : List (List Nat)) : List (List Nat) := M.map List.reverse
def cutM (M : List (List Nat)) (left top wide high : Nat) : List (List Nat) := ((M.drop top).take high).map fun r => (r.drop left).take wide
def frameM (M : List (List Nat)) (w : Nat) : List (List Nat) := [List.replicate (w + 2) 35] ++ (M.map fun r => [35] ++ r ++ [35]) ++ [List.replicate (w + 2) 35]
theorem GM.rot {M : List (List Nat)} {w h : Nat} (g : GM M w h) : GM (rotM M w) h w := by
  refine ⟨by simp [rotM], g.w1, g.w7, g.h1, g.h7, fun r hr => ?_, fun r hr c hc => ?_⟩
  · obtain ⟨i, _, rfl⟩ := List.mem_map.mp hr
    simp [g.len]
  · obtain ⟨i, hi, rfl⟩ := List.mem_map.mp hr
    obtain ⟨q, hq, rfl⟩ := List.mem_map.mp hc
    have hq' : q ∈ M := List.mem_reverse.mp hq
    have hl := g.row q hq'
    have hi' : i < q.length := by rw [hl]; exact List.mem_range.mp hi
    rw [List.getD_eq_getElem?_getD, List.getElem?_eq_getElem hi']
    exact g.sgn q hq' _ (List.getElem_mem _)
theorem GM.flip {M : List (List Nat)} {w h : Nat} (g : GM M w h) : GM (flipM M) w h := by
  refine ⟨by simp [flipM, g.len], g.h1, g.h7, g.w1, g.w7, fun r hr => ?_, fun r hr c hc => ?_⟩
  · obtain ⟨q, hq, rfl⟩ := List.mem_map.mp hr
    rw [List.length_reverse]
    exact g.row q hq
  · obtain ⟨q, hq, rfl⟩ := List.mem_map.mp hr
    exact g.sgn q hq c (List.mem_reverse.mp hc)
theorem GM.cut {M : List (List Nat)} {w h : Nat} (g : GM M w h) {left top wide high : Nat} (h1 : 1 ≤ wide) (h2 : 1 ≤ high) (h3 : left + wide ≤ w) (h4 : top + high ≤ h) : GM (cutM M left top wide high) wide high := by
  have hl := g.len
  have a := g.h7
  have b := g.w7
  refine ⟨by simp [cutM]; omega, h2, by omega, h1, by omega, fun r hr => ?_, fun r hr c hc => ?_⟩
  · obtain ⟨q, hq, rfl⟩ := List.mem_map.mp hr
    have := g.row q (List.mem_of_mem_drop (List.mem_of_mem_take hq))
    simp
    omega
  · obtain ⟨q, hq, rfl⟩ := List.mem_map.mp hr
    exact g.sgn q (List.mem_of_mem_drop (List.mem_of_mem_take hq)) c (List.mem_of_mem_drop (List.mem_of_mem_take hc))
theorem GM.frame {M : List (List Nat)} {w h : Nat} (g : GM M w h) (h5 : h ≤ 5) (w5 : w ≤ 5) : GM (frameM M w) (w + 2) (h + 2) := by
  have hl := g.len
  refine ⟨by simp [frameM, hl], by omega, by omega, by omega, by omega, fun r hr => ?_, fun r hr c hc => ?_⟩
  · simp only [frameM, List.mem_append, List.mem_singleton, List.mem_map] at hr
    rcases hr with (rfl | ⟨q, hq, rfl⟩) | rfl
    · simp
    · have := g.row q hq
      simp
      omega
    · simp
  · simp only [frameM, List.mem_append, List.mem_singleton, List.mem_map] at hr
    rcases hr with (rfl | ⟨q, hq, rfl⟩) | rfl
    · have := List.eq_of_mem_replicate hc
      omega
    · simp only [List.mem_append, List.mem_singleton] at hc
      rcases hc with (rfl | hc) | rfl
      · omega
      · exact g.sgn q hq c hc
      · omega
    · have := List.eq_of_mem_replicate hc
      omega
structure Mg (Γ : Nat → Option Fn) : Prop where
  h57 : Γ 57 = some f57
  h58 : Γ 58 = some f58
  h59 : Γ 59 = some f59
  h60 : Γ 60 = some f60
  h61 : Γ 61 = some f61
  h62 : Γ 62 = some f62
theorem rotated_ok (m : Mp gv Γ) (q : Mg Γ) {M : List (List Nat)} {w h : Nat} (g : GM M w h) : callN gv tv Γ (k + 3) 57 [.d (mapD M)] st = .ok (.d (mapD (rotM M w))) st := by
  rw [call_of q.h57 _ ⟨rfl, by decide⟩]
  obtain ⟨r, e1, e2⟩ := g.top
  have hw7 := g.w7
  have hh7 := g.h7
  have nm := need_ok (tv := tv) (k := k) (st := st) m g
  have inner : ∀ (i : Nat), i < w → ∀ s2, evE gv tv (callN gv tv Γ (k + 2)) (.comp [2] (.idx (.var 2) (.var 1)) (.name 2) (.seq (.rev (.var 0)))) [.v (.d (mapD M)), .v (.d (.int (i : Nat))), s2] st = .ok (.d (.list (M.reverse.map fun r => tx [r.getD i 0]))) st := fun i hi s2 =>
    e_map (l := M.reverse) (enc := tx) (fun r => tx [r.getD i 0]) (by simp [mapD, revD, seqD]) fun r hr => by
      have hl := g.row r (List.mem_reverse.mp hr)
      have := idx_tx (l := r) (i := i) (c := r.getD i 0) (by rw [List.getD_eq_getElem?_getD, List.getElem?_eq_getElem (by omega)]; rfl) (g.rl (List.mem_reverse.mp hr))
      exact ⟨_, rfl, by simp [this]⟩
  have outer := e_map (gv := gv) (tv := tv) (cf := callN gv tv Γ (k + 2)) (own := [1]) (elt := .smt .join (.con (tx [])) (.comp [2] (.idx (.var 2) (.var 1)) (.name 2) (.seq (.rev (.var 0))))) (t := .name 1) (it := .rng1 (.bi .len (.cons (.idx (.var 0) (.con (.int 0))) .nil)))
    (ρ := [.v (.d (mapD M)), .un, .un]) (st := st) (l := List.range w) (enc := fun (k : Nat) => PyData.int (k : Nat)) (fun i => tx (M.reverse.map fun r => r.getD i 0))
    (by simp [biD, e1, e2, rngOk0 (n := w) (by omega), rng0]) fun i hi => by
      have a := inner i (List.mem_range.mp hi) .un
      have b := join_signs (l := M.reverse.map fun r => r.getD i 0) (by rw [List.length_map, List.length_reverse, g.len]; unfold lim; omega)
      rw [List.map_map] at b
      have c : (M.reverse.map ((fun c => tx [c]) ∘ fun r => r.getD i 0)) = M.reverse.map fun r => tx [r.getD i 0] := rfl
      rw [c] at b
      refine ⟨_, rfl, ?_⟩
      clear inner c
      show evE gv tv (callN gv tv Γ (k + 2)) _ [.v (.d (mapD M)), .v (.d (.int (i : Nat))), .un] st = .ok (.d (tx (M.reverse.map fun r => r.getD i 0))) st
      generalize (M.reverse.map fun r => tx [r.getD i 0]) = L1 at *
      generalize (M.reverse.map fun r => r.getD i 0) = L2 at *
      simp [a, mtD, b]
  have fin : PyData.tuple ((List.range w).map fun i => tx (M.reverse.map fun r => r.getD i 0)) = mapD (rotM M w) := by
    unfold mapD rotM
    rw [List.map_map]
    rfl
  rw [← fin]
  simp [f57, start0, nm, outer, biD, tupleD]
theorem flipped_ok (m : Mp gv Γ) (q : Mg Γ) {M : List (List Nat)} {w h : Nat} (g : GM M w h) : callN gv tv Γ (k + 3) 59 [.d (mapD M)] st = .ok (.d (mapD (flipM M))) st := by
  rw [call_of q.h59 _ ⟨rfl, by decide⟩]
  have nm := need_ok (tv := tv) (k := k) (st := st) m g
  have row := e_map (gv := gv) (tv := tv) (cf := callN gv tv Γ (k + 2)) (own := [1]) (elt := .rev (.var 1)) (t := .name 1) (it := .seq (.var 0)) (ρ := [.v (.d (mapD M)), .un]) (st := st) (l := M) (enc := tx) (fun r => tx r.reverse) (by simp [mapD, seqD]) fun r hr => by
    have := g.rl hr
    exact ⟨_, rfl, by simp [revD, this]⟩
  have fin : PyData.tuple (M.map fun r => tx r.reverse) = mapD (flipM M) := by
    unfold mapD flipM
    rw [List.map_map]
    rfl
  rw [← fin]
  simp [f59, start0, nm, row, biD, tupleD]
theorem rotated_cell_ok (m : Mp gv Γ) (q : Mg Γ) {M : List (List Nat)} {w h : Nat} (g : GM M w h) (x y : Nat) (hx : x < w) (hy : y < h) : callN gv tv Γ (k + 4) 58 [.d (mapD M), .d (cellD (x, y))] st = .ok (.d (cellD (h - 1 - y, x))) st := by
  rw [call_of q.h58 _ ⟨rfl, by decide⟩]
  have nm := need_ok (tv := tv) (k := k + 1) (st := st) m g
  have nc := need_cell_ok (tv := tv) (k := k) (st := st) m g x y hx hy
  have e3 := g.high
  have i0 : idxD (cellD (x, y)) (.int 0) = some (.int (x : Nat)) := rfl
  have i1 : idxD (cellD (x, y)) (.int 1) = some (.int (y : Nat)) := rfl
  have s1 := sub_ok h 1
  have s2 := sub_ok ((h : Int) - 1) y
  have e : (h : Int) - 1 - (y : Nat) = ((h - 1 - y : Nat) : Int) := by omega
  rw [e] at s2
  generalize hM : mapD M = MM at *
  generalize (h : Int) - 1 = h1 at *
  generalize h - 1 - y = hy1 at *
  simp [f58, start0, nm, nc, biD, e3, i0, i1, s1, s2]
theorem clip_nat {n a : Nat} (h : a ≤ n) : clip n (a : Int) = a := by
  unfold clip
  rw [if_neg (by omega)]
  omega
theorem cutO_nat {α : Type} {xs : List α} {a n : Nat} (h : a + n ≤ xs.length) : cutO xs (some (a : Int)) (some ((a : Int) + (n : Int))) = (xs.drop a).take n := by
  have e : ((a : Int) + (n : Int)) = ((a + n : Nat) : Int) := by omega
  rw [e]
  show ((xs.drop (clip xs.length (a : Int))).take (clip xs.length ((a + n : Nat) : Int) - clip xs.length (a : Int))) = _
  rw [clip_nat (by omega), clip_nat (by omega), Nat.add_sub_cancel_left]
theorem cut_tx {r : List Nat} {a n : Nat} (h : a + n ≤ r.length) (hl : r.length ≤ lim) : cutD (tx r) (some (a : Int)) (some ((a : Int) + (n : Int))) = some (tx ((r.drop a).take n)) := by
  simp only [cutD, tx_cps]
  rw [if_pos hl, cutO_nat h]
theorem cut_map {M : List (List Nat)} {a n : Nat} (h : a + n ≤ M.length) : cutD (mapD M) (some (a : Int)) (some ((a : Int) + (n : Int))) = some (.tuple (((M.drop a).take n).map tx)) := by
  simp only [mapD, cutD]
  rw [cutO_nat (by simpa using h), ← List.map_drop, ← List.map_take]
theorem cut_out_ok (m : Mp gv Γ) (q : Mg Γ) {M : List (List Nat)} {w h : Nat} (g : GM M w h) {left top wide high : Nat} (h1 : 1 ≤ wide) (h2 : 1 ≤ high) (h3 : left + wide ≤ w) (h4 : top + high ≤ h) :
    callN gv tv Γ (k + 3) 60 [.d (mapD M), .d (.int (left : Nat)), .d (.int (top : Nat)), .d (.int (wide : Nat)), .d (.int (high : Nat))] st = .ok (.d (mapD (cutM M left top wide high))) st := by
  rw [call_of q.h60 _ ⟨rfl, by decide⟩]
  obtain ⟨r, e1, e2⟩ := g.top
  have e3 := g.high
  have nm := need_ok (tv := tv) (k := k) (st := st) m g
  have c1 := is_whole_yes (gv := gv) (tv := tv) (k := k + 1) (st := st) m.h0 (i := left) (lo := 0) (hi := (w : Int) - 1) (by omega) (by omega)
  have c2 := is_whole_yes (gv := gv) (tv := tv) (k := k + 1) (st := st) m.h0 (i := top) (lo := 0) (hi := (h : Int) - 1) (by omega) (by omega)
  have c3 := is_whole_yes (gv := gv) (tv := tv) (k := k + 1) (st := st) m.h0 (i := wide) (lo := 1) (hi := (w : Int) - left) (by omega) (by omega)
  have c4 := is_whole_yes (gv := gv) (tv := tv) (k := k + 1) (st := st) m.h0 (i := high) (lo := 1) (hi := (h : Int) - top) (by omega) (by omega)
  have s1 := sub_ok w 1
  have s2 := sub_ok h 1
  have s3 := sub_ok w left
  have s4 := sub_ok h top
  have a1 := add_ok left wide
  have a2 := add_ok top high
  have cm := cut_map (M := M) (a := top) (n := high) (by rw [g.len]; exact h4)
  have row := e_map (gv := gv) (tv := tv) (cf := callN gv tv Γ (k + 2)) (own := [5]) (elt := .slc (.var 5) (.var 1) (.bin .add (.var 1) (.var 3))) (t := .name 5) (it := .seq (.slc (.var 0) (.var 2) (.bin .add (.var 2) (.var 4))))
    (ρ := [.v (.d (mapD M)), .v (.d (.int (left : Nat))), .v (.d (.int (top : Nat))), .v (.d (.int (wide : Nat))), .v (.d (.int (high : Nat))), .un]) (st := st) (l := (M.drop top).take high) (enc := tx) (fun r => tx ((r.drop left).take wide))
    (by
      clear s1 s2 s3 s4 a1 c1 c2 c3 c4 nm
      generalize (top : Int) + (high : Int) = z at *
      simp [a2, cm, seqD]) fun r hr => by
      have hm : r ∈ M := List.mem_of_mem_drop (List.mem_of_mem_take hr)
      have hl := g.row r hm
      have ct := cut_tx (r := r) (a := left) (n := wide) (by omega) (g.rl hm)
      refine ⟨_, rfl, ?_⟩
      clear s1 s2 s3 s4 a2 cm c1 c2 c3 c4 nm
      generalize (left : Int) + (wide : Int) = z at *
      simp [a1, ct]
  have fin : PyData.tuple (((M.drop top).take high).map fun r => tx ((r.drop left).take wide)) = mapD (cutM M left top wide high) := by
    unfold mapD cutM
    rw [List.map_map]
    rfl
  rw [← fin]
  generalize ((M.drop top).take high).map (fun r => tx ((r.drop left).take wide)) = R at *
  clear fin cm a1 a2
  generalize hM : mapD M = MM at *
  generalize (w : Int) - 1 = z1 at *
  generalize (h : Int) - 1 = z2 at *
  generalize (w : Int) - (left : Int) = z3 at *
  generalize (h : Int) - (top : Int) = z4 at *
  simp [f60, start0, nm, biD, e1, e2, e3, s1, s2, s3, s4, c1, c2, c3, c4, row, tupleD]
theorem mul_sign {c n : Nat} (hn : n ≤ 1000) : binD .mul (tx [c]) (.int (n : Nat)) = some (tx (List.replicate n c)) := by
  have e : (List.replicate n [c]).flatten = List.replicate n c := by
    induction n with
    | zero => rfl
    | succ n ih => rw [List.replicate_succ, List.flatten_cons, ih (by omega), List.replicate_succ]; rfl
  simp only [binD, tx_cps]
  rw [if_pos ⟨by omega, by omega, by simp; omega⟩, Int.toNat_natCast, e]
theorem framed_ok (m : Mp gv Γ) (q : Mg Γ) {M : List (List Nat)} {w h : Nat} (g : GM M w h) (h5 : h ≤ 5) (w5 : w ≤ 5) : callN gv tv Γ (k + 3) 61 [.d (mapD M)] st = .ok (.d (mapD (frameM M w))) st := by
  rw [call_of q.h61 _ ⟨rfl, by decide⟩]
  obtain ⟨r, e1, e2⟩ := g.top
  have e3 := g.high
  have nm := need_ok (tv := tv) (k := k) (st := st) m g
  have a1 := add_ok h 2
  have a2 := add_ok w 2
  have g1 : cmpD .gt (.int ((h : Int) + 2)) (.int 7) = some false := by simp [cmpD]; omega
  have g2 : cmpD .gt (.int ((w : Int) + 2)) (.int 7) = some false := by simp [cmpD]; omega
  have mw := mul_sign (c := 35) (n := w + 2) (by omega)
  rw [show ((w + 2 : Nat) : Int) = (w : Int) + 2 by omega] at mw
  have row := e_map (gv := gv) (tv := tv) (cf := callN gv tv Γ (k + 2)) (own := [2]) (elt := .bin .add (.bin .add (.con (tx [35])) (.var 2)) (.con (tx [35]))) (t := .name 2) (it := .seq (.var 0))
    (ρ := [.v (.d (mapD M)), .v (.d (tx (List.replicate (w + 2) 35))), .un]) (st := st) (l := M) (enc := tx) (fun r => tx ([35] ++ r ++ [35])) (by simp [mapD, seqD]) fun r hr => by
      have hl := g.row r hr
      have b1 : binD .add (tx [35]) (tx r) = some (tx ([35] ++ r)) := by
        simp only [binD, tx_cps]
        rw [if_pos (by simp [lim]; omega)]
      have b2 : binD .add (tx ([35] ++ r)) (tx [35]) = some (tx ([35] ++ r ++ [35])) := by
        simp only [binD, tx_cps]
        rw [if_pos (by simp [lim]; omega)]
      refine ⟨_, rfl, ?_⟩
      generalize [35] ++ r ++ [35] = r2 at *
      generalize [35] ++ r = r1 at *
      simp [b1, b2]
  have fin : binD .add (.tuple [tx (List.replicate (w + 2) 35)]) (.tuple (M.map fun r => tx ([35] ++ r ++ [35]))) = some (.tuple ([tx (List.replicate (w + 2) 35)] ++ M.map fun r => tx ([35] ++ r ++ [35]))) := by
    have := g.len
    simp only [binD]
    rw [if_pos (by simp [lim]; omega)]
  have fin2 : binD .add (.tuple ([tx (List.replicate (w + 2) 35)] ++ M.map fun r => tx ([35] ++ r ++ [35]))) (.tuple [tx (List.replicate (w + 2) 35)]) = some (mapD (frameM M w)) := by
    have := g.len
    simp only [binD]
    rw [if_pos (by simp [lim]; omega)]
    unfold mapD frameM
    rw [List.map_append, List.map_append, List.map_map]
    rfl
  generalize hR : (M.map fun r => tx ([35] ++ r ++ [35])) = R at *
  generalize hM : mapD M = MM at *
  generalize mapD (frameM M w) = FF at *
  generalize [tx (List.replicate (w + 2) 35)] ++ R = R2 at *
  generalize tx (List.replicate (w + 2) 35) = W at *
  generalize (h : Int) + 2 = z1 at *
  generalize (w : Int) + 2 = z2 at *
  simp [f61, start0, nm, biD, e1, e2, e3, a1, a2, m.g0, g1, g2, mw, setS, row, tupleD, fin, fin2]
theorem count_tx {l : List Nat} {c : Nat} (h : l.length ≤ lim) : countD (tx l) (tx [c]) = some (.int (l.count c : Nat)) := by simp [countD, h]
theorem counted_ok (m : Mp gv Γ) (q : Mg Γ) {M : List (List Nat)} {w h : Nat} (g : GM M w h) : callN gv tv Γ (k + 3) 62 [.d (mapD M)] st = .ok (.d (.tuple ([46, 35, 61, 43, 47].map fun c => PyData.int (M.flatten.count c : Nat)))) st := by
  rw [call_of q.h62 _ ⟨rfl, by decide⟩]
  have nm := need_ok (tv := tv) (k := k) (st := st) m g
  have hf := g.flat
  have hf' : M.flatten.length ≤ lim := by unfold lim; omega
  have jr := join_rows hf'
  have ct := fun c => count_tx (c := c) hf'
  have li : listD (mapD M) = some (.list (M.map tx)) := rfl
  generalize M.flatten = F at *
  generalize hR : M.map tx = R at *
  have row := e_map (gv := gv) (tv := tv) (cf := callN gv tv Γ (k + 2)) (own := [2]) (elt := .smt .count (.var 1) (.var 2)) (t := .name 2) (it := .seq (.con (tx [46, 35, 61, 43, 47])))
    (ρ := [.v (.d (mapD M)), .v (.d (tx F)), .un]) (st := st) (l := [46, 35, 61, 43, 47]) (enc := fun c => tx [c]) (fun c => PyData.int (F.count c : Nat)) (by simp [seqD, charsD, lim]) fun c hc => by
      have := ct c
      refine ⟨_, rfl, ?_⟩
      generalize F.count c = z at *
      simp [mtD, this]
  generalize hM : mapD M = MM at *
  generalize ([46, 35, 61, 43, 47].map fun c => PyData.int (F.count c : Nat)) = R2 at *
  simp [f62, start0, nm, biD, li, mtD, jr, setS, row, tupleD]
end Ip
/-! Pd: what the laws k19 to k40 share: draws, picks, maps, cells. -/
namespace Ip
open PySem
/-- _law_cell_at(_law_script, _law_k): 0 _law_script, 1 _law_k -/
def q0 : Fn := ⟨2, 2, (.cons (.ifs (.cmp .lt (.var 1) (.lenS 0)) (.cons (.ret (.idxS 0 (.var 1))) .nil) .nil) (.cons (.ifs (.nilS 0) (.cons (.ret (.con (.int 0))) .nil) .nil) (.cons (.ret (.bin .add (.bin .mul (.idxS 0 (.bin .mod (.var 1) (.lenS 0))) (.con (.int 31))) (.var 1))) .nil)))⟩
/-- _law_mixed(_law_script, _law_k, _law_many): 0 _law_script, 1 _law_k, 2 _law_many, 3 _law_drawn -/
def q1 : Fn := ⟨3, 4, (.cons (.set 3 (.bin .mod (.bin .add (.bin .add (.bin .mul (.call 1000 (.cons (.var 0) (.cons (.var 1) .nil))) (.con (.int 1103515245))) (.bin .mul (.con (.int 7919)) (.var 1))) (.con (.int 12345))) (.con (.int 2147483647)))) (.cons (.ret (.bin .mod (.bin .mod (.bin .mod (.bin .pow (.var 3) (.con (.int 5))) (.con (.int 2147483647))) (.con (.int 999983))) (.var 2))) .nil))⟩
/-- _law_draw(_law_script, _law_town, _law_many): 0 _law_script, 1 _law_town, 2 _law_many -/
def q2 : Fn := ⟨3, 3, (.cons (.appendL 1 (.con (.int 0))) (.cons (.ret (.call 1001 (.cons (.var 0) (.cons (.lenL 1) (.cons (.var 2) .nil))))) .nil))⟩
/-- _law_pick(_law_script, _law_town, _law_some): 0 _law_script, 1 _law_town, 2 _law_some -/
def q3 : Fn := ⟨3, 3, (.cons (.ret (.idx (.var 2) (.call 1002 (.cons (.var 0) (.cons (.var 1) (.cons (.bi .len (.cons (.var 2) .nil)) .nil)))))) .nil)⟩
/-- _law_map(_law_script, _law_town, _law_most): 0 _law_script, 1 _law_town, 2 _law_most, 3 _law_wide, 4 _law_high, 5 _law_signs, 6 _law_top, 7 _law_left -/
def q4 : Fn := ⟨3, 8, (.cons (.asg (.tup (.cons (.name 3) (.cons (.name 4) .nil))) (.tup (.cons (.bin .add (.con (.int 1)) (.call 1002 (.cons (.var 0) (.cons (.var 1) (.cons (.var 2) .nil))))) (.cons (.bin .add (.con (.int 1)) (.call 1002 (.cons (.var 0) (.cons (.var 1) (.cons (.var 2) .nil))))) .nil)))) (.cons (.set 5 (.call 1003 (.cons (.var 0) (.cons (.var 1) (.cons (.lst (.cons (.con (tx [46, 46, 46, 46, 35])) (.cons (.con (tx [46, 46, 35, 61, 43, 47])) (.cons (.con (tx [46, 46, 46, 35, 47])) (.cons (.con (tx [46, 35])) (.cons (.con (tx [46, 43, 47, 61])) .nil)))))) .nil))))) (.cons (.ret (.bi .tuple (.cons (.comp [6] (.smt .join (.con (tx [])) (.comp [7] (.call 1003 (.cons (.var 0) (.cons (.var 1) (.cons (.bi .list (.cons (.var 5) .nil)) .nil)))) (.name 7) (.rng1 (.var 3)))) (.name 6) (.rng1 (.var 4))) .nil))) .nil)))⟩
/-- _law_cells(_law_some): 0 _law_some, 1 _law_made, 2 _law_left, 3 _law_top -/
def q5 : Fn := ⟨1, 4, (.cons (.own 1 (.lst .nil)) (.cons (.fors (.name 2) (.rng1 (.bi .len (.cons (.idx (.var 0) (.con (.int 0))) .nil))) (.cons (.extend 1 (.comp [3] (.tup (.cons (.var 2) (.cons (.var 3) .nil))) (.name 3) (.rng1 (.bi .len (.cons (.var 0) .nil))))) .nil)) (.cons (.keep 1) (.cons (.ret (.var 1)) .nil))))⟩
/-- _law_sign(_law_some, _law_cell): 0 _law_some, 1 _law_cell -/
def q6 : Fn := ⟨2, 2, (.cons (.ret (.idx (.idx (.var 0) (.idx (.var 1) (.con (.int 1)))) (.idx (.var 1) (.con (.int 0))))) .nil)⟩
/-- _law_floors(_law_some): 0 _law_some, 1 _law_cell -/
def q7 : Fn := ⟨1, 2, (.cons (.ret (.compIf [1] (.var 1) (.name 1) (.seq (.call 1005 (.cons (.var 0) .nil))) (.cmp .isin (.call 1006 (.cons (.var 0) (.cons (.var 1) .nil))) (.con (tx [46, 47]))))) .nil)⟩
/-- _law_near(_law_some, _law_cell): 0 _law_some, 1 _law_cell, 2 _law_x, 3 _law_y, 4 _law_other -/
def q8 : Fn := ⟨2, 5, (.cons (.asg (.tup (.cons (.name 2) (.cons (.name 3) .nil))) (.var 1)) (.cons (.ret (.compIf [4] (.var 4) (.name 4) (.seq (.tup (.cons (.tup (.cons (.bin .add (.var 2) (.con (.int 1))) (.cons (.var 3) .nil))) (.cons (.tup (.cons (.var 2) (.cons (.bin .sub (.var 3) (.con (.int 1))) .nil))) (.cons (.tup (.cons (.var 2) (.cons (.bin .add (.var 3) (.con (.int 1))) .nil))) (.cons (.tup (.cons (.bin .sub (.var 2) (.con (.int 1))) (.cons (.var 3) .nil))) .nil)))))) (.cmp .isin (.var 4) (.call 1007 (.cons (.var 0) .nil))))) .nil))⟩
variable {gv : Nat → Option D} {tv : Nat → List (D × D)} {Γ : Nat → Option Fn} {k : Nat}
/-- the town behind n draws -/
def town (n : Nat) : Store := [.lst (List.replicate n (.int 0))]
/-- the script's k-th number -/
def cellAt (ns : List Int) (k : Nat) : Int := if k < ns.length then ns.getD k 0 else if ns = [] then 0 else ns.getD (k % ns.length) 0 * 31 + k
theorem cell_at_ok (h : Γ 1000 = some q0) (ns : List Int) (j : Nat) {st : Store} : callN gv tv Γ (k + 1) 1000 [.scr ns, .d (.int j)] st = .ok (.d (.int (cellAt ns j))) st := by
  rw [call_of h _ ⟨rfl, by decide⟩]
  by_cases h1 : j < ns.length
  · have h1' : (j : Int) < (ns.length : Int) := by omega
    have h2 : ns[j]? = some (ns.getD j 0) := by rw [List.getD_eq_getElem?_getD, List.getElem?_eq_getElem h1]; rfl
    simp [q0, start0, cmpD, h1', ixZ_nat h1, h2, cellAt, h1]
  · have h1' : ¬ (j : Int) < (ns.length : Int) := by omega
    by_cases h3 : ns = []
    · subst h3
      have h1'' : ¬ (j : Int) < 0 := by omega
      simp [q0, start0, cmpD, h1'', cellAt]
    · have h4 : ns.length ≠ 0 := by simpa using h3
      have h5 : j % ns.length < ns.length := Nat.mod_lt _ (by omega)
      have h6 : (j : Int).fmod (ns.length : Int) = ((j % ns.length : Nat) : Int) := by
        rw [Int.fmod_eq_emod_of_nonneg _ (by omega)]
        exact (Int.natCast_emod ..).symm
      have h7 : ns[j % ns.length]? = some (ns.getD (j % ns.length) 0) := by rw [List.getD_eq_getElem?_getD, List.getElem?_eq_getElem h5]; rfl
      have h8 : ns.isEmpty = false := by simpa using h3
      have h9 : (ns.length : Int) ≠ 0 := by omega
      have b1 : binD .mod (.int j) (.int (ns.length : Nat)) = some (.int ((j % ns.length : Nat) : Int)) := by
        simp only [binD]
        rw [if_pos h9, h6]
      have b2 : binD .mul (.int (ns.getD (j % ns.length) 0)) (.int 31) = some (.int (ns.getD (j % ns.length) 0 * 31)) := mul_lit _ 31 rfl
      have b3 : binD .add (.int (ns.getD (j % ns.length) 0 * 31)) (.int j) = some (.int (ns.getD (j % ns.length) 0 * 31 + j)) := rfl
      have e1 : cellAt ns j = ns.getD (j % ns.length) 0 * 31 + j := by
        unfold cellAt
        rw [if_neg h1, if_neg h3]
      rw [e1]
      generalize ns.getD (j % ns.length) 0 = v at *
      generalize j % ns.length = jj at *
      simp [q0, start0, cmpD, h1', h8, b1, ixZ_nat h5, h7, b2, b3]
/-- a draw -/
def mixed (ns : List Int) (j : Nat) (m : Int) : Int := ((((((cellAt ns j * 1103515245 + 7919 * (j : Int)) + 12345).fmod 2147483647) ^ 5).fmod 2147483647).fmod 999983).fmod m
theorem mixed_ok (h0 : Γ 1000 = some q0) (h1 : Γ 1001 = some q1) (ns : List Int) (j : Nat) (m : Int) (hm : m ≠ 0) {st : Store} : callN gv tv Γ (k + 2) 1001 [.scr ns, .d (.int j), .d (.int m)] st = .ok (.d (.int (mixed ns j m))) st := by
  rw [call_of h1 _ ⟨rfl, by decide⟩]
  unfold mixed
  have a1 := mul_lit (cellAt ns j) 1103515245 rfl
  have a2 := lit_mul 7919 j rfl
  generalize cellAt ns j * 1103515245 = x1 at *
  generalize 7919 * (j : Int) = x2 at *
  have a3 := add_ok x1 x2
  generalize x1 + x2 = x3 at *
  have a4 := add_ok x3 12345
  generalize x3 + 12345 = x4 at *
  have a5 := mod_ok x4 2147483647 (by decide)
  have b1 : 0 ≤ x4.fmod 2147483647 := Int.fmod_nonneg_of_pos _ (by omega)
  have b2 : x4.fmod 2147483647 < 2147483647 := Int.fmod_lt_of_pos _ (by omega)
  generalize x4.fmod 2147483647 = x5 at *
  have a6 : binD .pow (.int x5) (.int 5) = some (.int (x5 ^ 5)) := by
    simp only [binD]
    rw [if_pos ⟨by decide, by decide, by omega⟩]
    rfl
  generalize x5 ^ 5 = x6 at *
  have a7 := mod_ok x6 2147483647 (by decide)
  generalize x6.fmod 2147483647 = x7 at *
  have a8 := mod_ok x7 999983 (by decide)
  generalize x7.fmod 999983 = x8 at *
  have a9 := mod_ok x8 m hm
  generalize x8.fmod m = x9 at *
  simp [q1, start0, cell_at_ok h0, setS, a1, a2, a3, a4, a5, a6, a7, a8, a9]
theorem mixed_range (ns : List Int) (j : Nat) {m : Int} (hm : 0 < m) : 0 ≤ mixed ns j m ∧ mixed ns j m < m := ⟨Int.fmod_nonneg_of_pos _ hm, Int.fmod_lt_of_pos _ hm⟩
theorem draw_ok (h0 : Γ 1000 = some q0) (h1 : Γ 1001 = some q1) (h2 : Γ 1002 = some q2) (ns : List Int) (n : Nat) (hn : n < lim) (m : Int) (hm : m ≠ 0) : callN gv tv Γ (k + 3) 1002 [.scr ns, .loc 0, .d (.int m)] (town n) = .ok (.d (.int (mixed ns (n + 1) m))) (town (n + 1)) := by
  rw [call_of h2 _ ⟨rfl, by decide⟩]
  have e : town (n + 1) = [.lst (List.replicate n (.int 0) ++ [.int 0])] := by
    unfold town
    rw [List.replicate_succ']
  have hl : (List.replicate n (PyData.int 0)).length = n := List.length_replicate
  have hl2 : ((List.replicate n (PyData.int 0) ++ [PyData.int 0]).length : Int) = ((n + 1 : Nat) : Int) := by simp
  rw [e]
  unfold town
  generalize List.replicate n (PyData.int 0) = xs at *
  have hx : xs.length < lim := by omega
  have e2 := mixed_ok (gv := gv) (tv := tv) (k := k) h0 h1 ns (n + 1) m hm (st := [.lst (xs ++ [.int 0])])
  rw [← hl2] at e2
  generalize mixed ns (n + 1) m = v at *
  generalize hy : xs ++ [PyData.int 0] = ys at *
  simp [q2, start0, hx, hy, e2]
structure Dr (Γ : Nat → Option Fn) : Prop where
  h0 : Γ 1000 = some q0
  h1 : Γ 1001 = some q1
  h2 : Γ 1002 = some q2
  h3 : Γ 1003 = some q3
  h4 : Γ 1004 = some q4
  h5 : Γ 1005 = some q5
  h6 : Γ 1006 = some q6
  h7 : Γ 1007 = some q7
  h8 : Γ 1008 = some q8
/-- a pick from a list -/
def pickI (ns : List Int) (n : Nat) (len : Nat) : Nat := (mixed ns (n + 1) len).toNat
theorem pickI_lt (ns : List Int) (n : Nat) {len : Nat} (h : 0 < len) : pickI ns n len < len := by
  have := mixed_range ns (n + 1) (m := (len : Int)) (by omega)
  unfold pickI
  omega
theorem pickI_eq (ns : List Int) (n : Nat) {len : Nat} (h : 0 < len) : mixed ns (n + 1) len = ((pickI ns n len : Nat) : Int) := by
  have := mixed_range ns (n + 1) (m := (len : Int)) (by omega)
  unfold pickI
  omega
theorem pick_ok (d : Dr Γ) (ns : List Int) (n : Nat) (hn : n < lim) (xs : List D) {x : D} (hx : xs[pickI ns n xs.length]? = some x) : callN gv tv Γ (k + 4) 1003 [.scr ns, .loc 0, .d (.list xs)] (town n) = .ok (.d x) (town (n + 1)) := by
  rw [call_of d.h3 _ ⟨rfl, by decide⟩]
  have h0 : 0 < xs.length := by
    have := (List.getElem?_eq_some_iff.mp hx).1
    omega
  have e := draw_ok (gv := gv) (tv := tv) (k := k) d.h0 d.h1 d.h2 ns n hn xs.length (by omega)
  rw [pickI_eq ns n h0] at e
  have e2 := idx_list hx
  generalize pickI ns n xs.length = j at *
  simp [q3, start0, biD, lenD, e, e2]
theorem join_chars {l : List Nat} (h : l.length ≤ lim) : joinD (tx []) (.list (l.map fun c => tx [c])) = some (tx l) := by
  have e : (l.map fun c => tx [c]) = (l.map fun c => [c]).map tx := by rw [List.map_map]; rfl
  have e2 : (l.map fun c => [c]).flatten = l := by
    induction l with
    | nil => rfl
    | cons c l ih => simp at *; exact ih (by omega)
  rw [e, join_rows (by rw [e2]; exact h), e2]
/-- a sign drawn -/
def pickC (ns : List Int) (n : Nat) (l : List Nat) : Nat := l.getD (pickI ns n l.length) 0
theorem pickC_mem (ns : List Int) (n : Nat) {l : List Nat} (h : l ≠ []) : pickC ns n l ∈ l := by
  have h0 : 0 < l.length := by cases l <;> simp_all
  have := pickI_lt ns n h0
  unfold pickC
  rw [List.getD_eq_getElem?_getD, List.getElem?_eq_getElem this]
  exact List.getElem_mem _
theorem pick_chars (d : Dr Γ) (ns : List Int) (n : Nat) (hn : n < lim) {l : List Nat} (h : l ≠ []) : callN gv tv Γ (k + 4) 1003 [.scr ns, .loc 0, .d (.list (l.map fun c => tx [c]))] (town n) = .ok (.d (tx [pickC ns n l])) (town (n + 1)) := by
  have h0 : 0 < l.length := by cases l <;> simp_all
  have h1 := pickI_lt ns n h0
  refine pick_ok d ns n hn _ ?_
  rw [List.length_map, List.getElem?_map, List.getElem?_eq_getElem h1]
  unfold pickC
  rw [List.getD_eq_getElem?_getD, List.getElem?_eq_getElem h1]
  rfl
def mapRow (ns : List Int) (n w : Nat) (l : List Nat) : List Nat := (List.range w).map fun i => pickC ns (n + i) l
def mapM (ns : List Int) (n w h : Nat) (l : List Nat) : List (List Nat) := (List.range h).map fun j => mapRow ns (n + j * w) w l
def signRows : List (List Nat) := [[46, 46, 46, 46, 35], [46, 46, 35, 61, 43, 47], [46, 46, 46, 35, 47], [46, 35], [46, 43, 47, 61]]
theorem rng_get {n j : Nat} {x : D} (h : ((List.range n).map fun (k : Nat) => PyData.int (k : Nat))[j]? = some x) : j < n ∧ x = .int (j : Nat) := by
  rw [List.getElem?_map, Option.map_eq_some_iff] at h
  obtain ⟨i, hi, rfl⟩ := h
  have h1 := (List.getElem?_eq_some_iff.mp hi).1
  rw [List.length_range] at h1
  rw [List.getElem?_range h1] at hi
  cases hi
  exact ⟨h1, rfl⟩
theorem map_row_ok (d : Dr Γ) (ns : List Int) (m w : Nat) (hm : m ≤ 200000) (hw : w ≤ 7) {l : List Nat} (hl : l ≠ []) (hlen : l.length ≤ lim) (v2 v4 s6 s7 : Slot) :
    evE gv tv (callN gv tv Γ (k + 4)) (.smt .join (.con (tx [])) (.comp [7] (.call 1003 (.cons (.var 0) (.cons (.var 1) (.cons (.bi .list (.cons (.var 5) .nil)) .nil)))) (.name 7) (.rng1 (.var 3))))
      [.v (.scr ns), .v (.loc 0), v2, .v (.d (.int (w : Nat))), v4, .v (.d (tx l)), s6, s7] (town m) = .ok (.d (tx (mapRow ns m w l))) (town (m + w)) := by
  have hlim : (lim : Nat) = 16777216 := rfl
  have e := e_go (gv := gv) (tv := tv) (cf := callN gv tv Γ (k + 4)) (own := [7]) (elt := .call 1003 (.cons (.var 0) (.cons (.var 1) (.cons (.bi .list (.cons (.var 5) .nil)) .nil)))) (t := .name 7) (it := .rng1 (.var 3))
    (ρ := [.v (.scr ns), .v (.loc 0), v2, .v (.d (.int (w : Nat))), v4, .v (.d (tx l)), s6, s7]) (xs := (List.range w).map fun (k : Nat) => PyData.int (k : Nat)) (fun j => town (m + j)) (fun j => tx [pickC ns (m + j) l])
    (by simp [rngOk0 (n := w) (by omega), rng0]) (fun j x hj => by
      obtain ⟨h1, rfl⟩ := rng_get hj
      refine ⟨_, rfl, ?_⟩
      have e1 := pick_chars (gv := gv) (tv := tv) (k := k) d ns (m + j) (by omega) hl
      have e2 : listD (tx l) = some (.list (l.map fun c => tx [c])) := by simp [listD, hlen, charsD]
      simp [biD, e2, e1]
      rfl)
  rw [List.length_map, List.length_range] at e
  have e' : evE gv tv (callN gv tv Γ (k + 4)) (.comp [7] (.call 1003 (.cons (.var 0) (.cons (.var 1) (.cons (.bi .list (.cons (.var 5) .nil)) .nil)))) (.name 7) (.rng1 (.var 3))) [.v (.scr ns), .v (.loc 0), v2, .v (.d (.int (w : Nat))), v4, .v (.d (tx l)), s6, s7] (town m) = .ok (.d (.list ((mapRow ns m w l).map fun c => tx [c]))) (town (m + w)) := by
    rw [show town m = (fun j => town (m + j)) 0 from rfl, e]
    unfold mapRow
    rw [List.map_map]
    rfl
  have ej := join_chars (l := mapRow ns m w l) (by rw [mapRow, List.length_map, List.length_range]; omega)
  simp [e', mtD, ej]
theorem law_map_ok (d : Dr Γ) (ns : List Int) (n : Nat) (hn : n ≤ 100000) (most : Nat) (h1 : 1 ≤ most) (h7 : most ≤ 7) : ∃ M w h n', GM M w h ∧ w ≤ most ∧ h ≤ most ∧ n' ≤ n + 100 ∧
    callN gv tv Γ (k + 5) 1004 [.scr ns, .loc 0, .d (.int (most : Nat))] (town n) = .ok (.d (mapD M)) (town n') := by
  have hlim : (lim : Nat) = 16777216 := rfl
  have c1 := draw_ok (gv := gv) (tv := tv) (k := k + 1) d.h0 d.h1 d.h2 ns n (by omega) (most : Nat) (by omega)
  have c2 := draw_ok (gv := gv) (tv := tv) (k := k + 1) d.h0 d.h1 d.h2 ns (n + 1) (by omega) (most : Nat) (by omega)
  have r1 := mixed_range ns (n + 1) (m := (most : Nat)) (by omega)
  have r2 := mixed_range ns (n + 2) (m := (most : Nat)) (by omega)
  obtain ⟨w, hw⟩ : ∃ w : Nat, 1 + mixed ns (n + 1) (most : Nat) = (w : Int) := ⟨(1 + mixed ns (n + 1) (most : Nat)).toNat, by omega⟩
  obtain ⟨h, hh⟩ : ∃ h : Nat, 1 + mixed ns (n + 2) (most : Nat) = (h : Int) := ⟨(1 + mixed ns (n + 2) (most : Nat)).toNat, by omega⟩
  have hp := pickI_lt ns (n + 2) (len := 5) (by omega)
  obtain ⟨l, hl⟩ : ∃ l, signRows[pickI ns (n + 2) 5]? = some l := ⟨_, List.getElem?_eq_getElem (by show _ < 5; exact hp)⟩
  have hlm := List.mem_of_getElem? hl
  have hlne : l ≠ [] := by
    intro e
    subst e
    simp [signRows] at hlm
  have hlen : l.length ≤ lim := by
    simp only [signRows, List.mem_cons, List.not_mem_nil, or_false] at hlm
    rcases hlm with rfl | rfl | rfl | rfl | rfl <;> decide
  have c3 := pick_ok (gv := gv) (tv := tv) (k := k) d ns (n + 2) (by omega) (signRows.map tx) (x := tx l) (by
    show (signRows.map tx)[pickI ns (n + 2) 5]? = _
    rw [List.getElem?_map, hl]
    rfl)
  have hw7 : w ≤ 7 := by omega
  have hh7 : h ≤ 7 := by omega
  refine ⟨mapM ns (n + 3) w h l, w, h, n + 3 + h * w, ?_, by omega, by omega, ?_, ?_⟩
  · refine ⟨by simp [mapM], by omega, hh7, by omega, hw7, fun r hr => ?_, fun r hr c hc => ?_⟩
    · obtain ⟨j, _, rfl⟩ := List.mem_map.mp hr
      simp [mapRow]
    · obtain ⟨j, _, rfl⟩ := List.mem_map.mp hr
      obtain ⟨i, _, rfl⟩ := List.mem_map.mp hc
      have := pickC_mem ns (n + 3 + j * w + i) hlne
      revert this
      generalize pickC ns (n + 3 + j * w + i) l = x
      intro hx
      simp only [signRows, List.mem_cons, List.not_mem_nil, or_false] at hlm
      rcases hlm with rfl | rfl | rfl | rfl | rfl <;> simp only [List.mem_cons, List.not_mem_nil, or_false] at hx <;> omega
  · have := Nat.mul_le_mul hh7 hw7
    omega
  · have e := e_go (gv := gv) (tv := tv) (cf := callN gv tv Γ (k + 4)) (own := [6]) (elt := .smt .join (.con (tx [])) (.comp [7] (.call 1003 (.cons (.var 0) (.cons (.var 1) (.cons (.bi .list (.cons (.var 5) .nil)) .nil)))) (.name 7) (.rng1 (.var 3)))) (t := .name 6) (it := .rng1 (.var 4))
      (ρ := [.v (.scr ns), .v (.loc 0), .v (.d (.int (most : Nat))), .v (.d (.int (w : Nat))), .v (.d (.int (h : Nat))), .v (.d (tx l)), .un, .un]) (xs := (List.range h).map fun (k : Nat) => PyData.int (k : Nat)) (fun j => town (n + 3 + j * w)) (fun j => tx (mapRow ns (n + 3 + j * w) w l))
      (by simp [rngOk0 (n := h) (by omega), rng0]) (fun j x hj => by
        obtain ⟨hj1, rfl⟩ := rng_get hj
        refine ⟨_, rfl, ?_⟩
        have hb : j * w ≤ 7 * 7 := Nat.mul_le_mul (by omega) hw7
        have e1 := map_row_ok (gv := gv) (tv := tv) (k := k) d ns (n + 3 + j * w) w (by omega) hw7 hlne hlen (.v (.d (.int (most : Nat)))) (.v (.d (.int (h : Nat)))) (.v (.d (.int (j : Nat)))) .un
        rw [show n + 3 + j * w + w = n + 3 + (j + 1) * w by rw [Nat.add_mul]; omega] at e1
        exact e1)
    rw [List.length_map, List.length_range] at e
    have e0 : n + 3 + 0 * w = n + 3 := by omega
    rw [e0] at e
    rw [call_of d.h4 _ ⟨rfl, by decide⟩]
    have er : (signRows.map tx) = [tx [46, 46, 46, 46, 35], tx [46, 46, 35, 61, 43, 47], tx [46, 46, 46, 35, 47], tx [46, 35], tx [46, 43, 47, 61]] := rfl
    rw [er] at c3
    have em : mapD (mapM ns (n + 3) w h l) = .tuple ((List.range h).map fun j => tx (mapRow ns (n + 3 + j * w) w l)) := by
      unfold mapD mapM
      rw [List.map_map]
      rfl
    rw [em]
    generalize mapD (mapM ns (n + 3) w h l) = MM at *
    generalize mixed ns (n + 1) (most : Nat) = x1 at *
    generalize mixed ns (n + 2) (most : Nat) = x2 at *
    have a1 := add_ok 1 x1
    have a2 := add_ok 1 x2
    rw [hw] at a1
    rw [hh] at a2
    have c3' : callN gv tv Γ (k + 4) 1003 [.scr ns, .loc 0, .d (.list [tx [46, 46, 46, 46, 35], tx [46, 46, 35, 61, 43, 47], tx [46, 46, 46, 35, 47], tx [46, 35], tx [46, 43, 47, 61]])] (town (n + 1 + 1)) = .ok (.d (tx l)) (town (n + 3)) := c3
    simp [q4, start0, c1, c2, a1, a2, Tg.put, Tgs.puts, setS, c3', e, biD, tupleD]
/-- all cells, rising -/
def colsM (h j : Nat) : List (Nat × Nat) := (List.range j).flatMap fun x => (List.range h).map fun y => (x, y)
theorem colsM_succ (h j : Nat) : colsM h (j + 1) = colsM h j ++ (List.range h).map fun y => (j, y) := by
  unfold colsM
  rw [List.range_succ, List.flatMap_append]
  simp
theorem colsM_len (h : Nat) : ∀ j, (colsM h j).length = j * h
  | 0 => by simp [colsM]
  | j + 1 => by rw [colsM_succ, List.length_append, colsM_len h j, List.length_map, List.length_range, Nat.add_mul]; omega
theorem colsM_mem {h j : Nat} {p : Nat × Nat} : p ∈ colsM h j ↔ p.1 < j ∧ p.2 < h := by
  unfold colsM
  simp only [List.mem_flatMap, List.mem_map, List.mem_range]
  constructor
  · rintro ⟨x, hx, y, hy, rfl⟩
    exact ⟨hx, hy⟩
  · rintro ⟨hx, hy⟩
    exact ⟨p.1, hx, p.2, hy, rfl⟩
theorem cells_ok (d : Dr Γ) {M : List (List Nat)} {w h : Nat} (g : GM M w h) {st : Store} : callN gv tv Γ (k + 1) 1005 [.d (mapD M)] st = .ok (.d (.list ((colsM h w).map cellD))) st := by
  rw [call_of d.h5 _ ⟨rfl, by decide⟩]
  obtain ⟨r, e1, e2⟩ := g.top
  have e3 := g.high
  have hw7 := g.w7
  have hh7 := g.h7
  have hi : evI gv tv (callN gv tv Γ k) (.rng1 (.bi .len (.cons (.idx (.var 0) (.con (.int 0))) .nil))) [.v (.d (mapD M)), .ol [], .un, .un] st = .ok ((List.range w).map fun (k : Nat) => PyData.int (k : Nat)) st := by
    simp [biD, e1, e2, rngOk0 (n := w) (by omega), rng0]
  have lp := forL_go (t := .name 2) (body := fun ρ st => runSs gv tv (callN gv tv Γ k) (.cons (.extend 1 (.comp [3] (.tup (.cons (.var 2) (.cons (.var 3) .nil))) (.name 3) (.rng1 (.bi .len (.cons (.var 0) .nil))))) .nil) ρ st) (st := st)
    (fun j => [.v (.d (mapD M)), .ol ((colsM h j).map cellD), (match j with | 0 => .un | j + 1 => .v (.d (.int (j : Nat)))), .un]) ((List.range w).map fun (k : Nat) => PyData.int (k : Nat)) 0 (fun j x hj => by
      obtain ⟨hj1, rfl⟩ := rng_get hj
      rw [Nat.zero_add]
      refine ⟨_, rfl, ?_⟩
      have row := e_map (gv := gv) (tv := tv) (cf := callN gv tv Γ k) (own := [3]) (elt := .tup (.cons (.var 2) (.cons (.var 3) .nil))) (t := .name 3) (it := .rng1 (.bi .len (.cons (.var 0) .nil)))
        (ρ := [.v (.d (mapD M)), .ol ((colsM h j).map cellD), .v (.d (.int (j : Nat))), .un]) (st := st) (l := List.range h) (enc := fun (k : Nat) => PyData.int (k : Nat)) (fun y => cellD (j, y)) (by simp [biD, e3, rngOk0 (n := h) (by omega), rng0]) fun y hy => ⟨_, rfl, by simp⟩
      have hlen : ((colsM h j).map cellD).length + ((List.range h).map fun y => cellD (j, y)).length ≤ lim := by
        rw [List.length_map, colsM_len, List.length_map, List.length_range]
        have := Nat.mul_le_mul (show j ≤ 7 by omega) hh7
        unfold lim
        omega
      have e : (colsM h (j + 1)).map cellD = (colsM h j).map cellD ++ (List.range h).map fun y => cellD (j, y) := by
        rw [colsM_succ, List.map_append, List.map_map]
        rfl
      rw [e]
      generalize (colsM h j).map cellD = A at *
      generalize ((List.range h).map fun y => cellD (j, y)) = B at *
      simp [row, hlen])
  rw [Nat.zero_add, List.length_map, List.length_range] at lp
  have f := rs_for (b := .cons (.extend 1 (.comp [3] (.tup (.cons (.var 2) (.cons (.var 3) .nil))) (.name 3) (.rng1 (.bi .len (.cons (.var 0) .nil))))) .nil) (t := .name 2) hi
  have e0 : ([.v (.d (mapD M)), .ol ((colsM h 0).map cellD), .un, .un] : Ev) = [.v (.d (mapD M)), .ol [], .un, .un] := by simp [colsM]
  have lp' := lp
  dsimp only at lp'
  rw [e0] at lp'
  rw [lp'] at f
  generalize (colsM h w).map cellD = A at *
  simp [q5, start0, setS, f]
end Ip
/-! the terms of law_k19_whole_told_anew -/
namespace Lw
open PySem Ip
/-- is_whole(thing, low, most): 0 thing, 1 low, 2 most -/
def f0 : Fn := ⟨3, 3, (.cons (.ret (.and (.bi (.isa .int) (.cons (.var 0) .nil)) (.and (.not (.bi (.isa .bool) (.cons (.var 0) .nil))) (.chain .le .le (.var 1) (.var 0) (.var 2))))) .nil)⟩
/-- is_map(thing): 0 thing, 1 sign, 2 row -/
def f1 : Fn := ⟨1, 3, (.cons (.ifs (.or (.not (.bi (.isa .tuple) (.cons (.var 0) .nil))) (.not (.chain .le .le (.con (.int 1)) (.bi .len (.cons (.var 0) .nil)) (.glob 0)))) (.cons (.ret (.con (.bool false))) .nil) .nil) (.cons (.ifs (.not (.bi .all (.cons (.comp [2] (.and (.bi (.isa .str) (.cons (.var 2) .nil)) (.chain .le .le (.con (.int 1)) (.bi .len (.cons (.var 2) .nil)) (.glob 0))) (.name 2) (.seq (.var 0))) .nil))) (.cons (.ret (.con (.bool false))) .nil) .nil) (.cons (.ifs (.not (.bi .all (.cons (.comp [2] (.cmp .eq (.bi .len (.cons (.var 2) .nil)) (.bi .len (.cons (.idx (.var 0) (.con (.int 0))) .nil))) (.name 2) (.seq (.var 0))) .nil))) (.cons (.ret (.con (.bool false))) .nil) .nil) (.cons (.ret (.bi .all (.cons (.comp [1] (.cmp .isin (.var 1) (.glob 1)) (.name 1) (.seq (.smt .join (.con (tx [])) (.bi .list (.cons (.var 0) .nil))))) .nil))) .nil))))⟩
/-- need_map(thing): 0 thing -/
def f2 : Fn := ⟨1, 1, (.cons (.ifs (.not (.call 1 (.cons (.var 0) .nil))) (.cons (.raise 1) .nil) .nil) .nil)⟩
/-- is_cell(some, thing): 0 some, 1 thing -/
def f3 : Fn := ⟨2, 2, (.cons (.ifs (.or (.not (.bi (.isa .tuple) (.cons (.var 1) .nil))) (.cmp .ne (.bi .len (.cons (.var 1) .nil)) (.con (.int 2)))) (.cons (.ret (.con (.bool false))) .nil) .nil) (.cons (.ret (.and (.call 0 (.cons (.idx (.var 1) (.con (.int 0))) (.cons (.con (.int 0)) (.cons (.bin .sub (.bi .len (.cons (.idx (.var 0) (.con (.int 0))) .nil)) (.con (.int 1))) .nil)))) (.call 0 (.cons (.idx (.var 1) (.con (.int 1))) (.cons (.con (.int 0)) (.cons (.bin .sub (.bi .len (.cons (.var 0) .nil)) (.con (.int 1))) .nil)))))) .nil))⟩
/-- need_cell(some, thing): 0 some, 1 thing -/
def f4 : Fn := ⟨2, 2, (.cons (.ifs (.not (.call 3 (.cons (.var 0) (.cons (.var 1) .nil)))) (.cons (.raise 2) .nil) .nil) .nil)⟩
/-- rotated(some): 0 some, 1 left, 2 row -/
def f57 : Fn := ⟨1, 3, (.cons (.expr (.call 2 (.cons (.var 0) .nil))) (.cons (.ret (.bi .tuple (.cons (.comp [1] (.smt .join (.con (tx [])) (.comp [2] (.idx (.var 2) (.var 1)) (.name 2) (.seq (.rev (.var 0))))) (.name 1) (.rng1 (.bi .len (.cons (.idx (.var 0) (.con (.int 0))) .nil)))) .nil))) .nil))⟩
/-- rotated_cell(some, cell): 0 some, 1 cell -/
def f58 : Fn := ⟨2, 2, (.cons (.expr (.call 2 (.cons (.var 0) .nil))) (.cons (.expr (.call 4 (.cons (.var 0) (.cons (.var 1) .nil)))) (.cons (.ret (.tup (.cons (.bin .sub (.bin .sub (.bi .len (.cons (.var 0) .nil)) (.con (.int 1))) (.idx (.var 1) (.con (.int 1)))) (.cons (.idx (.var 1) (.con (.int 0))) .nil)))) .nil)))⟩
/-- flipped(some): 0 some, 1 row -/
def f59 : Fn := ⟨1, 2, (.cons (.expr (.call 2 (.cons (.var 0) .nil))) (.cons (.ret (.bi .tuple (.cons (.comp [1] (.rev (.var 1)) (.name 1) (.seq (.var 0))) .nil))) .nil))⟩
/-- cut_out(some, left, top, wide, high): 0 some, 1 left, 2 top, 3 wide, 4 high, 5 row -/
def f60 : Fn := ⟨5, 6, (.cons (.expr (.call 2 (.cons (.var 0) .nil))) (.cons (.ifs (.or (.not (.call 0 (.cons (.var 1) (.cons (.con (.int 0)) (.cons (.bin .sub (.bi .len (.cons (.idx (.var 0) (.con (.int 0))) .nil)) (.con (.int 1))) .nil))))) (.not (.call 0 (.cons (.var 2) (.cons (.con (.int 0)) (.cons (.bin .sub (.bi .len (.cons (.var 0) .nil)) (.con (.int 1))) .nil)))))) (.cons (.raise 12) .nil) .nil) (.cons (.ifs (.or (.not (.call 0 (.cons (.var 3) (.cons (.con (.int 1)) (.cons (.bin .sub (.bi .len (.cons (.idx (.var 0) (.con (.int 0))) .nil)) (.var 1)) .nil))))) (.not (.call 0 (.cons (.var 4) (.cons (.con (.int 1)) (.cons (.bin .sub (.bi .len (.cons (.var 0) .nil)) (.var 2)) .nil)))))) (.cons (.raise 12) .nil) .nil) (.cons (.ret (.bi .tuple (.cons (.comp [5] (.slc (.var 5) (.var 1) (.bin .add (.var 1) (.var 3))) (.name 5) (.seq (.slc (.var 0) (.var 2) (.bin .add (.var 2) (.var 4))))) .nil))) .nil))))⟩
/-- framed(some): 0 some, 1 wall, 2 row -/
def f61 : Fn := ⟨1, 3, (.cons (.expr (.call 2 (.cons (.var 0) .nil))) (.cons (.ifs (.or (.cmp .gt (.bin .add (.bi .len (.cons (.var 0) .nil)) (.con (.int 2))) (.glob 0)) (.cmp .gt (.bin .add (.bi .len (.cons (.idx (.var 0) (.con (.int 0))) .nil)) (.con (.int 2))) (.glob 0))) (.cons (.raise 12) .nil) .nil) (.cons (.set 1 (.bin .mul (.con (tx [35])) (.bin .add (.bi .len (.cons (.idx (.var 0) (.con (.int 0))) .nil)) (.con (.int 2))))) (.cons (.ret (.bin .add (.bin .add (.tup (.cons (.var 1) .nil)) (.bi .tuple (.cons (.comp [2] (.bin .add (.bin .add (.con (tx [35])) (.var 2)) (.con (tx [35]))) (.name 2) (.seq (.var 0))) .nil))) (.tup (.cons (.var 1) .nil)))) .nil))))⟩
/-- counted(some): 0 some, 1 whole, 2 sign -/
def f62 : Fn := ⟨1, 3, (.cons (.expr (.call 2 (.cons (.var 0) .nil))) (.cons (.set 1 (.smt .join (.con (tx [])) (.bi .list (.cons (.var 0) .nil)))) (.cons (.ret (.bi .tuple (.cons (.comp [2] (.smt .count (.var 1) (.var 2)) (.name 2) (.seq (.con (tx [46, 35, 61, 43, 47])))) .nil))) .nil)))⟩
/-- _law_cell_at(_law_script, _law_k): 0 _law_script, 1 _law_k -/
def l0 : Fn := ⟨2, 2, (.cons (.ifs (.cmp .lt (.var 1) (.lenS 0)) (.cons (.ret (.idxS 0 (.var 1))) .nil) .nil) (.cons (.ifs (.nilS 0) (.cons (.ret (.con (.int 0))) .nil) .nil) (.cons (.ret (.bin .add (.bin .mul (.idxS 0 (.bin .mod (.var 1) (.lenS 0))) (.con (.int 31))) (.var 1))) .nil)))⟩
/-- _law_mixed(_law_script, _law_k, _law_many): 0 _law_script, 1 _law_k, 2 _law_many, 3 _law_drawn -/
def l1 : Fn := ⟨3, 4, (.cons (.set 3 (.bin .mod (.bin .add (.bin .add (.bin .mul (.call 1000 (.cons (.var 0) (.cons (.var 1) .nil))) (.con (.int 1103515245))) (.bin .mul (.con (.int 7919)) (.var 1))) (.con (.int 12345))) (.con (.int 2147483647)))) (.cons (.ret (.bin .mod (.bin .mod (.bin .mod (.bin .pow (.var 3) (.con (.int 5))) (.con (.int 2147483647))) (.con (.int 999983))) (.var 2))) .nil))⟩
/-- _law_draw(_law_script, _law_town, _law_many): 0 _law_script, 1 _law_town, 2 _law_many -/
def l2 : Fn := ⟨3, 3, (.cons (.appendL 1 (.con (.int 0))) (.cons (.ret (.call 1001 (.cons (.var 0) (.cons (.lenL 1) (.cons (.var 2) .nil))))) .nil))⟩
/-- _law_pick(_law_script, _law_town, _law_some): 0 _law_script, 1 _law_town, 2 _law_some -/
def l3 : Fn := ⟨3, 3, (.cons (.ret (.idx (.var 2) (.call 1002 (.cons (.var 0) (.cons (.var 1) (.cons (.bi .len (.cons (.var 2) .nil)) .nil)))))) .nil)⟩
/-- _law_map(_law_script, _law_town, _law_most): 0 _law_script, 1 _law_town, 2 _law_most, 3 _law_wide, 4 _law_high, 5 _law_signs, 6 _law_top, 7 _law_left -/
def l4 : Fn := ⟨3, 8, (.cons (.asg (.tup (.cons (.name 3) (.cons (.name 4) .nil))) (.tup (.cons (.bin .add (.con (.int 1)) (.call 1002 (.cons (.var 0) (.cons (.var 1) (.cons (.var 2) .nil))))) (.cons (.bin .add (.con (.int 1)) (.call 1002 (.cons (.var 0) (.cons (.var 1) (.cons (.var 2) .nil))))) .nil)))) (.cons (.set 5 (.call 1003 (.cons (.var 0) (.cons (.var 1) (.cons (.lst (.cons (.con (tx [46, 46, 46, 46, 35])) (.cons (.con (tx [46, 46, 35, 61, 43, 47])) (.cons (.con (tx [46, 46, 46, 35, 47])) (.cons (.con (tx [46, 35])) (.cons (.con (tx [46, 43, 47, 61])) .nil)))))) .nil))))) (.cons (.ret (.bi .tuple (.cons (.comp [6] (.smt .join (.con (tx [])) (.comp [7] (.call 1003 (.cons (.var 0) (.cons (.var 1) (.cons (.bi .list (.cons (.var 5) .nil)) .nil)))) (.name 7) (.rng1 (.var 3)))) (.name 6) (.rng1 (.var 4))) .nil))) .nil)))⟩
/-- _law_cells(_law_some): 0 _law_some, 1 _law_made, 2 _law_left, 3 _law_top -/
def l5 : Fn := ⟨1, 4, (.cons (.own 1 (.lst .nil)) (.cons (.fors (.name 2) (.rng1 (.bi .len (.cons (.idx (.var 0) (.con (.int 0))) .nil))) (.cons (.extend 1 (.comp [3] (.tup (.cons (.var 2) (.cons (.var 3) .nil))) (.name 3) (.rng1 (.bi .len (.cons (.var 0) .nil))))) .nil)) (.cons (.keep 1) (.cons (.ret (.var 1)) .nil))))⟩
/-- _law_sign(_law_some, _law_cell): 0 _law_some, 1 _law_cell -/
def l6 : Fn := ⟨2, 2, (.cons (.ret (.idx (.idx (.var 0) (.idx (.var 1) (.con (.int 1)))) (.idx (.var 1) (.con (.int 0))))) .nil)⟩
/-- _law_floors(_law_some): 0 _law_some, 1 _law_cell -/
def l7 : Fn := ⟨1, 2, (.cons (.ret (.compIf [1] (.var 1) (.name 1) (.seq (.call 1005 (.cons (.var 0) .nil))) (.cmp .isin (.call 1006 (.cons (.var 0) (.cons (.var 1) .nil))) (.con (tx [46, 47]))))) .nil)⟩
/-- _law_near(_law_some, _law_cell): 0 _law_some, 1 _law_cell, 2 _law_x, 3 _law_y, 4 _law_other -/
def l8 : Fn := ⟨2, 5, (.cons (.asg (.tup (.cons (.name 2) (.cons (.name 3) .nil))) (.var 1)) (.cons (.ret (.compIf [4] (.var 4) (.name 4) (.seq (.tup (.cons (.tup (.cons (.bin .add (.var 2) (.con (.int 1))) (.cons (.var 3) .nil))) (.cons (.tup (.cons (.var 2) (.cons (.bin .sub (.var 3) (.con (.int 1))) .nil))) (.cons (.tup (.cons (.var 2) (.cons (.bin .add (.var 3) (.con (.int 1))) .nil))) (.cons (.tup (.cons (.bin .sub (.var 2) (.con (.int 1))) (.cons (.var 3) .nil))) .nil)))))) (.cmp .isin (.var 4) (.call 1007 (.cons (.var 0) .nil))))) .nil))⟩
/-- law(_law_script): 0 _law_script, 1 _law_town, 2 _law_some, 3 _law_wide, 4 _law_high, 5 _law_made, 6 _law_other, 7 _law_x, 8 _law_y, 9 _law_here, 10 _law_left, 11 _law_top, 12 _law_across, 13 _law_down, 14 _law_part, 15 _law_whole, 16 _law_frame, 17 _law_rows, 18 _law_row, 19 _law_one, 20 _law_sign_here -/
def l9 : Fn := ⟨1, 21, (.cons (.newl 1) (.cons (.set 2 (.call 1004 (.cons (.var 0) (.cons (.var 1) (.cons (.con (.int 7)) .nil))))) (.cons (.par [3, 4] (.cons (.bi .len (.cons (.idx (.var 2) (.con (.int 0))) .nil)) (.cons (.bi .len (.cons (.var 2) .nil)) .nil))) (.cons (.par [5, 6] (.cons (.call 57 (.cons (.var 2) .nil)) (.cons (.call 59 (.cons (.var 2) .nil)) .nil))) (.cons (.ifs (.or (.cmp .ne (.bi .len (.cons (.var 5) .nil)) (.var 3)) (.or (.cmp .ne (.bi .len (.cons (.idx (.var 5) (.con (.int 0))) .nil)) (.var 4)) (.or (.cmp .ne (.bi .len (.cons (.var 6) .nil)) (.var 4)) (.cmp .ne (.bi .len (.cons (.idx (.var 6) (.con (.int 0))) .nil)) (.var 3))))) (.cons (.ret (.con (.bool false))) .nil) .nil) (.cons (.fors (.tup (.cons (.name 7) (.cons (.name 8) .nil))) (.seq (.call 1005 (.cons (.var 2) .nil))) (.cons (.set 9 (.call 58 (.cons (.var 2) (.cons (.tup (.cons (.var 7) (.cons (.var 8) .nil))) .nil)))) (.cons (.ifs (.or (.cmp .ne (.var 9) (.tup (.cons (.bin .sub (.bin .sub (.var 4) (.con (.int 1))) (.var 8)) (.cons (.var 7) .nil)))) (.or (.cmp .ne (.idx (.idx (.var 5) (.idx (.var 9) (.con (.int 1)))) (.idx (.var 9) (.con (.int 0)))) (.idx (.idx (.var 2) (.var 8)) (.var 7))) (.cmp .ne (.idx (.idx (.var 6) (.var 8)) (.bin .sub (.bin .sub (.var 3) (.con (.int 1))) (.var 7))) (.idx (.idx (.var 2) (.var 8)) (.var 7))))) (.cons (.ret (.con (.bool false))) .nil) .nil) .nil))) (.cons (.ifs (.or (.cmp .ne (.call 57 (.cons (.call 57 (.cons (.call 57 (.cons (.var 5) .nil)) .nil)) .nil)) (.var 2)) (.cmp .ne (.call 59 (.cons (.var 6) .nil)) (.var 2))) (.cons (.ret (.con (.bool false))) .nil) .nil) (.cons (.par [10, 11] (.cons (.call 1002 (.cons (.var 0) (.cons (.var 1) (.cons (.var 3) .nil)))) (.cons (.call 1002 (.cons (.var 0) (.cons (.var 1) (.cons (.var 4) .nil)))) .nil))) (.cons (.asg (.tup (.cons (.name 12) (.cons (.name 13) .nil))) (.tup (.cons (.bin .add (.con (.int 1)) (.call 1002 (.cons (.var 0) (.cons (.var 1) (.cons (.bin .sub (.var 3) (.var 10)) .nil))))) (.cons (.bin .add (.con (.int 1)) (.call 1002 (.cons (.var 0) (.cons (.var 1) (.cons (.bin .sub (.var 4) (.var 11)) .nil))))) .nil)))) (.cons (.set 14 (.call 60 (.cons (.var 2) (.cons (.var 10) (.cons (.var 11) (.cons (.var 12) (.cons (.var 13) .nil))))))) (.cons (.ifs (.or (.cmp .ne (.bi .len (.cons (.var 14) .nil)) (.var 13)) (.cmp .ne (.compIf [18] (.var 18) (.name 18) (.seq (.var 14)) (.cmp .ne (.bi .len (.cons (.var 18) .nil)) (.var 12))) (.lst .nil))) (.cons (.ret (.con (.bool false))) .nil) .nil) (.cons (.fors (.tup (.cons (.name 7) (.cons (.name 8) .nil))) (.seq (.call 1005 (.cons (.var 14) .nil))) (.cons (.ifs (.cmp .ne (.idx (.idx (.var 14) (.var 8)) (.var 7)) (.idx (.idx (.var 2) (.bin .add (.var 11) (.var 8))) (.bin .add (.var 10) (.var 7)))) (.cons (.ret (.con (.bool false))) .nil) .nil) .nil)) (.cons (.set 15 (.smt .join (.con (tx [])) (.bi .list (.cons (.var 2) .nil)))) (.cons (.ifs (.cmp .ne (.call 62 (.cons (.var 2) .nil)) (.bi .tuple (.cons (.comp [19] (.bi .len (.cons (.compIf [20] (.var 20) (.name 20) (.seq (.var 15)) (.cmp .eq (.var 20) (.var 19))) .nil)) (.name 19) (.seq (.tup (.cons (.con (tx [46])) (.cons (.con (tx [35])) (.cons (.con (tx [61])) (.cons (.con (tx [43])) (.cons (.con (tx [47])) .nil)))))))) .nil))) (.cons (.ret (.con (.bool false))) .nil) .nil) (.cons (.ifs (.or (.cmp .gt (.var 3) (.con (.int 5))) (.cmp .gt (.var 4) (.con (.int 5)))) (.cons (.ret (.con (.bool true))) .nil) .nil) (.cons (.set 16 (.call 61 (.cons (.var 2) .nil))) (.cons (.set 17 (.lst (.cons (.idx (.var 16) (.con (.int 0))) (.cons (.idx (.var 16) (.neg (.con (.int 1)))) (.cons (.smt .join (.con (tx [])) (.comp [18] (.idx (.var 18) (.con (.int 0))) (.name 18) (.seq (.var 16)))) (.cons (.smt .join (.con (tx [])) (.comp [18] (.idx (.var 18) (.neg (.con (.int 1)))) (.name 18) (.seq (.var 16)))) .nil)))))) (.cons (.ifs (.cmp .ne (.var 17) (.bin .add (.bin .mul (.lst (.cons (.bin .mul (.con (tx [35])) (.bin .add (.var 3) (.con (.int 2)))) .nil)) (.con (.int 2))) (.bin .mul (.lst (.cons (.bin .mul (.con (tx [35])) (.bin .add (.var 4) (.con (.int 2)))) .nil)) (.con (.int 2))))) (.cons (.ret (.con (.bool false))) .nil) .nil) (.cons (.ret (.and (.cmp .eq (.call 60 (.cons (.var 16) (.cons (.con (.int 1)) (.cons (.con (.int 1)) (.cons (.var 3) (.cons (.var 4) .nil)))))) (.var 2)) (.cmp .eq (.bi .len (.cons (.var 16) .nil)) (.bin .add (.var 4) (.con (.int 2)))))) .nil)))))))))))))))))))⟩
def terms : List (Nat × Fn) := [(0, f0), (1, f1), (2, f2), (3, f3), (4, f4), (57, f57), (58, f58), (59, f59), (60, f60), (61, f61), (62, f62), (1000, l0), (1001, l1), (1002, l2), (1003, l3), (1004, l4), (1005, l5), (1006, l6), (1007, l7), (1008, l8), (1009, l9)]
def consts : List (Nat × D) := [(0, (.int 7)), (1, (tx [46, 35, 61, 43, 47]))]
def lawId : Nat := 1009
def Γ (f : Nat) : Option Fn := (terms.find? fun p => p.1 == f).map (·.2)
def gv (g : Nat) : Option D := (consts.find? fun p => p.1 == g).map (·.2)
def tv : Nat → List (D × D) := fun _ => []
end Lw
/-! k19: the law's def answers True. -/
namespace Lw
open PySem Ip

/-- at a cell -/
theorem at_cell {M : List (List Nat)} {w h : Nat} (g : GM M w h) {x y : Nat} (hx : x < w) (hy : y < h) : ∃ r c, M[y]? = some r ∧ r[x]? = some c ∧ r ∈ M ∧ idxD (mapD M) (.int (y : Nat)) = some (tx r) ∧ idxD (tx r) (.int (x : Nat)) = some (tx [c]) := by
  have hy' : y < M.length := by rw [g.len]; exact hy
  have hr := List.getElem_mem hy'
  have hl := g.row _ hr
  have hx' : x < (M[y]).length := by rw [hl]; exact hx
  refine ⟨M[y], (M[y])[x], List.getElem?_eq_getElem hy', List.getElem?_eq_getElem hx', hr, idx_row (List.getElem?_eq_getElem hy'), idx_tx (List.getElem?_eq_getElem hx') (g.rl hr)⟩
theorem rot_at {M : List (List Nat)} {w h : Nat} (g : GM M w h) {x y : Nat} (hx : x < w) (hy : y < h) {r : List Nat} {c : Nat} (h1 : M[y]? = some r) (h2 : r[x]? = some c) : ∃ q, (rotM M w)[x]? = some q ∧ q[h - 1 - y]? = some c := by
  refine ⟨M.reverse.map fun r => r.getD x 0, ?_, ?_⟩
  · unfold rotM
    rw [List.getElem?_map, List.getElem?_range hx]
    rfl
  · have hl := g.len
    rw [List.getElem?_map, List.getElem?_reverse (by omega)]
    have e : M.length - 1 - (h - 1 - y) = y := by omega
    rw [e, h1]
    show some (r.getD x 0) = some c
    rw [List.getD_eq_getElem?_getD, h2]
    rfl
theorem flip_at {M : List (List Nat)} {w h : Nat} (g : GM M w h) {x y : Nat} (hx : x < w) {r : List Nat} {c : Nat} (h1 : M[y]? = some r) (h2 : r[x]? = some c) : ∃ q, (flipM M)[y]? = some q ∧ q[w - 1 - x]? = some c := by
  refine ⟨r.reverse, ?_, ?_⟩
  · unfold flipM
    rw [List.getElem?_map, h1]
    rfl
  · have hl := g.row r (List.mem_of_getElem? h1)
    rw [List.getElem?_reverse (by omega)]
    have e : r.length - 1 - (w - 1 - x) = x := by omega
    rw [e, h2]
theorem map_ext {M N : List (List Nat)} {w h : Nat} (g : GM M w h) (g' : GM N w h) (e : ∀ (x y : Nat) (r q : List Nat) (c : Nat), x < w → y < h → M[y]? = some r → r[x]? = some c → N[y]? = some q → q[x]? = some c) : M = N := by
  apply List.ext_getElem (by rw [g.len, g'.len])
  intro y h1 h2
  have hy : y < h := by rw [← g.len]; exact h1
  apply List.ext_getElem (by rw [g.row _ (List.getElem_mem h1), g'.row _ (List.getElem_mem h2)])
  intro x h3 h4
  have hx : x < w := by rw [← g.row _ (List.getElem_mem h1)]; exact h3
  have := e x y M[y] N[y] (M[y])[x] hx hy (List.getElem?_eq_getElem h1) (List.getElem?_eq_getElem h3) (List.getElem?_eq_getElem h2)
  rw [List.getElem?_eq_getElem h4] at this
  exact (Option.some.inj this).symm
theorem rot4 {M : List (List Nat)} {w h : Nat} (g : GM M w h) : rotM (rotM (rotM (rotM M w) h) w) h = M := by
  refine (map_ext g g.rot.rot.rot.rot fun x y r q c hx hy h1 h2 h3 => ?_).symm
  obtain ⟨q1, a1, a2⟩ := rot_at g hx hy h1 h2
  obtain ⟨q2, b1, b2⟩ := rot_at g.rot (x := h - 1 - y) (y := x) (by omega) hx a1 a2
  obtain ⟨q3, c1, c2⟩ := rot_at g.rot.rot (x := w - 1 - x) (y := h - 1 - y) (by omega) (by omega) b1 b2
  obtain ⟨q4, d1, d2⟩ := rot_at g.rot.rot.rot (x := h - 1 - (h - 1 - y)) (y := w - 1 - x) (by omega) (by omega) c1 c2
  have e1 : h - 1 - (h - 1 - y) = y := by omega
  have e2 : w - 1 - (w - 1 - x) = x := by omega
  rw [e1] at d1
  rw [e2] at d2
  rw [d1] at h3
  cases h3
  exact d2
theorem flip2 {M : List (List Nat)} : flipM (flipM M) = M := by
  unfold flipM
  rw [List.map_map]
  have : (List.reverse ∘ List.reverse : List Nat → List Nat) = id := by funext l; simp
  rw [this, List.map_id]
theorem frame_cut {M : List (List Nat)} {w h : Nat} (g : GM M w h) : cutM (frameM M w) 1 1 w h = M := by
  have hl := g.len
  unfold cutM frameM
  have e : ((([List.replicate (w + 2) 35] ++ M.map fun r => [35] ++ r ++ [35]) ++ [List.replicate (w + 2) 35]).drop 1).take h = M.map fun r => [35] ++ r ++ [35] := by
    simp [List.drop, List.take_append, hl]
  rw [e, List.map_map]
  have : ∀ r ∈ M, ((fun r => (List.drop 1 r).take w) ∘ fun r => [35] ++ r ++ [35]) r = r := by
    intro r hr
    have := g.row r hr
    simp [this]
  rw [List.map_congr_left this, List.map_id']
theorem at_row {M : List (List Nat)} {w h : Nat} (g : GM M w h) {x y : Nat} {r : List Nat} {c : Nat} (h1 : M[y]? = some r) (h2 : r[x]? = some c) : idxD (mapD M) (.int (y : Nat)) = some (tx r) ∧ idxD (tx r) (.int (x : Nat)) = some (tx [c]) :=
  ⟨idx_row h1, idx_tx h2 (g.rl (List.mem_of_getElem? h1))⟩
theorem loop1 {cf : CallF} {M : List (List Nat)} {w h : Nat} (g : GM M w h) {st : Store} {s0 s1 u1 u2 u3 u4 u5 u6 u7 u8 u9 u10 u11 : Slot} (hc : cf 1005 [.d (mapD M)] st = .ok (.d (.list ((colsM h w).map cellD))) st)
    (hr : ∀ x y, x < w → y < h → cf 58 [.d (mapD M), .d (cellD (x, y))] st = .ok (.d (cellD (h - 1 - y, x))) st) (a b c : Slot) :
    ∃ a' b' c', runS gv tv cf (.fors (.tup (.cons (.name 7) (.cons (.name 8) .nil))) (.seq (.call 1005 (.cons (.var 2) .nil))) (.cons (.set 9 (.call 58 (.cons (.var 2) (.cons (.tup (.cons (.var 7) (.cons (.var 8) .nil))) .nil)))) (.cons (.ifs (.or (.cmp .ne (.var 9) (.tup (.cons (.bin .sub (.bin .sub (.var 4) (.con (.int 1))) (.var 8)) (.cons (.var 7) .nil)))) (.or (.cmp .ne (.idx (.idx (.var 5) (.idx (.var 9) (.con (.int 1)))) (.idx (.var 9) (.con (.int 0)))) (.idx (.idx (.var 2) (.var 8)) (.var 7))) (.cmp .ne (.idx (.idx (.var 6) (.var 8)) (.bin .sub (.bin .sub (.var 3) (.con (.int 1))) (.var 7))) (.idx (.idx (.var 2) (.var 8)) (.var 7))))) (.cons (.ret (.con (.bool false))) .nil) .nil) .nil)))
      [s0, s1, .v (.d (mapD M)), .v (.d (.int (w : Nat))), .v (.d (.int (h : Nat))), .v (.d (mapD (rotM M w))), .v (.d (mapD (flipM M))), a, b, c, u1, u2, u3, u4, u5, u6, u7, u8, u9, u10, u11] st
    = .nx [s0, s1, .v (.d (mapD M)), .v (.d (.int (w : Nat))), .v (.d (.int (h : Nat))), .v (.d (mapD (rotM M w))), .v (.d (mapD (flipM M))), a', b', c', u1, u2, u3, u4, u5, u6, u7, u8, u9, u10, u11] st := by
  have hs : seqD (.list ((colsM h w).map cellD)) = some ((colsM h w).map cellD) := rfl
  have hi : ∀ a b c, evI gv tv cf (.seq (.call 1005 (.cons (.var 2) .nil))) [s0, s1, .v (.d (mapD M)), .v (.d (.int (w : Nat))), .v (.d (.int (h : Nat))), .v (.d (mapD (rotM M w))), .v (.d (mapD (flipM M))), a, b, c, u1, u2, u3, u4, u5, u6, u7, u8, u9, u10, u11] st = .ok ((colsM h w).map cellD) st := fun a b c => by
    generalize (colsM h w).map cellD = L at *
    simp [hc, hs]
  rw [rs_for (hi a b c)]
  obtain ⟨ρ', ⟨a', b', c', rfl⟩, e⟩ := forL_inv (t := .tup (.cons (.name 7) (.cons (.name 8) .nil))) (st := st)
    (body := fun ρ st => runSs gv tv cf (.cons (.set 9 (.call 58 (.cons (.var 2) (.cons (.tup (.cons (.var 7) (.cons (.var 8) .nil))) .nil)))) (.cons (.ifs (.or (.cmp .ne (.var 9) (.tup (.cons (.bin .sub (.bin .sub (.var 4) (.con (.int 1))) (.var 8)) (.cons (.var 7) .nil)))) (.or (.cmp .ne (.idx (.idx (.var 5) (.idx (.var 9) (.con (.int 1)))) (.idx (.var 9) (.con (.int 0)))) (.idx (.idx (.var 2) (.var 8)) (.var 7))) (.cmp .ne (.idx (.idx (.var 6) (.var 8)) (.bin .sub (.bin .sub (.var 3) (.con (.int 1))) (.var 7))) (.idx (.idx (.var 2) (.var 8)) (.var 7))))) (.cons (.ret (.con (.bool false))) .nil) .nil) .nil)) ρ st)
    (fun ρ => ∃ a b c, ρ = [s0, s1, .v (.d (mapD M)), .v (.d (.int (w : Nat))), .v (.d (.int (h : Nat))), .v (.d (mapD (rotM M w))), .v (.d (mapD (flipM M))), a, b, c, u1, u2, u3, u4, u5, u6, u7, u8, u9, u10, u11])
    ((colsM h w).map cellD) _ ⟨a, b, c, rfl⟩ (fun d hd ρ ⟨a, b, c, hρ⟩ => by
      subst hρ
      obtain ⟨⟨x, y⟩, hp, rfl⟩ := List.mem_map.mp hd
      obtain ⟨hx, hy⟩ := colsM_mem.mp hp
      dsimp only at hx hy
      obtain ⟨r, v, m1, m2, _, i1, i2⟩ := at_cell g hx hy
      obtain ⟨q1, p1, p2⟩ := rot_at g hx hy m1 m2
      obtain ⟨q2, p3, p4⟩ := flip_at g hx m1 m2
      obtain ⟨j1, j2⟩ := at_row g.rot p1 p2
      obtain ⟨j3, j4⟩ := at_row g.flip p3 p4
      have rc := hr x y hx hy
      have s1' := sub_ok h 1
      have s2' := sub_ok ((h : Int) - 1) y
      rw [show (h : Int) - 1 - (y : Nat) = ((h - 1 - y : Nat) : Int) by omega] at s2'
      have s3' := sub_ok w 1
      have s4' := sub_ok ((w : Int) - 1) x
      rw [show (w : Int) - 1 - (x : Nat) = ((w - 1 - x : Nat) : Int) by omega] at s4'
      have nc : cmpD .ne (cellD (h - 1 - y, x)) (cellD (h - 1 - y, x)) = some false := same_ne (flat_sh (n := 1) (flat_tuple (by
        intro z hz
        simp only [List.mem_cons, List.not_mem_nil, or_false] at hz
        rcases hz with rfl | rfl <;> exact flat_int 0 _)) (by omega))
      have nv : cmpD .ne (tx [v]) (tx [v]) = some false := same_ne (sh_tx _)
      have k1 : idxD (cellD (h - 1 - y, x)) (.int 1) = some (.int (x : Nat)) := rfl
      have k0 : idxD (cellD (h - 1 - y, x)) (.int 0) = some (.int ((h - 1 - y : Nat) : Int)) := rfl
      refine ⟨_, [s0, s1, .v (.d (mapD M)), .v (.d (.int (w : Nat))), .v (.d (.int (h : Nat))), .v (.d (mapD (rotM M w))), .v (.d (mapD (flipM M))), .v (.d (.int (x : Nat))), .v (.d (.int (y : Nat))), .v (.d (cellD (h - 1 - y, x))), u1, u2, u3, u4, u5, u6, u7, u8, u9, u10, u11], rfl, ?_, ⟨_, _, _, rfl⟩⟩
      clear hi hc hd hp hs hr
      generalize h - 1 - y = hy1 at *
      generalize w - 1 - x = wx1 at *
      generalize (h : Int) - 1 = z1 at *
      generalize (w : Int) - 1 = z2 at *
      generalize mapD (rotM M w) = RR at *
      generalize mapD (flipM M) = FF at *
      generalize mapD M = MM at *
      simp [setS, rc, s1', s2', s3', s4', nc, k1, k0, j1, j2, j3, j4, i1, i2, nv])
  exact ⟨a', b', c', e⟩
theorem cut_at {M : List (List Nat)} {w h left top wide high : Nat} (g : GM M w h) (h3 : left + wide ≤ w) (h4 : top + high ≤ h) {x y : Nat} (hx : x < wide) (hy : y < high) {r : List Nat} {c : Nat} (h1 : M[top + y]? = some r) (h2 : r[left + x]? = some c) :
    ∃ q, (cutM M left top wide high)[y]? = some q ∧ q[x]? = some c := by
  refine ⟨(r.drop left).take wide, ?_, ?_⟩
  · unfold cutM
    rw [List.getElem?_map, List.getElem?_take, if_pos hy, List.getElem?_drop, h1]
    rfl
  · rw [List.getElem?_take, if_pos hx, List.getElem?_drop, h2]
theorem loop2 {cf : CallF} {M : List (List Nat)} {w h left top wide high : Nat} (g : GM M w h) (h1 : 1 ≤ wide) (h2 : 1 ≤ high) (h3 : left + wide ≤ w) (h4 : top + high ≤ h) {st : Store} {s0 s1 s3 s4 s5 s6 s12 s13 u5 u6 u7 u8 u9 u10 : Slot}
    (hc : cf 1005 [.d (mapD (cutM M left top wide high))] st = .ok (.d (.list ((colsM high wide).map cellD))) st) (a b c : Slot) :
    ∃ a' b', runS gv tv cf (.fors (.tup (.cons (.name 7) (.cons (.name 8) .nil))) (.seq (.call 1005 (.cons (.var 14) .nil))) (.cons (.ifs (.cmp .ne (.idx (.idx (.var 14) (.var 8)) (.var 7)) (.idx (.idx (.var 2) (.bin .add (.var 11) (.var 8))) (.bin .add (.var 10) (.var 7)))) (.cons (.ret (.con (.bool false))) .nil) .nil) .nil))
      [s0, s1, .v (.d (mapD M)), s3, s4, s5, s6, a, b, c, .v (.d (.int (left : Nat))), .v (.d (.int (top : Nat))), s12, s13, .v (.d (mapD (cutM M left top wide high))), u5, u6, u7, u8, u9, u10] st
    = .nx [s0, s1, .v (.d (mapD M)), s3, s4, s5, s6, a', b', c, .v (.d (.int (left : Nat))), .v (.d (.int (top : Nat))), s12, s13, .v (.d (mapD (cutM M left top wide high))), u5, u6, u7, u8, u9, u10] st := by
  have gc := g.cut h1 h2 h3 h4
  have hs : seqD (.list ((colsM high wide).map cellD)) = some ((colsM high wide).map cellD) := rfl
  have hi : ∀ a b c, evI gv tv cf (.seq (.call 1005 (.cons (.var 14) .nil))) [s0, s1, .v (.d (mapD M)), s3, s4, s5, s6, a, b, c, .v (.d (.int (left : Nat))), .v (.d (.int (top : Nat))), s12, s13, .v (.d (mapD (cutM M left top wide high))), u5, u6, u7, u8, u9, u10] st = .ok ((colsM high wide).map cellD) st := fun a b c => by
    generalize (colsM high wide).map cellD = L at *
    simp [hc, hs]
  rw [rs_for (hi a b c)]
  obtain ⟨ρ', ⟨a', b', rfl⟩, e⟩ := forL_inv (t := .tup (.cons (.name 7) (.cons (.name 8) .nil))) (st := st)
    (body := fun ρ st => runSs gv tv cf (.cons (.ifs (.cmp .ne (.idx (.idx (.var 14) (.var 8)) (.var 7)) (.idx (.idx (.var 2) (.bin .add (.var 11) (.var 8))) (.bin .add (.var 10) (.var 7)))) (.cons (.ret (.con (.bool false))) .nil) .nil) .nil) ρ st)
    (fun ρ => ∃ a b, ρ = [s0, s1, .v (.d (mapD M)), s3, s4, s5, s6, a, b, c, .v (.d (.int (left : Nat))), .v (.d (.int (top : Nat))), s12, s13, .v (.d (mapD (cutM M left top wide high))), u5, u6, u7, u8, u9, u10])
    ((colsM high wide).map cellD) _ ⟨a, b, rfl⟩ (fun d hd ρ ⟨a, b, hρ⟩ => by
      subst hρ
      obtain ⟨⟨x, y⟩, hp, rfl⟩ := List.mem_map.mp hd
      obtain ⟨hx, hy⟩ := colsM_mem.mp hp
      dsimp only at hx hy
      obtain ⟨r, v, m1, m2, _, i1, i2⟩ := at_cell g (x := left + x) (y := top + y) (by omega) (by omega)
      obtain ⟨q1, p1, p2⟩ := cut_at g h3 h4 hx hy m1 m2
      obtain ⟨j1, j2⟩ := at_row gc p1 p2
      have a1 := add_ok top y
      have a2 := add_ok left x
      rw [show (top : Int) + (y : Nat) = ((top + y : Nat) : Int) by omega] at a1
      rw [show (left : Int) + (x : Nat) = ((left + x : Nat) : Int) by omega] at a2
      have nv : cmpD .ne (tx [v]) (tx [v]) = some false := same_ne (sh_tx _)
      refine ⟨_, [s0, s1, .v (.d (mapD M)), s3, s4, s5, s6, .v (.d (.int (x : Nat))), .v (.d (.int (y : Nat))), c, .v (.d (.int (left : Nat))), .v (.d (.int (top : Nat))), s12, s13, .v (.d (mapD (cutM M left top wide high))), u5, u6, u7, u8, u9, u10], rfl, ?_, ⟨_, _, rfl⟩⟩
      clear hi hc hd hp hs
      generalize top + y = ty at *
      generalize left + x = lx at *
      generalize mapD (cutM M left top wide high) = CC at *
      generalize mapD M = MM at *
      simp [a1, a2, j1, j2, i1, i2, nv])
  exact ⟨a', b', e⟩
theorem count_row {cf : CallF} {F : List Nat} (hF : F.length ≤ lim) {st : Store} {v0 v1 v2 v3 v4 v5 v6 v7 v8 v9 v10 v11 v12 v13 v14 v16 v17 v18 v19 v20 : Slot} :
    evE gv tv cf (.comp [19] (.bi .len (.cons (.compIf [20] (.var 20) (.name 20) (.seq (.var 15)) (.cmp .eq (.var 20) (.var 19))) .nil)) (.name 19) (.seq (.tup (.cons (.con (tx [46])) (.cons (.con (tx [35])) (.cons (.con (tx [61])) (.cons (.con (tx [43])) (.cons (.con (tx [47])) .nil))))))))
      [v0, v1, v2, v3, v4, v5, v6, v7, v8, v9, v10, v11, v12, v13, v14, .v (.d (tx F)), v16, v17, v18, v19, v20] st = .ok (.d (.list ([46, 35, 61, 43, 47].map fun c => PyData.int (F.count c : Nat)))) st := by
  refine e_map (l := [46, 35, 61, 43, 47]) (enc := fun c => tx [c]) (fun c => PyData.int (F.count c : Nat)) (by simp [seqD]) fun c hc => ?_
  have inner := e_filter (gv := gv) (tv := tv) (cf := cf) (own := [20]) (elt := .var 20) (c := .cmp .eq (.var 20) (.var 19)) (t := .name 20) (it := .seq (.var 15))
    (ρ := [v0, v1, v2, v3, v4, v5, v6, v7, v8, v9, v10, v11, v12, v13, v14, .v (.d (tx F)), v16, v17, v18, .v (.d (tx [c])), v20]) (st := st) (l := F) (enc := fun c => tx [c]) (fun a => tx [a]) (fun a => a == c)
    (by simp [seq_tx hF]) fun a ha => by
      have := eq_tx [a] [c]
      have e : decide ([a] = [c]) = (a == c) := by
        by_cases h : a = c <;> simp [h]
      rw [e] at this
      refine ⟨_, rfl, ?_, fun _ => ?_⟩
      · generalize (a == c) = z at *
        simp [this]
      · simp
  have hcnt : ((F.filter fun a => a == c).map fun a => tx [a]).length = F.count c := by
    rw [List.length_map]
    exact List.count_eq_length_filter.symm
  refine ⟨_, rfl, ?_⟩
  have hl : lenD (.list ((F.filter fun a => a == c).map fun a => tx [a])) = some (.int (F.count c : Nat)) := by
    show some (PyData.int _) = _
    rw [hcnt]
  generalize ((F.filter fun a => a == c).map fun a => tx [a]) = L at *
  generalize F.count c = z at *
  simp [inner, biD, hl]
theorem frame_ends {M : List (List Nat)} {w : Nat} {r : List Nat} (hr : r ∈ frameM M w) (hw : ∀ q ∈ M, q.length = w) : r.length = w + 2 ∧ r[0]? = some 35 ∧ r[w + 1]? = some 35 := by
  simp only [frameM, List.mem_append, List.mem_singleton, List.mem_map] at hr
  rcases hr with (rfl | ⟨q, hq, rfl⟩) | rfl
  · simp
  · have := hw q hq
    refine ⟨by simp [this], by simp, ?_⟩
    rw [List.getElem?_append_right (by simp [this])]
    simp [this]
  · simp
theorem idx_last {l : List Nat} {n c : Nat} (hl : l.length = n + 1) (h : l[n]? = some c) (hz : l.length ≤ lim) : idxD (tx l) (.int (-1)) = some (tx [c]) := by
  rw [hl] at hz
  simp only [idxD, tx_cps, hl, hz, if_true, ixZ_neg1 (n := n + 1) (by omega), Option.bind_some, Nat.add_sub_cancel, h]
  rfl
theorem frame_rows {cf : CallF} {M : List (List Nat)} {w h : Nat} (g : GM M w h) (h5 : h ≤ 5) (w5 : w ≤ 5) {st : Store} {v0 v1 v2 v3 v4 v5 v6 v7 v8 v9 v10 v11 v12 v13 v14 v15 v17 v18 v19 v20 : Slot} :
    evE gv tv cf (.lst (.cons (.idx (.var 16) (.con (.int 0))) (.cons (.idx (.var 16) (.neg (.con (.int 1)))) (.cons (.smt .join (.con (tx [])) (.comp [18] (.idx (.var 18) (.con (.int 0))) (.name 18) (.seq (.var 16)))) (.cons (.smt .join (.con (tx [])) (.comp [18] (.idx (.var 18) (.neg (.con (.int 1)))) (.name 18) (.seq (.var 16)))) .nil)))))
      [v0, v1, v2, v3, v4, v5, v6, v7, v8, v9, v10, v11, v12, v13, v14, v15, .v (.d (mapD (frameM M w))), v17, v18, v19, v20] st
    = .ok (.d (.list [tx (List.replicate (w + 2) 35), tx (List.replicate (w + 2) 35), tx (List.replicate (h + 2) 35), tx (List.replicate (h + 2) 35)])) st := by
  have hl := g.len
  have fl : (frameM M w).length = h + 2 := by simp [frameM, hl]
  have f0 : idxD (mapD (frameM M w)) (.int 0) = some (tx (List.replicate (w + 2) 35)) := idx_row (i := 0) (by simp [frameM])
  have f1 : idxD (mapD (frameM M w)) (.int (-1)) = some (tx (List.replicate (w + 2) 35)) := by
    simp only [mapD, idxD, List.length_map, fl, ixZ_neg1 (n := h + 2) (by omega), Option.bind_some]
    rw [List.getElem?_map, show h + 2 - 1 = h + 1 by omega]
    have : (frameM M w)[h + 1]? = some (List.replicate (w + 2) 35) := by
      unfold frameM
      rw [List.getElem?_append_right (by simp [hl])]
      simp [hl]
    rw [this]
    rfl
  have hs : seqD (mapD (frameM M w)) = some ((frameM M w).map tx) := rfl
  have rw1 : ∀ r ∈ frameM M w, idxD (tx r) (.int 0) = some (tx [35]) ∧ idxD (tx r) (.int (-1)) = some (tx [35]) := fun r hr => by
    obtain ⟨e1, e2, e3⟩ := frame_ends hr g.row
    have hz : r.length ≤ lim := by unfold lim; omega
    exact ⟨idx_tx (i := 0) e2 hz, idx_last (n := w + 1) e1 e3 hz⟩
  have c0 := e_map (gv := gv) (tv := tv) (cf := cf) (own := [18]) (elt := .idx (.var 18) (.con (.int 0))) (t := .name 18) (it := .seq (.var 16))
    (ρ := [v0, v1, v2, v3, v4, v5, v6, v7, v8, v9, v10, v11, v12, v13, v14, v15, .v (.d (mapD (frameM M w))), v17, v18, v19, v20]) (st := st) (l := frameM M w) (enc := tx) (fun _ => tx [35]) (by
      generalize (frameM M w).map tx = L at *
      generalize mapD (frameM M w) = FF at *
      simp [hs]) fun r hr => ⟨_, rfl, by simp [(rw1 r hr).1]⟩
  have c1 := e_map (gv := gv) (tv := tv) (cf := cf) (own := [18]) (elt := .idx (.var 18) (.neg (.con (.int 1)))) (t := .name 18) (it := .seq (.var 16))
    (ρ := [v0, v1, v2, v3, v4, v5, v6, v7, v8, v9, v10, v11, v12, v13, v14, v15, .v (.d (mapD (frameM M w))), v17, v18, v19, v20]) (st := st) (l := frameM M w) (enc := tx) (fun _ => tx [35]) (by
      generalize (frameM M w).map tx = L at *
      generalize mapD (frameM M w) = FF at *
      simp [hs]) fun r hr => ⟨_, rfl, by simp [(rw1 r hr).2]⟩
  have e : ((frameM M w).map fun _ => tx [35]) = (List.replicate (h + 2) 35).map fun c => tx [c] := by
    rw [List.map_replicate, ← fl]
    exact List.map_const' ..
  rw [e] at c0 c1
  have j := join_signs (l := List.replicate (h + 2) 35) (by rw [List.length_replicate]; unfold lim; omega)
  generalize (List.replicate (h + 2) 35).map (fun c => tx [c]) = L at *
  generalize tx (List.replicate (h + 2) 35) = HH at *
  generalize tx (List.replicate (w + 2) 35) = WW at *
  generalize mapD (frameM M w) = FF at *
  simp [f0, f1, c0, c1, mtD, j]
theorem twice (x : D) : binD .mul (.list [x]) (.int 2) = some (.list [x, x]) := by
  simp only [binD]
  rw [if_pos (by simp)]
  rfl
theorem dr : Dr Γ := ⟨rfl, rfl, rfl, rfl, rfl, rfl, rfl, rfl, rfl⟩
theorem mp : Mp gv Γ := ⟨rfl, rfl, rfl, rfl, rfl, rfl, rfl⟩
theorem mg : Mg Γ := ⟨rfl, rfl, rfl, rfl, rfl, rfl⟩
theorem law_body (k : Nat) (ns : List Int) : ∃ st, callN gv tv Γ (k + 10) lawId [.scr ns] [] = .ok (.d (.bool true)) st := by
  have hlim : (lim : Nat) = 16777216 := rfl
  obtain ⟨M, w, h, n1, g, hw, hh, hn1, cm⟩ := law_map_ok (gv := gv) (tv := tv) (k := k + 4) dr ns 0 (by omega) 7 (by omega) (by omega)
  obtain ⟨r0, t1, t2⟩ := g.top
  have t3 := g.high
  obtain ⟨r1, u1, u2⟩ := g.rot.top
  have u3 := g.rot.high
  obtain ⟨r2, v1, v2⟩ := g.flip.top
  have v3 := g.flip.high
  have cr := rotated_ok (gv := gv) (tv := tv) (k := k + 6) (st := town n1) mp mg g
  have cf := flipped_ok (gv := gv) (tv := tv) (k := k + 6) (st := town n1) mp mg g
  have cc := cells_ok (gv := gv) (tv := tv) (k := k + 8) (st := town n1) dr g
  have w1 := g.w1
  have h1 := g.h1
  have nw : cmpD .ne (.int (w : Nat)) (.int (w : Nat)) = some false := same_ne (sh_int _)
  have nh : cmpD .ne (.int (h : Nat)) (.int (h : Nat)) = some false := same_ne (sh_int _)
  -- the draws of the part
  have d1 := draw_ok (gv := gv) (tv := tv) (k := k + 6) dr.h0 dr.h1 dr.h2 ns n1 (by omega) (w : Nat) (by omega)
  obtain ⟨left, hl⟩ : ∃ l : Nat, mixed ns (n1 + 1) (w : Nat) = (l : Int) := ⟨(mixed ns (n1 + 1) (w : Nat)).toNat, by have := mixed_range ns (n1 + 1) (m := (w : Nat)) (by omega); omega⟩
  have hl2 : left < w := by have := mixed_range ns (n1 + 1) (m := (w : Nat)) (by omega); omega
  rw [hl] at d1
  have d2 := draw_ok (gv := gv) (tv := tv) (k := k + 6) dr.h0 dr.h1 dr.h2 ns (n1 + 1) (by omega) (h : Nat) (by omega)
  obtain ⟨top, ht⟩ : ∃ l : Nat, mixed ns (n1 + 1 + 1) (h : Nat) = (l : Int) := ⟨(mixed ns (n1 + 1 + 1) (h : Nat)).toNat, by have := mixed_range ns (n1 + 1 + 1) (m := (h : Nat)) (by omega); omega⟩
  have ht2 : top < h := by have := mixed_range ns (n1 + 1 + 1) (m := (h : Nat)) (by omega); omega
  rw [ht] at d2
  have d3 := draw_ok (gv := gv) (tv := tv) (k := k + 6) dr.h0 dr.h1 dr.h2 ns (n1 + 1 + 1) (by omega) ((w : Int) - (left : Int)) (by omega)
  obtain ⟨across, ha⟩ : ∃ l : Nat, 1 + mixed ns (n1 + 1 + 1 + 1) ((w : Int) - (left : Int)) = (l : Int) := ⟨(1 + mixed ns (n1 + 1 + 1 + 1) ((w : Int) - (left : Int))).toNat, by have := mixed_range ns (n1 + 1 + 1 + 1) (m := (w : Int) - (left : Int)) (by omega); omega⟩
  have ha2 : 1 ≤ across ∧ left + across ≤ w := by have := mixed_range ns (n1 + 1 + 1 + 1) (m := (w : Int) - (left : Int)) (by omega); omega
  have d4 := draw_ok (gv := gv) (tv := tv) (k := k + 6) dr.h0 dr.h1 dr.h2 ns (n1 + 1 + 1 + 1) (by omega) ((h : Int) - (top : Int)) (by omega)
  obtain ⟨down, hd⟩ : ∃ l : Nat, 1 + mixed ns (n1 + 1 + 1 + 1 + 1) ((h : Int) - (top : Int)) = (l : Int) := ⟨(1 + mixed ns (n1 + 1 + 1 + 1 + 1) ((h : Int) - (top : Int))).toNat, by have := mixed_range ns (n1 + 1 + 1 + 1 + 1) (m := (h : Int) - (top : Int)) (by omega); omega⟩
  have hd2 : 1 ≤ down ∧ top + down ≤ h := by have := mixed_range ns (n1 + 1 + 1 + 1 + 1) (m := (h : Int) - (top : Int)) (by omega); omega
  have pa := add_ok 1 (mixed ns (n1 + 1 + 1 + 1) ((w : Int) - (left : Int)))
  rw [ha] at pa
  have pd := add_ok 1 (mixed ns (n1 + 1 + 1 + 1 + 1) ((h : Int) - (top : Int)))
  rw [hd] at pd
  have gp := g.cut ha2.1 hd2.1 ha2.2 hd2.2
  have cp := cut_out_ok (gv := gv) (tv := tv) (k := k + 6) (st := town (n1 + 1 + 1 + 1 + 1)) mp mg g ha2.1 hd2.1 ha2.2 hd2.2
  have co := counted_ok (gv := gv) (tv := tv) (k := k + 6) (st := town (n1 + 1 + 1 + 1 + 1)) mp mg g
  have cc2 := cells_ok (gv := gv) (tv := tv) (k := k + 8) (st := town (n1 + 1 + 1 + 1 + 1)) dr gp
  refine ⟨town (n1 + 1 + 1 + 1 + 1), ?_⟩
  rw [call_of (F := l9) rfl _ ⟨rfl, by decide⟩]
  show (runSs gv tv (callN gv tv Γ (k + 9)) l9.body [.v (.scr ns), .un, .un, .un, .un, .un, .un, .un, .un, .un, .un, .un, .un, .un, .un, .un, .un, .un, .un, .un, .un] []).res = _
  refine seqR (ρ' := [.v (.scr ns), .v (.loc 0), .un, .un, .un, .un, .un, .un, .un, .un, .un, .un, .un, .un, .un, .un, .un, .un, .un, .un, .un]) (st' := town 0) (by simp [setS, town]) ?_
  refine seqR (ρ' := [.v (.scr ns), .v (.loc 0), .v (.d (mapD M)), .un, .un, .un, .un, .un, .un, .un, .un, .un, .un, .un, .un, .un, .un, .un, .un, .un, .un]) (st' := town n1) (by
    have e : ((7 : Nat) : Int) = 7 := rfl
    rw [e] at cm
    simp [setS, cm]) ?_
  refine seqR (ρ' := [.v (.scr ns), .v (.loc 0), .v (.d (mapD M)), .v (.d (.int (w : Nat))), .v (.d (.int (h : Nat))), .un, .un, .un, .un, .un, .un, .un, .un, .un, .un, .un, .un, .un, .un, .un, .un]) (st' := town n1) (by
    simp [setS, setAll, biD, t1, t2, t3]) ?_
  refine seqR (ρ' := [.v (.scr ns), .v (.loc 0), .v (.d (mapD M)), .v (.d (.int (w : Nat))), .v (.d (.int (h : Nat))), .v (.d (mapD (rotM M w))), .v (.d (mapD (flipM M))), .un, .un, .un, .un, .un, .un, .un, .un, .un, .un, .un, .un, .un, .un]) (st' := town n1) (by
    simp [setS, setAll, cr, cf]) ?_
  refine seqR (ρ' := [.v (.scr ns), .v (.loc 0), .v (.d (mapD M)), .v (.d (.int (w : Nat))), .v (.d (.int (h : Nat))), .v (.d (mapD (rotM M w))), .v (.d (mapD (flipM M))), .un, .un, .un, .un, .un, .un, .un, .un, .un, .un, .un, .un, .un, .un]) (st' := town n1) (if_no (by
    simp [biD, u1, u2, u3, v1, v2, v3, nw, nh])) ?_
  obtain ⟨a7, a8, a9, e6⟩ := loop1 (cf := callN gv tv Γ (k + 9)) (s0 := .v (.scr ns)) (s1 := .v (.loc 0)) (u1 := .un) (u2 := .un) (u3 := .un) (u4 := .un) (u5 := .un) (u6 := .un) (u7 := .un) (u8 := .un) (u9 := .un) (u10 := .un) (u11 := .un) g cc (fun x y hx hy => rotated_cell_ok (k := k + 5) mp mg g x y hx hy) .un .un .un
  refine seqR e6 ?_
  have rr1 := rotated_ok (gv := gv) (tv := tv) (k := k + 6) (st := town n1) mp mg g.rot
  have rr2 := rotated_ok (gv := gv) (tv := tv) (k := k + 6) (st := town n1) mp mg g.rot.rot
  have rr3 := rotated_ok (gv := gv) (tv := tv) (k := k + 6) (st := town n1) mp mg g.rot.rot.rot
  rw [rot4 g] at rr3
  have ff := flipped_ok (gv := gv) (tv := tv) (k := k + 6) (st := town n1) mp mg g.flip
  rw [flip2] at ff
  have nM : cmpD .ne (mapD M) (mapD M) = some false := same_ne (sh_map M)
  refine seqR (ρ' := [.v (.scr ns), .v (.loc 0), .v (.d (mapD M)), .v (.d (.int (w : Nat))), .v (.d (.int (h : Nat))), .v (.d (mapD (rotM M w))), .v (.d (mapD (flipM M))), a7, a8, a9, .un, .un, .un, .un, .un, .un, .un, .un, .un, .un, .un]) (st' := town n1) (if_no (by
    generalize mapD (rotM M w) = R1 at *
    generalize mapD (rotM (rotM M w) h) = R2 at *
    generalize mapD (rotM (rotM (rotM M w) h) w) = R3 at *
    generalize mapD (flipM M) = F1 at *
    generalize mapD M = MM at *
    simp [rr1, rr2, rr3, ff, nM])) ?_
  refine seqR (ρ' := [.v (.scr ns), .v (.loc 0), .v (.d (mapD M)), .v (.d (.int (w : Nat))), .v (.d (.int (h : Nat))), .v (.d (mapD (rotM M w))), .v (.d (mapD (flipM M))), a7, a8, a9, .v (.d (.int (left : Nat))), .v (.d (.int (top : Nat))), .un, .un, .un, .un, .un, .un, .un, .un, .un]) (st' := town (n1 + 1 + 1)) (by
    simp [setS, setAll, d1, d2]) ?_
  have sw := sub_ok w left
  have sh := sub_ok h top
  refine seqR (ρ' := [.v (.scr ns), .v (.loc 0), .v (.d (mapD M)), .v (.d (.int (w : Nat))), .v (.d (.int (h : Nat))), .v (.d (mapD (rotM M w))), .v (.d (mapD (flipM M))), a7, a8, a9, .v (.d (.int (left : Nat))), .v (.d (.int (top : Nat))), .v (.d (.int (across : Nat))), .v (.d (.int (down : Nat))), .un, .un, .un, .un, .un, .un, .un]) (st' := town (n1 + 1 + 1 + 1 + 1)) (by
    generalize mixed ns (n1 + 1 + 1 + 1) ((w : Int) - (left : Int)) = x1 at *
    generalize mixed ns (n1 + 1 + 1 + 1 + 1) ((h : Int) - (top : Int)) = x2 at *
    generalize (w : Int) - (left : Int) = z1 at *
    generalize (h : Int) - (top : Int) = z2 at *
    simp [Tg.put, Tgs.puts, sw, sh, d3, d4, pa, pd]) ?_
  refine seqR (ρ' := [.v (.scr ns), .v (.loc 0), .v (.d (mapD M)), .v (.d (.int (w : Nat))), .v (.d (.int (h : Nat))), .v (.d (mapD (rotM M w))), .v (.d (mapD (flipM M))), a7, a8, a9, .v (.d (.int (left : Nat))), .v (.d (.int (top : Nat))), .v (.d (.int (across : Nat))), .v (.d (.int (down : Nat))), .v (.d (mapD (cutM M left top across down))), .un, .un, .un, .un, .un, .un]) (st' := town (n1 + 1 + 1 + 1 + 1)) (by
    simp [setS, cp]) ?_
  have lp := gp.high
  have nd : cmpD .ne (.int (down : Nat)) (.int (down : Nat)) = some false := same_ne (sh_int _)
  have na : cmpD .ne (.int (across : Nat)) (.int (across : Nat)) = some false := same_ne (sh_int _)
  have nn : cmpD .ne (.list []) (.list []) = some false := by decide
  have fl := e_filter (gv := gv) (tv := tv) (cf := callN gv tv Γ (k + 9)) (own := [18]) (elt := .var 18) (c := .cmp .ne (.bi .len (.cons (.var 18) .nil)) (.var 12)) (t := .name 18) (it := .seq (.var 14))
    (ρ := [.v (.scr ns), .v (.loc 0), .v (.d (mapD M)), .v (.d (.int (w : Nat))), .v (.d (.int (h : Nat))), .v (.d (mapD (rotM M w))), .v (.d (mapD (flipM M))), a7, a8, a9, .v (.d (.int (left : Nat))), .v (.d (.int (top : Nat))), .v (.d (.int (across : Nat))), .v (.d (.int (down : Nat))), .v (.d (mapD (cutM M left top across down))), .un, .un, .un, .un, .un, .un])
    (st := town (n1 + 1 + 1 + 1 + 1)) (l := cutM M left top across down) (enc := tx) tx (fun _ => false) (by
      have : seqD (mapD (cutM M left top across down)) = some ((cutM M left top across down).map tx) := rfl
      generalize mapD (cutM M left top across down) = CC at *
      generalize (cutM M left top across down).map tx = L at *
      simp [this]) (fun r hr => by
      have e1 := len_tx (gp.rl hr)
      rw [gp.row r hr] at e1
      exact ⟨_, rfl, by simp [biD, e1, na], fun h => by cases h⟩)
  have fe : ((cutM M left top across down).filter fun _ => false) = [] := by simp
  rw [fe, List.map_nil] at fl
  refine seqR (ρ' := [.v (.scr ns), .v (.loc 0), .v (.d (mapD M)), .v (.d (.int (w : Nat))), .v (.d (.int (h : Nat))), .v (.d (mapD (rotM M w))), .v (.d (mapD (flipM M))), a7, a8, a9, .v (.d (.int (left : Nat))), .v (.d (.int (top : Nat))), .v (.d (.int (across : Nat))), .v (.d (.int (down : Nat))), .v (.d (mapD (cutM M left top across down))), .un, .un, .un, .un, .un, .un]) (st' := town (n1 + 1 + 1 + 1 + 1)) (if_no (by
    generalize mapD (cutM M left top across down) = CC at *
    simp [biD, lp, nd, fl, nn])) ?_
  obtain ⟨b7, b8, e12⟩ := loop2 (cf := callN gv tv Γ (k + 9)) (s0 := .v (.scr ns)) (s1 := .v (.loc 0)) (s3 := .v (.d (.int (w : Nat)))) (s4 := .v (.d (.int (h : Nat)))) (s5 := .v (.d (mapD (rotM M w)))) (s6 := .v (.d (mapD (flipM M)))) (s12 := .v (.d (.int (across : Nat)))) (s13 := .v (.d (.int (down : Nat)))) (u5 := .un) (u6 := .un) (u7 := .un) (u8 := .un) (u9 := .un) (u10 := .un) g ha2.1 hd2.1 ha2.2 hd2.2 cc2 a7 a8 a9
  refine seqR e12 ?_
  have hf := g.flat
  have hf' : M.flatten.length ≤ lim := by omega
  have jr := join_rows hf'
  have li : listD (mapD M) = some (.list (M.map tx)) := rfl
  refine seqR (ρ' := [.v (.scr ns), .v (.loc 0), .v (.d (mapD M)), .v (.d (.int (w : Nat))), .v (.d (.int (h : Nat))), .v (.d (mapD (rotM M w))), .v (.d (mapD (flipM M))), b7, b8, a9, .v (.d (.int (left : Nat))), .v (.d (.int (top : Nat))), .v (.d (.int (across : Nat))), .v (.d (.int (down : Nat))), .v (.d (mapD (cutM M left top across down))), .v (.d (tx M.flatten)), .un, .un, .un, .un, .un]) (st' := town (n1 + 1 + 1 + 1 + 1)) (by
    generalize M.flatten = F at *
    generalize M.map tx = R at *
    generalize mapD M = MM at *
    simp [setS, biD, li, mtD, jr]) ?_
  have cr2 := count_row (cf := callN gv tv Γ (k + 9)) (F := M.flatten) hf' (st := town (n1 + 1 + 1 + 1 + 1)) (v0 := .v (.scr ns)) (v1 := .v (.loc 0)) (v2 := .v (.d (mapD M))) (v3 := .v (.d (.int (w : Nat)))) (v4 := .v (.d (.int (h : Nat)))) (v5 := .v (.d (mapD (rotM M w)))) (v6 := .v (.d (mapD (flipM M)))) (v7 := b7) (v8 := b8) (v9 := a9) (v10 := .v (.d (.int (left : Nat)))) (v11 := .v (.d (.int (top : Nat)))) (v12 := .v (.d (.int (across : Nat)))) (v13 := .v (.d (.int (down : Nat)))) (v14 := .v (.d (mapD (cutM M left top across down)))) (v16 := .un) (v17 := .un) (v18 := .un) (v19 := .un) (v20 := .un)
  have ncnt : cmpD .ne (.tuple ([46, 35, 61, 43, 47].map fun c => PyData.int (M.flatten.count c : Nat))) (.tuple ([46, 35, 61, 43, 47].map fun c => PyData.int (M.flatten.count c : Nat))) = some false := same_ne (flat_sh (n := 1) (flat_tuple fun x hx => by
    obtain ⟨c, _, rfl⟩ := List.mem_map.mp hx
    exact flat_int 0 _) (by omega))
  refine seqR (ρ' := [.v (.scr ns), .v (.loc 0), .v (.d (mapD M)), .v (.d (.int (w : Nat))), .v (.d (.int (h : Nat))), .v (.d (mapD (rotM M w))), .v (.d (mapD (flipM M))), b7, b8, a9, .v (.d (.int (left : Nat))), .v (.d (.int (top : Nat))), .v (.d (.int (across : Nat))), .v (.d (.int (down : Nat))), .v (.d (mapD (cutM M left top across down))), .v (.d (tx M.flatten)), .un, .un, .un, .un, .un]) (st' := town (n1 + 1 + 1 + 1 + 1)) (if_no (by
    generalize ([46, 35, 61, 43, 47].map fun c => PyData.int (M.flatten.count c : Nat)) = CL at *
    simp [co, cr2, biD, tupleD, ncnt])) ?_
  by_cases hbig : w > 5 ∨ h > 5
  · refine seqE ?_
    have e : evE gv tv (callN gv tv Γ (k + 9)) (.or (.cmp .gt (.var 3) (.con (.int 5))) (.cmp .gt (.var 4) (.con (.int 5)))) [.v (.scr ns), .v (.loc 0), .v (.d (mapD M)), .v (.d (.int (w : Nat))), .v (.d (.int (h : Nat))), .v (.d (mapD (rotM M w))), .v (.d (mapD (flipM M))), b7, b8, a9, .v (.d (.int (left : Nat))), .v (.d (.int (top : Nat))), .v (.d (.int (across : Nat))), .v (.d (.int (down : Nat))), .v (.d (mapD (cutM M left top across down))), .v (.d (tx M.flatten)), .un, .un, .un, .un, .un] (town (n1 + 1 + 1 + 1 + 1)) = .ok (.d (.bool true)) (town (n1 + 1 + 1 + 1 + 1)) := by
      by_cases hw6 : w > 5
      · have g1 : cmpD .gt (.int (w : Nat)) (.int 5) = some true := by simp [cmpD]; omega
        simp [g1]
      · have g1 : cmpD .gt (.int (w : Nat)) (.int 5) = some false := by simp [cmpD]; omega
        have g2 : cmpD .gt (.int (h : Nat)) (.int 5) = some true := by simp [cmpD]; omega
        simp [g1, g2]
    rw [if_yes e]
    simp
  · have w5 : w ≤ 5 := by omega
    have h5 : h ≤ 5 := by omega
    have g1 : cmpD .gt (.int (w : Nat)) (.int 5) = some false := by simp [cmpD]; omega
    have g2 : cmpD .gt (.int (h : Nat)) (.int 5) = some false := by simp [cmpD]; omega
    have fr := framed_ok (gv := gv) (tv := tv) (k := k + 6) (st := town (n1 + 1 + 1 + 1 + 1)) mp mg g h5 w5
    have gf := g.frame h5 w5
    have lf := gf.high
    have cf2 := cut_out_ok (gv := gv) (tv := tv) (k := k + 6) (st := town (n1 + 1 + 1 + 1 + 1)) mp mg gf (left := 1) (top := 1) (wide := w) (high := h) w1 h1 (by omega) (by omega)
    rw [frame_cut g] at cf2
    refine seqR (ρ' := [.v (.scr ns), .v (.loc 0), .v (.d (mapD M)), .v (.d (.int (w : Nat))), .v (.d (.int (h : Nat))), .v (.d (mapD (rotM M w))), .v (.d (mapD (flipM M))), b7, b8, a9, .v (.d (.int (left : Nat))), .v (.d (.int (top : Nat))), .v (.d (.int (across : Nat))), .v (.d (.int (down : Nat))), .v (.d (mapD (cutM M left top across down))), .v (.d (tx M.flatten)), .un, .un, .un, .un, .un]) (st' := town (n1 + 1 + 1 + 1 + 1)) (if_no (by simp [g1, g2])) ?_
    refine seqR (ρ' := [.v (.scr ns), .v (.loc 0), .v (.d (mapD M)), .v (.d (.int (w : Nat))), .v (.d (.int (h : Nat))), .v (.d (mapD (rotM M w))), .v (.d (mapD (flipM M))), b7, b8, a9, .v (.d (.int (left : Nat))), .v (.d (.int (top : Nat))), .v (.d (.int (across : Nat))), .v (.d (.int (down : Nat))), .v (.d (mapD (cutM M left top across down))), .v (.d (tx M.flatten)), .v (.d (mapD (frameM M w))), .un, .un, .un, .un]) (st' := town (n1 + 1 + 1 + 1 + 1)) (by
      generalize mapD (frameM M w) = FF at *
      simp [setS, fr]) ?_
    have fro := frame_rows (cf := callN gv tv Γ (k + 9)) g h5 w5 (st := town (n1 + 1 + 1 + 1 + 1)) (v0 := .v (.scr ns)) (v1 := .v (.loc 0)) (v2 := .v (.d (mapD M))) (v3 := .v (.d (.int (w : Nat)))) (v4 := .v (.d (.int (h : Nat)))) (v5 := .v (.d (mapD (rotM M w)))) (v6 := .v (.d (mapD (flipM M)))) (v7 := b7) (v8 := b8) (v9 := a9) (v10 := .v (.d (.int (left : Nat)))) (v11 := .v (.d (.int (top : Nat)))) (v12 := .v (.d (.int (across : Nat)))) (v13 := .v (.d (.int (down : Nat)))) (v14 := .v (.d (mapD (cutM M left top across down)))) (v15 := .v (.d (tx M.flatten))) (v17 := .un) (v18 := .un) (v19 := .un) (v20 := .un)
    refine seqR (ρ' := [.v (.scr ns), .v (.loc 0), .v (.d (mapD M)), .v (.d (.int (w : Nat))), .v (.d (.int (h : Nat))), .v (.d (mapD (rotM M w))), .v (.d (mapD (flipM M))), b7, b8, a9, .v (.d (.int (left : Nat))), .v (.d (.int (top : Nat))), .v (.d (.int (across : Nat))), .v (.d (.int (down : Nat))), .v (.d (mapD (cutM M left top across down))), .v (.d (tx M.flatten)), .v (.d (mapD (frameM M w))), .v (.d (.list [tx (List.replicate (w + 2) 35), tx (List.replicate (w + 2) 35), tx (List.replicate (h + 2) 35), tx (List.replicate (h + 2) 35)])), .un, .un, .un]) (st' := town (n1 + 1 + 1 + 1 + 1)) (by
      rw [rs_set, fro]
      simp [setS]) ?_
    have mw := mul_sign (c := 35) (n := w + 2) (by omega)
    rw [show ((w + 2 : Nat) : Int) = (w : Int) + 2 by omega] at mw
    have mh := mul_sign (c := 35) (n := h + 2) (by omega)
    rw [show ((h + 2 : Nat) : Int) = (h : Int) + 2 by omega] at mh
    have aw := add_ok w 2
    have ah := add_ok h 2
    have nl : cmpD .ne (.list [tx (List.replicate (w + 2) 35), tx (List.replicate (w + 2) 35), tx (List.replicate (h + 2) 35), tx (List.replicate (h + 2) 35)]) (.list [tx (List.replicate (w + 2) 35), tx (List.replicate (w + 2) 35), tx (List.replicate (h + 2) 35), tx (List.replicate (h + 2) 35)]) = some false := same_ne (flat_sh (n := 1) (flat_list (by
      intro z hz
      simp only [List.mem_cons, List.not_mem_nil, or_false] at hz
      rcases hz with rfl | rfl | rfl | rfl <;> exact flat_tx 0 _)) (by omega))
    have tw := twice (tx (List.replicate (w + 2) 35))
    have th := twice (tx (List.replicate (h + 2) 35))
    have ll : binD .add (.list [tx (List.replicate (w + 2) 35), tx (List.replicate (w + 2) 35)]) (.list [tx (List.replicate (h + 2) 35), tx (List.replicate (h + 2) 35)]) = some (.list [tx (List.replicate (w + 2) 35), tx (List.replicate (w + 2) 35), tx (List.replicate (h + 2) 35), tx (List.replicate (h + 2) 35)]) := by
      simp only [binD]
      rw [if_pos (by simp [lim])]
      rfl
    refine seqR (ρ' := [.v (.scr ns), .v (.loc 0), .v (.d (mapD M)), .v (.d (.int (w : Nat))), .v (.d (.int (h : Nat))), .v (.d (mapD (rotM M w))), .v (.d (mapD (flipM M))), b7, b8, a9, .v (.d (.int (left : Nat))), .v (.d (.int (top : Nat))), .v (.d (.int (across : Nat))), .v (.d (.int (down : Nat))), .v (.d (mapD (cutM M left top across down))), .v (.d (tx M.flatten)), .v (.d (mapD (frameM M w))), .v (.d (.list [tx (List.replicate (w + 2) 35), tx (List.replicate (w + 2) 35), tx (List.replicate (h + 2) 35), tx (List.replicate (h + 2) 35)])), .un, .un, .un]) (st' := town (n1 + 1 + 1 + 1 + 1)) (if_no (by
      clear fro
      generalize tx (List.replicate (w + 2) 35) = WW at *
      generalize tx (List.replicate (h + 2) 35) = HH at *
      generalize (w : Int) + 2 = z1 at *
      generalize (h : Int) + 2 = z2 at *
      simp [aw, ah, mw, mh, tw, th, ll, nl])) ?_
    refine seqE ?_
    have eM : cmpD .eq (mapD M) (mapD M) = some true := same_eq (sh_map M)
    rw [show ((h + 2 : Nat) : Int) = (h : Int) + 2 by omega] at lf
    have eh : cmpD .eq (.int ((h : Int) + 2)) (.int ((h : Int) + 2)) = some true := same_eq (sh_int _)
    have c1 : ((1 : Nat) : Int) = 1 := rfl
    rw [c1] at cf2
    clear fro fr
    generalize mapD (frameM M w) = FF at *
    generalize mapD M = MM at *
    generalize (h : Int) + 2 = z2 at *
    simp [cf2, eM, biD, lf, ah, eh]
theorem answers : ∀ ns : List Int, ns.length ≤ 63 → ∃ st, callN gv tv Γ 200 lawId [.scr ns] [] = .ok (.d (.bool true)) st := fun ns _ => law_body 190 ns
end Lw
/-! the head of law_k19_whole_told_anew -/
namespace Lw
open PySem PySem.Spec PyProof.Rows L2 Ip
def top (i : Nat) : Stmt := PySem.Challenge.pw_cellsights_k19_whole_told_anew.main.body.getD i (.Pass ⟨0, 0, 0, 0⟩)
def T : Tab := ⟨[(0, ⟨"is_whole", ["thing", "low", "most"], ["thing", "low", "most"], top 8, f0⟩),
  (1, ⟨"is_map", ["thing", "sign", "row"], ["thing"], top 9, f1⟩),
  (2, ⟨"need_map", ["thing"], ["thing"], top 10, f2⟩),
  (3, ⟨"is_cell", ["some", "thing"], ["some", "thing"], top 11, f3⟩),
  (4, ⟨"need_cell", ["some", "thing"], ["some", "thing"], top 12, f4⟩),
  (57, ⟨"rotated", ["some", "left", "row"], ["some"], top 14, f57⟩),
  (58, ⟨"rotated_cell", ["some", "cell"], ["some", "cell"], top 15, f58⟩),
  (59, ⟨"flipped", ["some", "row"], ["some"], top 16, f59⟩),
  (60, ⟨"cut_out", ["some", "left", "top", "wide", "high", "row"], ["some", "left", "top", "wide", "high"], top 17, f60⟩),
  (61, ⟨"framed", ["some", "wall", "row"], ["some"], top 18, f61⟩),
  (62, ⟨"counted", ["some", "whole", "sign"], ["some"], top 19, f62⟩),
  (1000, ⟨"_law_cell_at", ["_law_script", "_law_k"], ["_law_script", "_law_k"], top 21, l0⟩),
  (1001, ⟨"_law_mixed", ["_law_script", "_law_k", "_law_many", "_law_drawn"], ["_law_script", "_law_k", "_law_many"], top 22, l1⟩),
  (1002, ⟨"_law_draw", ["_law_script", "_law_town", "_law_many"], ["_law_script", "_law_town", "_law_many"], top 23, l2⟩),
  (1003, ⟨"_law_pick", ["_law_script", "_law_town", "_law_some"], ["_law_script", "_law_town", "_law_some"], top 24, l3⟩),
  (1004, ⟨"_law_map", ["_law_script", "_law_town", "_law_most", "_law_wide", "_law_high", "_law_signs", "_law_top", "_law_left"], ["_law_script", "_law_town", "_law_most"], top 25, l4⟩),
  (1005, ⟨"_law_cells", ["_law_some", "_law_made", "_law_left", "_law_top"], ["_law_some"], top 26, l5⟩),
  (1006, ⟨"_law_sign", ["_law_some", "_law_cell"], ["_law_some", "_law_cell"], top 27, l6⟩),
  (1007, ⟨"_law_floors", ["_law_some", "_law_cell"], ["_law_some"], top 28, l7⟩),
  (1008, ⟨"_law_near", ["_law_some", "_law_cell", "_law_x", "_law_y", "_law_other"], ["_law_some", "_law_cell"], top 29, l8⟩),
  (1009, ⟨"law", ["_law_script", "_law_town", "_law_some", "_law_wide", "_law_high", "_law_made", "_law_other", "_law_x", "_law_y", "_law_here", "_law_left", "_law_top", "_law_across", "_law_down", "_law_part", "_law_whole", "_law_frame", "_law_rows", "_law_row", "_law_one", "_law_sign_here"], ["_law_script"], top 30, l9⟩)], [(0, "MOST", (.int 7)), (1, "SIGNS", (tx [46, 35, 61, 43, 47]))], [(1, "NoMap"), (2, "NoCell"), (12, "NoPart")]⟩
theorem chk_all : (T.defs.all fun p => p.2.ok (T.lnk tv)) = true := by kernel_rfl
abbrev R : PySem.W.OpenRow := PySem.W.OpenLaw.row PySem.Challenge.rw_cellsights_k19_whole_told_anew
def ob (s : PySem.W.SharedT) : Al2 := ob2 4 T (HandSHeadRun.getT s)
theorem ob_eq (s : PySem.W.SharedT) : ob s = (hook2 4 T).obs s.abs := ob2_eq (HandSHeadRun.getT_eq s)
def loose : List Str := (["__name__", "SightError", "NoMap", "NoCell", "NoPart", "MOST", "SIGNS", "is_whole", "is_map", "need_map", "is_cell", "need_cell", "rotated", "rotated_cell", "flipped", "cut_out", "framed", "counted", "_law_cell_at", "_law_mixed", "_law_draw", "_law_pick", "_law_map", "_law_cells", "_law_sign", "_law_floors", "_law_near"] : List Str)
theorem run (w : World) : HandSHeadRun.RunEq R (PySem.W.view R.prog [30]) (hook2 4 T) ob 1500 loose w := by
  intro os
  kernel_rfl
theorem gv_eq : (T.lnk tv).gv = gv := by
  funext g
  show (T.cons.find? fun p => p.1 == g).map (·.2.2) = (consts.find? fun p => p.1 == g).map (·.2)
  simp only [T, consts, List.find?_cons, List.find?_nil]
  repeat' split
  all_goals rfl
theorem Γ_eq : (T.lnk tv).Γ = Γ := by
  funext f
  show ((T.defs.find? fun p => p.1 == f).map (·.2)).map (·.F) = (terms.find? fun p => p.1 == f).map (·.2)
  simp only [T, terms, List.find?_cons, List.find?_nil]
  repeat' split
  all_goals rfl
end Lw
namespace Lw
open PySem PySem.Spec PyProof.Rows L2 Ip
def lawD : FD := ((T.lnk tv).defs lawId).getD ⟨⟨#[]⟩, [], [], .Pass ⟨0, 0, 0, 0⟩, ⟨0, 0, .nil⟩⟩
theorem lawD_eq : (T.lnk tv).defs lawId = some lawD := by kernel_rfl
theorem lawD_ps : lawD.ps = [("_law_script" : Str)] := by kernel_rfl
theorem lawD_name : lawD.name = ("law" : Str) := by kernel_rfl
theorem tells_true : ∀ ns : List Int, ns.length ≤ 63 → ∃ st, callN (T.lnk tv).gv tv (T.lnk tv).Γ 200 lawId [.scr ns] [] = .ok (.d (.bool true)) st := fun ns hn => by
  rw [gv_eq, Γ_eq]
  exact answers ns hn
end Lw
open PySem PySem.W PySem.Calls PyProof.Rows
theorem PySem.Challenge.cw_cellsights_k19_whole_told_anew_holds : PySem.Challenge.rw_cellsights_k19_whole_told_anew.Holds := by
  w_on; o_law
  refine HandSHeadRun.head_any (r := Lw.R) (q := view Lw.R.prog [30]) (H := Ip.hook2 4 Lw.T) (ob := Lw.ob) (M := 1500) (loose := Lw.loose) (d := HandSHeadRun.topDef Lw.R.prog 30) (kwd := []) Lw.ob_eq
    (by kernel_rfl) (fun s => by kernel_rfl) Lw.run (by kernel_rfl) (by kernel_rfl) (by kernel_rfl) (by rfl) (by first | assumption | decide +kernel) (by decide +kernel) ⟨rfl, rfl, rfl, rfl, rfl, by decide +kernel⟩ ?hw ?hc
  case hw => w_witness2
  case hc =>
    refine Ip.walkI (l := PySem.Challenge.rw_cellsights_k19_whole_told_anew) (k := 200) (x := "_law_script") rfl (by kernel_rfl) ⟨rfl, by decide, by decide⟩ ?F
    intro w mg fa h Y G hmg0
    obtain ⟨K, KX, c, c2⟩ := Y
    have hmg : mg Lw.lawD.name = some (.ref fa) := by
      have e : (HandSHeadRun.topDef Lw.R.prog 30).name = Lw.lawD.name := by kernel_rfl
      rw [← e]
      exact hmg0
    obtain ⟨fd, sp, hb, hsp, hF⟩ := Ip.facts_of Lw.chk_all Lw.lawD_eq Lw.lawD_ps Lw.tells_true (P := (PySem.Challenge.rw_cellsights_k19_whole_told_anew).prog) (w := w) KX G hmg c c2
    exact ⟨K, fd, sp, KX, hb, hsp, hF⟩
