import PyProof.Rows.All
import Wide.All
import OpenK.AllK
import Wide.FinOn
import HandS.ForMost
import HandS.ForExc
import HandS.Wide
import HandS.Text
import HandS.TupAny
import HandS.Deep
import HandS.Replace
import HandS.Flow
import HandS.TupMul
import HandS.TupLe
import KE.DataMinMax
import KE.DataAny
import KE.DataIsa
import KE.DataFind
import HandS.RaiseMore
import HandS.FStrTup
import HandS.Star
import HandS.More
import HandS.WideMore
import HandS.Zip
import HandS.Style
import HandS.HotCalls
import HandS.ExcIs
import HandS.ExcOwn
import HandS.TryMany
import HandS.Defaults
import HandS.HeadHook1
import HandS.HeadHook2
import HandS.HeadEnd
import HandS.Head0
import HandS.Head1
import HandS.Head2
import HandS.HeadHook3
import PySem.Challenge.RW_kneadedlines_k21_lines_and_forms
set_option Elab.async false
set_option linter.all false
section
set_option maxRecDepth 100000
namespace DK
open PySem

abbrev D := PyData
inductive Kd where | mine | loan | lock
  deriving DecidableEq
inductive Slot where | no | val (d : D) | own (k : Kd) (xs : List D)
abbrev Gam := List Slot
inductive EV where | val (d : D) | own (xs : List D) | bor (i : Nat)
inductive Res (α : Type) where | ok (a : α) (g : Gam) | exc (c : Nat) (g : Gam) | bad
abbrev Ev (α : Type) := Gam → Res α
inductive CRes where | ret (r : EV) (fin : Gam) | exc (c : Nat) (fin : Gam) | bad
inductive Flow where | next (g : Gam) | ret (r : EV) (g : Gam) | brk (g : Gam) | cont (g : Gam) | exc (c : Nat) (g : Gam) | bad

@[inline] def pur {α : Type} (a : α) : Ev α := fun g => .ok a g
@[inline] def bad {α : Type} : Ev α := fun _ => .bad
@[inline] def bnd {α β : Type} (m : Ev α) (f : α → Ev β) : Ev β := fun g => match m g with | .ok a g' => f a g' | .exc c g' => .exc c g' | .bad => .bad
@[inline] def opt {α : Type} : Option α → Ev α | some a => pur a | none => bad

inductive Bop where | add | sub | mul | div | mod | shl | shr | bor
  deriving DecidableEq
inductive Cop where | eq | ne | lt | le | gt | ge | isn | notn | ist | notist | isin | notin
  deriving DecidableEq
inductive Blt where | len | abs | min | max | sum | sorted | all | any | tuple | list | int | str | repr | bool | isint | isstr | istup
  deriving DecidableEq
inductive Meth where | index | count | join | split
  deriving DecidableEq
inductive SlK where | lo | hi
  deriving DecidableEq
inductive Mut where | append | extend | insert | pop | reverse
  deriving DecidableEq
inductive Mode where | m | r
  deriving DecidableEq
inductive Tg where | name (i : Nat) | tup (ts : List Tg)

mutual
inductive E where
  | var (i : Nat)
  | glob (j : Nat)
  | cst (d : D)
  | bin (o : Bop) (a b : E)
  | neg (a : E)
  | not (a : E)
  | and (a b : E)
  | or (a b : E)
  | cmp (o : Cop) (a b : E)
  | cmp2 (o p : Cop) (a b c : E)
  | ife (c a b : E)
  | call (f : Nat) (as : As)
  | callix (fs : List Nat) (ix : E) (as : As)
  | din (ng : Bool) (ks : List Str) (a : E)
  | dcall (ks : List Str) (fs : List Nat) (ix : E) (as : As)
  | blt (b : Blt) (as : Es)
  | meth (m : Meth) (a : E) (as : Es)
  | mut (m : Mut) (i : Nat) (as : Es)
  | tup (as : Es)
  | lst (as : Es)
  | sub (a i : E)
  | slc (k : SlK) (a b : E)
  | slc2 (a b c : E)
  | rev (a : E)
  | comp (elt : E) (tg : Tg) (it : I) (cs : Es) (own : List Nat)
  | comp2 (elt : E) (tg : Tg) (it : I) (tg2 : Tg) (it2 : I) (cs : Es) (own own2 : List Nat)
  | no
inductive Es where | nil | cons (e : E) (r : Es) | star (e : E) (r : Es)
inductive As where | nil | cons (m : Mode) (e : E) (r : As)
inductive I where | e (e : E) | range (as : Es) | zip (as : Es) | enum (as : Es)
end
mutual
inductive S where
  | expr (e : E)
  | set (i : Nat) (frz : Bool) (e : E)
  | sett (t : Tg) (e : E)
  | aug (i : Nat) (o : Bop) (e : E)
  | setix (i : Nat) (ix e : E)
  | ret (e : E)
  | ifs (c : E) (a b : Ss)
  | whil (c : E) (b : Ss)
  | fors (t : Tg) (it : I) (b : Ss)
  | raise (c : Nat)
  | brk | cont | pass
  | tryk (b : Ss) (i : Nat) (ks : List Str) (h : Option (Str × Bool))
inductive Ss where | nil | cons (s : S) (r : Ss)
end

/-! ### data -/
def lim : Nat := 16777216
def truth : D → Option Bool
  | .none => some false
  | .bool b => some b
  | .int i => some (i != 0)
  | .str x => if x.length ≤ lim then some ((x.length : Int) != 0) else none
  | .list xs => some (!xs.isEmpty)
  | .tuple xs => some (!xs.isEmpty)
  | .dict _ => none
def small (i : Int) : Bool := decide (-4611686018427387904 ≤ i) && decide (i < 4611686018427387904)
def ixOf (i : Int) (n : Nat) : Option Nat := if 0 ≤ i then (if i < (n : Int) then some i.toNat else none) else if 0 ≤ i + n then some (i + n).toNat else none
def binD (o : Bop) : D → D → Option EV
  | .int a, .int b => match o with
    | .add => some (.val (.int (a + b)))
    | .sub => some (.val (.int (a - b)))
    | .mul => if a.natAbs.log2 + b.natAbs.log2 < 1000000 then some (.val (.int (a * b))) else none
    | .div => if 0 < b ∧ b.natAbs.log2 < 9000 then some (.val (.int (a / b))) else none
    | .mod => if 0 < b then some (.val (.int (a % b))) else none
    | .shl => if 0 ≤ b ∧ b ≤ 1000000 ∧ a.natAbs < 18446744073709551616 then some (.val (.int (a * 2 ^ b.toNat))) else none
    | .shr => if 0 ≤ b then some (.val (.int (a / 2 ^ b.toNat))) else none
    | .bor => some (.val (.int (Builtin.bitOr a b)))
  | .str a, .str b => match o with
    | .add => if a.length + b.length ≤ lim then some (.val (.str (a ++ b))) else none
    | _ => none
  | .list a, .list b => match o with
    | .add => if a.length + b.length ≤ lim then some (.own (a ++ b)) else none
    | _ => none
  | .tuple a, .tuple b => match o with
    | .add => if a.length + b.length ≤ lim then some (.val (.tuple (a ++ b))) else none
    | _ => none
  | .list a, .int k => match o with
    | .mul => if small k && decide (a.length * k.toNat ≤ lim) then some (.own (List.replicate k.toNat a).flatten) else none
    | _ => none
  | .tuple a, .int k => match o with
    | .mul => if a.isEmpty = false ∧ 1 ≤ k ∧ k ≤ 1000 ∧ a.length ≤ 1000 then some (.val (.tuple (List.replicate k.toNat a).flatten)) else none
    | _ => none
  | _, _ => none
def augD (o : Bop) : D → D → Option D
  | .int a, .int b => match o with
    | .add => some (.int (a + b))
    | .sub => some (.int (a - b))
    | .mul => if a.natAbs.log2 + b.natAbs.log2 < 1000000 then some (.int (a * b)) else none
    | .div => if 0 < b ∧ b.natAbs.log2 < 9000 then some (.int (a / b)) else none
    | .mod => if 0 < b then some (.int (a % b)) else none
    | .bor => some (.int (Builtin.bitOr a b))
    | _ => none
  | .str a, .str b => match o with
    | .add => if a.length + b.length ≤ lim then some (.str (a ++ b)) else none
    | _ => none
  | _, _ => none
def shapedD (d : D) : Bool := SeqAt.shaped d
def isN : D → Bool | .none => true | _ => false
def cmpD (o : Cop) (x y : D) : Option Bool := match o with
  | .eq => if shapedD x && shapedD y then some (PyData.eqv x y) else none
  | .ne => if shapedD x && shapedD y then some (!PyData.eqv x y) else none
  | .lt => match x, y with
    | .int a, .int b => some (decide (a < b))
    | .str a, .str b => some (decide (a.cps.toList < b.cps.toList))
    | _, _ => none
  | .le => match x, y with
    | .int a, .int b => some (decide (a ≤ b))
    | .str a, .str b => some (!decide (b.cps.toList < a.cps.toList))
    | _, _ => none
  | .gt => match x, y with
    | .int a, .int b => some (decide (b < a))
    | .str a, .str b => some (decide (b.cps.toList < a.cps.toList))
    | _, _ => none
  | .ge => match x, y with
    | .int a, .int b => some (decide (b ≤ a))
    | .str a, .str b => some (!decide (a.cps.toList < b.cps.toList))
    | _, _ => none
  | .isn => match y with | .none => some (isN x) | _ => none
  | .notn => match y with | .none => some (!isN x) | _ => none
  | .ist => match x, y with | .bool a, .bool b => some (a == b) | _, _ => none
  | .notist => match x, y with | .bool a, .bool b => some (!(a == b)) | _, _ => none
  | .isin => match y with
    | .list ys => if shapedD x && shapedD (.list ys) then some (ys.any fun z => PyData.eqv z x) else none
    | .tuple ys => if shapedD x && shapedD (.tuple ys) then some (ys.any fun z => PyData.eqv z x) else none
    | .str z => match x with | .str a => (match a.cps.toList with | [c] => some (decide (c ∈ z.cps.toList)) | _ => none) | _ => none
    | _ => none
  | .notin => match y with
    | .list ys => if shapedD x && shapedD (.list ys) then some (!ys.any fun z => PyData.eqv z x) else none
    | .tuple ys => if shapedD x && shapedD (.tuple ys) then some (!ys.any fun z => PyData.eqv z x) else none
    | .str z => match x with | .str a => (match a.cps.toList with | [c] => some (!decide (c ∈ z.cps.toList)) | _ => none) | _ => none
    | _ => none
def intL : List D → Option (List Int)
  | [] => some []
  | .int i :: r => (intL r).map (i :: ·)
  | _ => none
def boolL : List D → Option (List Bool)
  | [] => some []
  | .bool i :: r => (boolL r).map (i :: ·)
  | _ => none
def strL : List D → Option (List Str)
  | [] => some []
  | .str i :: r => (strL r).map (i :: ·)
  | _ => none
def items : D → Option (List D)
  | .list xs => some xs
  | .tuple xs => some xs
  | _ => none
def isIntD : D → Bool | .int _ => true | .bool _ => true | _ => false
def isStrD : D → Bool | .str _ => true | _ => false
def isTupD : D → Bool | .tuple _ => true | _ => false
mutual
def reprCost : D → Nat
  | .none => 4
  | .bool _ => 5
  | .int _ => 2000
  | .str x => 10 * x.length + 2
  | .list xs => reprCostL xs + 4
  | .tuple xs => reprCostL xs + 4
  | .dict _ => 0
def reprCostL : List D → Nat
  | [] => 0
  | x :: r => reprCost x + 2 + reprCostL r
end
def bltD (b : Blt) (as : List D) : Option EV := match b, as with
  | .len, [.str x] => if x.length ≤ lim then some (.val (.int x.length)) else none
  | .len, [.list xs] => some (.val (.int xs.length))
  | .len, [.tuple xs] => some (.val (.int xs.length))
  | .abs, [.int i] => some (.val (.int (if i < 0 then -i else i)))
  | .min, [.int i, .int j] => some (.val (.int (if j < i then j else i)))
  | .max, [.int i, .int j] => some (.val (.int (if j > i then j else i)))
  | .min, [.list xs] => match intL xs with | some (x :: r) => some (.val (.int (r.foldl min x))) | _ => none
  | .max, [.list xs] => match intL xs with | some (x :: r) => some (.val (.int (r.foldl max x))) | _ => none
  | .min, [.tuple xs] => match intL xs with | some (x :: r) => some (.val (.int (r.foldl min x))) | _ => none
  | .max, [.tuple xs] => match intL xs with | some (x :: r) => some (.val (.int (r.foldl max x))) | _ => none
  | .sum, [.list xs] => (intL xs).map fun ns => .val (.int ns.sum)
  | .all, [.list xs] => (boolL xs).map fun bs => .val (.bool (bs.all id))
  | .any, [.list xs] => (boolL xs).map fun bs => .val (.bool (bs.any id))
  | .tuple, [.list xs] => some (.val (.tuple xs))
  | .tuple, [.tuple xs] => some (.val (.tuple xs))
  | .list, [.list xs] => some (.own xs)
  | .list, [.tuple xs] => some (.own xs)
  | .int, [.int i] => some (.val (.int i))
  | .int, [.str a] => if a.length ≤ 640 then (PySem.intText? a).map fun n => .val (.int n) else none
  | .str, [.int i] => if i.natAbs.log2 < 1920 then some (.val (.str (toString i))) else none
  | .int, [.bool k] => some (.val (.int (if k then 1 else 0)))
  | .bool, [.int i] => some (.val (.bool (i != 0)))
  | .bool, [.bool k] => some (.val (.bool k))
  | .isint, [d] => some (.val (.bool (isIntD d)))
  | .isstr, [d] => some (.val (.bool (isStrD d)))
  | .istup, [d] => some (.val (.bool (isTupD d)))
  | .repr, [d] => if shapedD d && d.showable && decide (reprCost d ≤ lim) then some (.val (.str d.shown)) else none
  | _, _ => none
def subD : D → D → Option D
  | .list xs, .int i => if small i then (ixOf i xs.length).bind fun k => xs[k]? else none
  | .tuple xs, .int i => if small i then (ixOf i xs.length).bind fun k => xs[k]? else none
  | .str z, .int i => if z.length ≤ lim then ((ixOf i z.cps.toList.length).bind fun k => z.cps.toList[k]?).map fun c => .str ⟨#[c]⟩ else none
  | _, _ => none
/-! slices, methods -/
def cutD (xs : List D) (lo hi : Option Int) : List D := (xs.drop (HT.sIx xs.length 0 lo)).take (HT.sIx xs.length xs.length hi - HT.sIx xs.length 0 lo)
def sliceD (d : D) (lo hi : Option Int) : Option EV := match d with
  | .list xs => some (.own (cutD xs lo hi))
  | .tuple xs => some (.val (.tuple (cutD xs lo hi)))
  | .str z => if z.length ≤ lim then some (.val (.str (L2.cutS z lo hi))) else none
  | _ => none
def slcD (k : SlK) (d : D) (i : Int) : Option EV := match k with
  | .lo => sliceD d (some i) none
  | .hi => sliceD d none (some i)
def intV : EV → Option Int
  | .val (.int i) => some i
  | _ => none
def revD : D → Option EV
  | .list xs => some (.own xs.reverse)
  | .tuple xs => some (.val (.tuple xs.reverse))
  | _ => none
def placeD (d : D) : List D → Nat → Option Nat
  | [], _ => none
  | x :: r, i => if PyData.eqv x d then some i else placeD d r (i + 1)
def methD (m : Meth) (d : D) (as : List D) : Option EV := match m, d, as with
  | .index, .list xs, [y] => if shapedD (.list xs) && shapedD y then (placeD y xs 0).map fun (k : Nat) => EV.val (.int (k : Int)) else none
  | .count, .str a, [.str b] => some (.val (.int (Txt.count a b)))
  | .count, .list xs, [y] => if shapedD (.list xs) && shapedD y then some (.val (.int ((xs.countP fun z => PyData.eqv z y : Nat) : Int))) else none
  | .join, .str a, [.list ys] => (strL ys).bind fun zs => if (zs.map (·.length)).sum + zs.length * a.length ≤ lim then some (.val (.str (Txt.join a zs))) else none
  | .join, .str a, [.tuple ys] => (strL ys).bind fun zs => if (zs.map (·.length)).sum + zs.length * a.length ≤ lim then some (.val (.str (Txt.join a zs))) else none
  | .split, .str a, [.str b] => if (b.length == 0) = false ∧ a.length + 2 ≤ lim then some (.own ((Txt.split a b).map PyData.str)) else none
  | _, _, _ => none

/-! ### the state -/
def Slot.get : Slot → Option D | .val d => some d | .own _ xs => some (.list xs) | .no => none
def content (v : EV) : Ev D := fun g => match v with
  | .val d => .ok d g
  | .own xs => .ok (.list xs) g
  | .bor i => match g[i]? with | some (.own _ xs) => .ok (.list xs) g | _ => .bad
def freeze (v : EV) : Ev D := fun g => match v with
  | .val d => .ok d g
  | .own xs => .ok (.list xs) g
  | .bor i => match g[i]? with | some (.own .mine xs) => .ok (.list xs) (g.set i (.val (.list xs))) | _ => .bad
inductive Arg where | val (d : D) | tmp (xs : List D) | ref (m : Mode) (i : Nat)
def argOf (m : Mode) (v : EV) : Ev Arg := match v with
  | .val d => pur (.val d)
  | .own xs => match m with
    | .m => pur (.tmp xs)
    | .r => pur (.val (.list xs))
  | .bor i => pur (.ref m i)
def Arg.slot (g : Gam) : Arg → Option Slot
  | .val d => some (.val d)
  | .tmp xs => some (.own .loan xs)
  | .ref m i => match g[i]? with
    | some (.own k xs) => match m, k with
      | .r, _ => some (.own .lock xs)
      | .m, .lock => none
      | .m, _ => some (.own .loan xs)
    | _ => none
def slotsOf (g : Gam) : List Arg → Option (List Slot)
  | [] => some []
  | a :: r => match a.slot g, slotsOf g r with | some x, some y => some (x :: y) | _, _ => none
def refsOf : List Arg → List Nat
  | [] => []
  | .ref _ i :: r => i :: refsOf r
  | _ :: r => refsOf r
def noTwice : List Nat → Bool
  | [] => true
  | i :: r => !r.elem i && noTwice r
def giveBack : List Arg → Gam → Gam → Option Gam
  | [], _, g => some g
  | .ref .m i :: r, .own _ xs :: fin, g => match g[i]? with
    | some (.own k _) => giveBack r fin (g.set i (.own k xs))
    | _ => none
  | .ref .m _ :: _, _, _ => none
  | _ :: r, _ :: fin, g => giveBack r fin g
  | _ :: _, [], _ => none
def doCall (C : Nat → List Slot → CRes) (f : Nat) (as : List Arg) : Ev EV := fun g =>
  if noTwice (refsOf as) then match slotsOf g as with
    | some ss => match C f ss with
      | .ret (.val d) fin => match giveBack as fin g with | some g' => .ok (.val d) g' | none => .bad
      | .ret (.own xs) fin => match giveBack as fin g with | some g' => .ok (.own xs) g' | none => .bad
      | .ret (.bor _) _ => .bad
      | .exc c fin => match giveBack as fin g with | some g' => .exc c g' | none => .bad
      | .bad => .bad
    | none => .bad
  else .bad
def store (i : Nat) (s : Slot) (g : Gam) : Option Gam := match g[i]? with
  | some (.own .mine _) => some (g.set i s)
  | some (.own _ _) => none
  | some _ => some (g.set i s)
  | none => none
mutual
def assignT : Tg → D → Gam → Option Gam
  | .name i, d, g => store i (.val d) g
  | .tup ts, .tuple ds, g => assignTs ts ds g
  | .tup _, _, _ => none
def assignTs : List Tg → List D → Gam → Option Gam
  | [], [], g => some g
  | [], _ :: _, _ => none
  | _ :: _, [], _ => none
  | t :: ts, d :: ds, g => match assignT t d g with | some g' => assignTs ts ds g' | none => none
end
mutual
def tgNames : Tg → List Nat
  | .name i => [i]
  | .tup ts => tgNamesL ts
def tgNamesL : List Tg → List Nat
  | [] => []
  | t :: ts => tgNames t ++ tgNamesL ts
end
def mutD (m : Mut) (xs : List D) (as : List D) : Option (D × List D) := match m, as with
  | .append, [d] => if xs.length < lim then some (.none, xs ++ [d]) else none
  | .extend, [.list ys] => if xs.length + ys.length ≤ lim then some (.none, xs ++ ys) else none
  | .insert, [.int i, d] => if xs.length < lim ∧ 0 ≤ i ∧ i ≤ xs.length then some (.none, xs.take i.toNat ++ d :: xs.drop i.toNat) else none
  | .pop, [] => match xs.getLast? with | some d => some (d, xs.dropLast) | none => none
  | .reverse, [] => some (.none, xs.reverse)
  | _, _ => none
def doMut (m : Mut) (i : Nat) (as : List D) : Ev EV := fun g => match g[i]? with
  | some (.own k xs) => match k with
    | .lock => .bad
    | _ => match mutD m xs as with
      | some (d, ys) => .ok (.val d) (g.set i (.own k ys))
      | none => .bad
  | _ => .bad
def charsD (x : Str) : List D := x.cps.toList.map fun c => .str ⟨#[c]⟩
def itemsW : D → Option (List D)
  | .list xs => some xs
  | .tuple xs => some xs
  | .str x => some (charsD x)
  | _ => none
def lockOf : EV → List Nat
  | .bor i => [i]
  | _ => []
def walkOf (v : EV) : Ev (List D × List Nat) := bnd (content v) fun d => match itemsW d with | some xs => pur (xs, lockOf v) | none => bad
def lockG : List Nat → Gam → Option (Gam × List Kd)
  | [], g => some (g, [])
  | i :: r, g => match g[i]? with
    | some (.own k xs) => match lockG r (g.set i (.own .lock xs)) with
      | some (g', ks) => some (g', k :: ks)
      | none => none
    | _ => none
def unlock : List Nat → List Kd → Gam → Option Gam
  | [], _, g => some g
  | i :: r, k :: ks, g => match unlock r ks g with
    | some g' => match g'[i]? with | some (.own .lock xs) => some (g'.set i (.own k xs)) | _ => none
    | none => none
  | _ :: _, [], _ => none
def wipeG (g : Gam) : List Nat → Gam
  | [] => g
  | i :: r => (wipeG g r).set i .no
def restoreG (g0 g : Gam) : List Nat → Gam
  | [] => g
  | i :: r => (restoreG g0 g r).set i (match g0[i]? with | some s => s | none => .no)
def rangeL (lo : Int) : Nat → List D
  | 0 => []
  | n + 1 => .int lo :: rangeL (lo + 1) n
def zipL : List D → List D → List D
  | x :: xs, y :: ys => .tuple [x, y] :: zipL xs ys
  | _, _ => []
def enumL (i : Int) : List D → List D
  | [] => []
  | x :: xs => .tuple [.int i, x] :: enumL (i + 1) xs
def toInt : D → Option Int | .int i => some i | _ => none
def rangeD : List D → Option (List D)
  | [.int n] => if small n then some (rangeL 0 n.toNat) else none
  | [.int lo, .int hi] => if small lo && small hi then some (rangeL lo (hi - lo).toNat) else none
  | _ => none
def zipOf : List EV → Ev (List D × List Nat)
  | [x, y] => bnd (content x) fun a => bnd (content y) fun b => match a, b with
    | .list xs, .list ys => pur (zipL xs ys, lockOf x ++ lockOf y)
    | .tuple xs, .tuple ys => pur (zipL xs ys, lockOf x ++ lockOf y)
    | _, _ => bad
  | _ => bad
def enumOf : List EV → Ev (List D × List Nat)
  | [x] => bnd (content x) fun a => match a with
    | .list xs => pur (enumL 0 xs, lockOf x)
    | _ => bad
  | _ => bad

def tyD : Meth → D → Bool
  | .index, .list _ => true
  | .index, _ => false
  | .count, .list _ => true
  | _, .str _ => true
  | _, _ => false
def tyM (m : Meth) (v : EV) : Ev Unit := bnd (content v) fun d => if tyD m d then pur () else bad
def contents : List EV → Ev (List D)
  | [] => pur []
  | v :: vs => bnd (content v) fun d => bnd (contents vs) fun ds => pur (d :: ds)
/-! ### expressions -/
def kpos : List Str → Str → Nat → Option Nat
  | [], _, _ => none
  | x :: r, y, i => if x = y then some i else kpos r y (i + 1)
def dinD (ng : Bool) (ks : List Str) : D → Ev EV
  | .str z => pur (.val (.bool ((kpos ks z 0).isSome != ng)))
  | _ => bad
def dposD (ks : List Str) (fs : List Nat) : D → Option Nat
  | .str z => (kpos ks z 0).bind fun i => fs[i]?
  | _ => none
section
variable (C : Nat → List Slot → CRes) (G : List D)
def compF (own : List Nat) (set : D → Gam → Option Gam) (cs : Ev Bool) (elt : Ev D) : List D → List D → Ev (List D)
  | [], acc => pur acc
  | x :: xs, acc => fun g => match set x g with
    | none => .bad
    | some g1 => match cs g1 with
      | .ok true g2 => match elt g2 with
        | .ok d g3 => compF own set cs elt xs (acc ++ [d]) (wipeG g3 own)
        | .exc _ _ => .bad
        | .bad => .bad
      | .ok false g2 => compF own set cs elt xs acc (wipeG g2 own)
      | .exc _ _ => .bad
      | .bad => .bad
def innerF (own : List Nat) (set : D → Gam → Option Gam) (cs : Ev Bool) (elt : Ev D) (acc : List D) (w : List D × List Nat) : Ev (List D) := fun g =>
  if w.2.isEmpty && decide (acc.length + w.1.length < lim) then (match compF own set cs elt w.1 acc (wipeG g own) with
    | .ok acc' g' => .ok acc' (restoreG g g' own)
    | .exc _ _ => .bad
    | .bad => .bad) else .bad
def compF2 (own : List Nat) (set : D → Gam → Option Gam) (inner : List D → Ev (List D)) : List D → List D → Ev (List D)
  | [], acc => pur acc
  | x :: xs, acc => fun g => match set x g with
    | none => .bad
    | some g1 => match inner acc g1 with
      | .ok acc' g2 => compF2 own set inner xs acc' (wipeG g2 own)
      | .exc _ _ => .bad
      | .bad => .bad
mutual
def evalE : E → Ev EV
  | .var i => fun g => match g[i]? with
    | some (.val d) => .ok (.val d) g
    | some (.own _ _) => .ok (.bor i) g
    | _ => .bad
  | .glob j => fun g => match G[j]? with | some d => .ok (.val d) g | none => .bad
  | .cst d => pur (.val d)
  | .bin o a b => bnd (evalE a) fun x => bnd (evalE b) fun y => bnd (content x) fun x => bnd (content y) fun y => opt (binD o x y)
  | .neg a => bnd (evalE a) fun x => bnd (content x) fun x => match x with | .int i => pur (.val (.int (-i))) | _ => bad
  | .not a => bnd (evalE a) fun x => bnd (content x) fun x => bnd (opt (truth x)) fun b => pur (.val (.bool (!b)))
  | .and a b => bnd (evalE a) fun x => bnd (content x) fun d => bnd (opt (truth d)) fun k => if k then evalE b else pur x
  | .or a b => bnd (evalE a) fun x => bnd (content x) fun d => bnd (opt (truth d)) fun k => if k then pur x else evalE b
  | .cmp o a b => bnd (evalE a) fun x => bnd (evalE b) fun y => bnd (content x) fun x => bnd (content y) fun y => bnd (opt (cmpD o x y)) fun b => pur (.val (.bool b))
  | .cmp2 o p a b c => bnd (evalE a) fun x => bnd (evalE b) fun y => bnd (content x) fun x => bnd (content y) fun y' => bnd (opt (cmpD o x y')) fun k =>
      if k then bnd (evalE c) fun z => bnd (content y) fun y => bnd (content z) fun z => bnd (opt (cmpD p y z)) fun b => pur (.val (.bool b)) else pur (.val (.bool false))
  | .ife c a b => bnd (evalE c) fun x => bnd (content x) fun d => bnd (opt (truth d)) fun k => if k then evalE a else evalE b
  | .call f as => bnd (evalAs as) fun as => doCall C f as
  | .callix fs ix as => bnd (evalE ix) fun i => bnd (content i) fun i => match i with
    | .int i => match ixOf i fs.length with
      | some k => match fs[k]? with
        | some f => bnd (evalAs as) fun as => doCall C f as
        | none => bad
      | none => bad
    | _ => bad
  | .din ng ks a => bnd (evalE a) fun x => bnd (content x) fun x => dinD ng ks x
  | .dcall ks fs ix as => bnd (evalE ix) fun i => bnd (content i) fun i => match dposD ks fs i with
    | some f => bnd (evalAs as) fun as => doCall C f as
    | none => bad
  | .blt b as => bnd (evalPs as) fun vs => bnd (contents vs) fun ds => opt (bltD b ds)
  | .meth m a as => bnd (evalE a) fun x => bnd (tyM m x) fun _ => bnd (evalPs as) fun vs => bnd (content x) fun d => bnd (contents vs) fun ds => opt (methD m d ds)
  | .mut m i as => fun g => match g[i]? with
    | some (.own _ _) => bnd (evalEs as) (fun ds => doMut m i ds) g
    | _ => .bad
  | .tup as => bnd (evalEs as) fun ds => if ds.length ≤ lim then pur (.val (.tuple ds)) else bad
  | .lst as => bnd (evalEs as) fun ds => if ds.length ≤ lim then pur (.own ds) else bad
  | .sub a i => bnd (evalE a) fun x => bnd (evalE i) fun y => bnd (content x) fun x => bnd (content y) fun y => bnd (opt (subD x y)) fun d => pur (.val d)
  | .slc k a b => bnd (evalE a) fun x => bnd (evalE b) fun y => bnd (opt (intV y)) fun i => bnd (content x) fun d => opt (slcD k d i)
  | .slc2 a b c => bnd (evalE a) fun x => bnd (evalE b) fun y => bnd (opt (intV y)) fun i => bnd (evalE c) fun z => bnd (opt (intV z)) fun j => bnd (content x) fun d => opt (sliceD d (some i) (some j))
  | .rev a => bnd (evalE a) fun x => bnd (content x) fun d => opt (revD d)
  | .comp elt tg it cs own => bnd (evalI it) fun w => fun g => if w.1.length < lim then (match lockG w.2 g with
      | none => .bad
      | some (g1, k) => match compF own (assignT tg) (evalCs cs) (bnd (evalE elt) freeze) w.1 [] (wipeG g1 own) with
        | .ok acc g' => match unlock w.2 k (restoreG g1 g' own) with | some g'' => .ok (.own acc) g'' | none => .bad
        | .exc _ _ => .bad
        | .bad => .bad) else .bad
  | .comp2 elt tg it tg2 it2 cs own own2 => bnd (evalI it) fun w => fun g => if w.1.length < lim then (match lockG w.2 g with
      | none => .bad
      | some (g1, k) => match compF2 own (assignT tg) (fun acc => bnd (evalI it2) (innerF own2 (assignT tg2) (evalCs cs) (bnd (evalE elt) freeze) acc)) w.1 [] (wipeG g1 own) with
        | .ok acc g' => match unlock w.2 k (restoreG g1 g' own) with | some g'' => .ok (.own acc) g'' | none => .bad
        | .exc _ _ => .bad
        | .bad => .bad) else .bad
  | .no => bad
def evalEs : Es → Ev (List D)
  | .nil => pur []
  | .cons e r => bnd (evalE e) fun v => bnd (freeze v) fun d => bnd (evalEs r) fun ds => pur (d :: ds)
  | .star e r => bnd (evalE e) fun v => bnd (content v) fun d => match items d with
    | some xs => bnd (evalEs r) fun ds => pur (xs ++ ds)
    | none => bad
def evalPs : Es → Ev (List EV)
  | .nil => pur []
  | .cons e r => bnd (evalE e) fun v => bnd (evalPs r) fun vs => pur (v :: vs)
  | .star _ _ => bad
def evalAs : As → Ev (List Arg)
  | .nil => pur []
  | .cons m e r => bnd (evalE e) fun v => bnd (argOf m v) fun a => bnd (evalAs r) fun as => pur (a :: as)
def evalCs : Es → Ev Bool
  | .nil => pur true
  | .cons e .nil => bnd (evalE e) fun v => bnd (content v) fun d => opt (truth d)
  | _ => bad
def evalI : I → Ev (List D × List Nat)
  | .e e => bnd (evalE e) walkOf
  | .range as => bnd (evalPs as) fun vs => bnd (contents vs) fun ds => bnd (opt (rangeD ds)) fun xs => pur (xs, [])
  | .zip as => bnd (evalPs as) zipOf
  | .enum as => bnd (evalPs as) enumOf
end
/-! ### statements -/
def runE {α : Type} (m : Ev α) (k : α → Gam → Flow) : Gam → Flow := fun g => match m g with
  | .ok a g' => k a g'
  | .exc c g' => .exc c g'
  | .bad => .bad
def seqF (m n : Gam → Flow) : Gam → Flow := fun g => match m g with
  | .next g' => n g'
  | .ret v g' => .ret v g'
  | .brk g' => .brk g'
  | .cont g' => .cont g'
  | .exc c g' => .exc c g'
  | .bad => .bad
def fuelW : Nat := 1000000
def whileF (c : Ev Bool) (b : Gam → Flow) : Nat → Gam → Flow
  | 0, _ => .bad
  | n + 1, g => match c g with
    | .ok true g1 => match b g1 with
      | .next g2 => whileF c b n g2
      | .cont g2 => whileF c b n g2
      | .brk g2 => .next g2
      | .ret r g2 => .ret r g2
      | .exc e g2 => .exc e g2
      | .bad => .bad
    | .ok false g1 => .next g1
    | .exc e g1 => .exc e g1
    | .bad => .bad
def forF (set : D → Gam → Option Gam) (b : Gam → Flow) (un : Gam → Option Gam) : List D → Gam → Flow
  | [], g => match un g with | some g' => .next g' | none => .bad
  | x :: xs, g => match set x g with
    | none => .bad
    | some g1 => match b g1 with
      | .next g2 => forF set b un xs g2
      | .cont g2 => forF set b un xs g2
      | .brk g2 => match un g2 with | some g' => .next g' | none => .bad
      | .ret r g2 => match un g2 with | some g' => .ret r g' | none => .bad
      | .exc e g2 => match un g2 with | some g' => .exc e g' | none => .bad
      | .bad => .bad
def retF (v : EV) (g : Gam) : Flow := match v with
  | .val d => .ret (.val d) g
  | .own xs => .ret (.own xs) g
  | .bor i => match g[i]? with | some (.own .mine xs) => .ret (.own xs) (g.set i .no) | _ => .bad
def testE (c : E) : Ev Bool := bnd (evalE C G c) fun v => bnd (content v) fun d => opt (truth d)
def setF (i : Nat) (frz : Bool) (v : EV) (g : Gam) : Flow := match v with
  | .val d => match store i (.val d) g with | some g' => .next g' | none => .bad
  | .own xs => match store i (if frz then .val (.list xs) else .own .mine xs) g with | some g' => .next g' | none => .bad
  | .bor j => match g[j]? with
    | some (.own .mine xs) => match store i (.val (.list xs)) (g.set j (.val (.list xs))) with | some g' => .next g' | none => .bad
    | _ => .bad
def setT (t : Tg) (d : D) (g : Gam) : Flow := match assignT t d g with | some g' => .next g' | none => .bad
def setIx (i : Nat) (d : D) (x : D) (g : Gam) : Flow := match x, g[i]? with
  | .int k, some (.own kd xs) => match kd with
    | .lock => .bad
    | _ => match ixOf k xs.length with | some n => .next (g.set i (.own kd (xs.set n d))) | none => .bad
  | _, _ => .bad
def tryF (b : Gam → Flow) (i : Nat) (ks : List Str) (h : Option (Str × Bool)) : Gam → Flow := fun g => match b g with
  | .exc c g' => match ks[c]? with
    | some k => if i < g'.length then (match h with
      | none => .ret (.val (.str k)) g'
      | some (s, d) => match cmpD .ne (.str k) (.str s) with
        | some false => (match store i .no g' with | some g'' => .next g'' | none => .bad)
        | some true => .ret (.val (.bool d)) g'
        | none => .bad) else .bad
    | none => .bad
  | .next g' => .next g'
  | .ret r g' => .ret r g'
  | .brk g' => .brk g'
  | .cont g' => .cont g'
  | .bad => .bad
mutual
def evalS : S → Gam → Flow
  | .expr e => runE (evalE C G e) fun _ g => .next g
  | .set i frz e => runE (evalE C G e) (setF i frz)
  | .sett t e => runE (bnd (evalE C G e) freeze) (setT t)
  | .aug i o e => fun g => match g[i]? with
    | some (.val x) => runE (evalE C G e) (fun y => runE (content y) fun y g => match augD o x y with
      | some d => match store i (.val d) g with | some g' => .next g' | none => .bad
      | none => .bad) g
    | _ => .bad
  | .setix i ix e => runE (bnd (evalE C G e) freeze) fun d g => match g[i]? with
    | some (.own _ _) => runE (bnd (evalE C G ix) content) (setIx i d) g
    | _ => .bad
  | .ret e => runE (evalE C G e) retF
  | .ifs c a b => runE (testE C G c) fun k => if k then evalSs a else evalSs b
  | .whil c b => whileF (testE C G c) (evalSs b) fuelW
  | .fors t it b => runE (evalI C G it) fun w g => match lockG w.2 g with
    | some (g1, k) => forF (assignT t) (evalSs b) (unlock w.2 k) w.1 g1
    | none => .bad
  | .raise c => fun g => .exc c g
  | .brk => fun g => .brk g
  | .cont => fun g => .cont g
  | .pass => fun g => .next g
  | .tryk b i ks h => tryF (evalSs b) i ks h
def evalSs : Ss → Gam → Flow
  | .nil => fun g => .next g
  | .cons s r => seqF (evalS s) (evalSs r)
end
end
structure Fn where
  np : Nat
  ns : Nat
  body : Ss
def cut : List Slot → Gam → Gam
  | [], _ => []
  | .own .loan _ :: r, s :: g => s :: cut r g
  | .own .lock _ :: r, s :: g => s :: cut r g
  | _ :: r, _ :: g => .no :: cut r g
  | _ :: r, [] => .no :: cut r []
def finish (as : List Slot) : Flow → CRes
  | .next g => .ret (.val .none) (cut as g)
  | .ret r g => .ret r (cut as g)
  | .exc c g => .exc c (cut as g)
  | _ => .bad
def callN (P : List Fn) (G : List D) : Nat → Nat → List Slot → CRes
  | 0, _, _ => .bad
  | n + 1, f, as => match P[f]? with
    | some fn => if as.length = fn.np then finish as (evalSs (callN P G n) G fn.body (as ++ List.replicate (fn.ns - fn.np) .no)) else .bad
    | none => .bad
end DK
end
section
set_option maxRecDepth 100000
set_option maxHeartbeats 2000000
namespace DK
open PySem L2 PySem.Spec PyProof.Rows

/-! ### frozen data -/
def SqF (K : PySem.W.Frag) (H : Hp) (a : Addr) (xs : List V) : Prop := (∃ o, H a = some (.frz o (.lst xs))) ∨
  ∃ (us : List Value) (n : Nat), K.lookup a = some { cls := .type "list", data := .seq us.toArray n } ∧ us.length ≤ sizeLine ∧ Vals xs us
def SqU (K : PySem.W.Frag) (H : Hp) (a : Addr) (xs : List V) : Prop := H a = some (.tup xs) ∨
  ∃ (o : Obj) (us : Array Value) (n : Nat), K.lookup a = some o ∧ o.cls = .type "tuple" ∧ o.data = .seq us n ∧ us.size ≤ sizeLine ∧ Vals xs us.toList
mutual
inductive Fz (K : PySem.W.Frag) (H : Hp) : V → D → Prop
  | non : Fz K H .non .none
  | bl (b : Bool) : Fz K H (.bl b) (.bool b)
  | int (i : Int) : Fz K H (.int i) (.int i)
  | str (x : Str) : Fz K H (.str x) (.str x)
  | lst {a : Addr} {xs : List V} {ds : List D} : SqF K H a xs → FzA K H xs ds → Fz K H (.ref a) (.list ds)
  | tup {a : Addr} {xs : List V} {ds : List D} : SqU K H a xs → FzA K H xs ds → Fz K H (.ref a) (.tuple ds)
inductive FzA (K : PySem.W.Frag) (H : Hp) : List V → List D → Prop
  | nil : FzA K H [] []
  | cons {v : V} {vs : List V} {d : D} {ds : List D} : Fz K H v d → FzA K H vs ds → FzA K H (v :: vs) (d :: ds)
end
def Kp (H H' : Hp) : Prop := ∀ a o, H a = some o → (∀ xs, o ≠ .lst xs) → H' a = some o
section
variable {K : PySem.W.Frag} {H H' : Hp} {a : Addr} {xs : List V}
theorem Kp.refl : Kp H H := fun _ _ e _ => e
theorem Kp.trans {H1 H2 H3 : Hp} (h : Kp H1 H2) (h' : Kp H2 H3) : Kp H1 H3 := fun a o e n => h' a o (h a o e n) n
theorem SqF.mono (k : Kp H H') (h : SqF K H a xs) : SqF K H' a xs := by
  rcases h with ⟨o, e⟩ | h
  · exact .inl ⟨o, k a _ e fun _ q => nomatch q⟩
  · exact .inr h
theorem SqU.mono (k : Kp H H') (h : SqU K H a xs) : SqU K H' a xs := by
  rcases h with e | h
  · exact .inl (k a _ e fun _ q => nomatch q)
  · exact .inr h
theorem SqF.sql (h : SqF K H a xs) : SqL K H a xs := by
  rcases h with ⟨o, e⟩ | ⟨us, n, h1, h2, h3⟩
  · exact .inl (.inr ⟨o, e⟩)
  · exact .inr ⟨_, _, n, h1, rfl, rfl, rfl, by simpa using h2, by simpa using h3⟩
theorem SqU.sqt (h : SqU K H a xs) : SqT K H a xs := by
  rcases h with e | ⟨o, us, n, h1, h2, h3, h4, h5⟩
  · exact .inl (.inl e)
  · exact .inr ⟨o, us, n, h1, h2, h3, h4, h5⟩
mutual
theorem Fz.mono (k : Kp H H') : ∀ {v : V} {d : D}, Fz K H v d → Fz K H' v d
  | _, _, .non => .non
  | _, _, .bl b => .bl b
  | _, _, .int i => .int i
  | _, _, .str x => .str x
  | _, _, .lst s h => .lst (s.mono k) (FzA.mono k h)
  | _, _, .tup s h => .tup (s.mono k) (FzA.mono k h)
theorem FzA.mono (k : Kp H H') : ∀ {vs : List V} {ds : List D}, FzA K H vs ds → FzA K H' vs ds
  | _, _, .nil => .nil
  | _, _, .cons h t => .cons (Fz.mono k h) (FzA.mono k t)
end
mutual
theorem Fz.dp : ∀ {v : V} {d : D}, Fz K H v d → Dp K H v d
  | _, _, .non => .non
  | _, _, .bl b => .bl b
  | _, _, .int i => .int i
  | _, _, .str x => .str x
  | _, _, .lst s h => .lst s.sql (FzA.dp h)
  | _, _, .tup s h => .tup s.sqt (FzA.dp h)
theorem FzA.dp : ∀ {vs : List V} {ds : List D}, FzA K H vs ds → DpAll K H vs ds
  | _, _, .nil => .nil
  | _, _, .cons h t => .cons (Fz.dp h) (FzA.dp t)
end
theorem FzA.length : ∀ {vs : List V} {ds : List D}, FzA K H vs ds → vs.length = ds.length
  | _, _, .nil => rfl
  | _, _, .cons _ t => by rw [List.length_cons, List.length_cons, FzA.length t]
theorem FzA.append : ∀ {vs ws : List V} {ds es : List D}, FzA K H vs ds → FzA K H ws es → FzA K H (vs ++ ws) (ds ++ es)
  | _, _, _, _, .nil, h => h
  | _, _, _, _, .cons a t, h => .cons a (FzA.append t h)
theorem FzA.get : ∀ {vs : List V} {ds : List D} {i : Nat} {d : D}, FzA K H vs ds → ds[i]? = some d → ∃ v, vs[i]? = some v ∧ Fz K H v d
  | _, _, _, _, .nil, e => by simp at e
  | _, _, 0, _, .cons a _, e => by simp at e; subst e; exact ⟨_, rfl, a⟩
  | _, _, i + 1, d, .cons _ t, e => by
    obtain ⟨v, h1, h2⟩ := FzA.get (i := i) (d := d) t (by simpa using e)
    exact ⟨v, by simpa using h1, h2⟩
theorem FzA.getV : ∀ {vs : List V} {ds : List D} {i : Nat} {v : V}, FzA K H vs ds → vs[i]? = some v → ∃ d, ds[i]? = some d ∧ Fz K H v d
  | _, _, _, _, .nil, e => by simp at e
  | _, _, 0, _, .cons a _, e => by simp at e; subst e; exact ⟨_, rfl, a⟩
  | _, _, i + 1, d, .cons _ t, e => by
    obtain ⟨v, h1, h2⟩ := FzA.getV (i := i) (v := d) t (by simpa using e)
    exact ⟨v, by simpa using h1, h2⟩
theorem FzA.set : ∀ {vs : List V} {ds : List D} {v : V} {d : D} (i : Nat), FzA K H vs ds → Fz K H v d → FzA K H (vs.set i v) (ds.set i d)
  | _, _, _, _, _, .nil, _ => .nil
  | _, _, _, _, 0, .cons _ t, h => .cons h t
  | _, _, _, _, i + 1, .cons a t, h => .cons a (FzA.set i t h)
theorem FzA.take : ∀ {vs : List V} {ds : List D} (i : Nat), FzA K H vs ds → FzA K H (vs.take i) (ds.take i)
  | _, _, 0, _ => .nil
  | _, _, _ + 1, .nil => .nil
  | _, _, i + 1, .cons a t => .cons a (FzA.take i t)
theorem FzA.drop : ∀ {vs : List V} {ds : List D} (i : Nat), FzA K H vs ds → FzA K H (vs.drop i) (ds.drop i)
  | _, _, 0, h => h
  | _, _, _ + 1, .nil => .nil
  | _, _, i + 1, .cons _ t => FzA.drop i t
theorem FzA.reverse : ∀ {vs : List V} {ds : List D}, FzA K H vs ds → FzA K H vs.reverse ds.reverse
  | _, _, .nil => .nil
  | _, _, .cons a t => by rw [List.reverse_cons, List.reverse_cons]; exact (FzA.reverse t).append (.cons a .nil)
theorem FzA.dropLast {vs : List V} {ds : List D} (h : FzA K H vs ds) : FzA K H vs.dropLast ds.dropLast := by
  rw [List.dropLast_eq_take, List.dropLast_eq_take, h.length]; exact h.take _
theorem FzA.rep {vs : List V} {ds : List D} (h : FzA K H vs ds) : ∀ n, FzA K H (List.replicate n vs).flatten (List.replicate n ds).flatten
  | 0 => .nil
  | n + 1 => by rw [List.replicate_succ, List.replicate_succ, List.flatten_cons, List.flatten_cons]; exact h.append (h.rep n)
theorem Fz.int_inv {v : V} {i : Int} (h : Fz K H v (.int i)) : v = .int i := by cases h; rfl
theorem Fz.str_inv {v : V} {i : Str} (h : Fz K H v (.str i)) : v = .str i := by cases h; rfl
theorem Fz.bool_inv {v : V} {i : Bool} (h : Fz K H v (.bool i)) : v = .bl i := by cases h; rfl
theorem Fz.none_inv {v : V} (h : Fz K H v .none) : v = .non := by cases h; rfl
theorem Fz.tup_inv {v : V} {ds : List D} (h : Fz K H v (.tuple ds)) : ∃ a xs, v = .ref a ∧ SqU K H a xs ∧ FzA K H xs ds := by
  cases h with | tup s h => exact ⟨_, _, rfl, s, h⟩
theorem Fz.lst_inv {v : V} {ds : List D} (h : Fz K H v (.list ds)) : ∃ a xs, v = .ref a ∧ SqF K H a xs ∧ FzA K H xs ds := by
  cases h with | lst s h => exact ⟨_, _, rfl, s, h⟩
theorem FzA.ints : ∀ {vs : List V} {ds : List D} {ns : List Int}, FzA K H vs ds → intL ds = some ns → vs = ns.map V.int
  | _, _, _, .nil, e => by cases e; rfl
  | _, _, ns, .cons (d := d) a t, e => by
    cases a <;> simp only [intL] at e <;> try cases e
    rename_i vs ds i
    cases q : intL ds with
    | none => rw [q] at e; cases e
    | some ms => rw [q] at e; cases e; rw [FzA.ints t q]; rfl
theorem FzA.bools : ∀ {vs : List V} {ds : List D} {ns : List Bool}, FzA K H vs ds → boolL ds = some ns → vs = ns.map V.bl
  | _, _, _, .nil, e => by cases e; rfl
  | _, _, ns, .cons (d := d) a t, e => by
    cases a <;> simp only [boolL] at e <;> try cases e
    rename_i vs ds i
    cases q : boolL ds with
    | none => rw [q] at e; cases e
    | some ms => rw [q] at e; cases e; rw [FzA.bools t q]; rfl
theorem FzA.of_ints : ∀ ns : List Int, FzA K H (ns.map V.int) (ns.map PyData.int)
  | [] => .nil
  | n :: ns => .cons (.int n) (FzA.of_ints ns)
end

/-! ### the state -/
structure Rel (K : PySem.W.Frag) (H : Hp) (σ : L2.St) (g : Gam) : Prop where
  len : g.length = σ.length
  val : ∀ (i : Nat) (d : D), g[i]? = some (.val d) → ∃ v, σ[i]? = some (some v) ∧ Fz K H v d
  own : ∀ (i : Nat) (k : Kd) (xs : List D), g[i]? = some (.own k xs) → ∃ a vs, σ[i]? = some (some (.ref a)) ∧ H a = some (.lst vs) ∧ FzA K H vs xs
  inj : ∀ (i j : Nat) (k l : Kd) (xs ys : List D) (a : Addr), g[i]? = some (.own k xs) → g[j]? = some (.own l ys) → σ[i]? = some (some (.ref a)) → σ[j]? = some (some (.ref a)) → i = j
def Mt (σ : L2.St) (g : Gam) (a : Addr) : Prop := ∃ (i : Nat) (k : Kd) (xs : List D), g[i]? = some (.own k xs) ∧ k ≠ .lock ∧ σ[i]? = some (some (.ref a))
def Ow (σ : L2.St) (g : Gam) (a : Addr) : Prop := ∃ (i : Nat) (k : Kd) (xs : List D), g[i]? = some (.own k xs) ∧ σ[i]? = some (some (.ref a))
theorem Mt.ow {σ : L2.St} {g : Gam} {a : Addr} (h : Mt σ g a) : Ow σ g a := let ⟨i, k, xs, e, _, z⟩ := h; ⟨i, k, xs, e, z⟩
structure StE (σ : L2.St) (g : Gam) (H : Hp) (g' : Gam) (H' : Hp) : Prop where
  ext : ∀ a o, H a = some o → ¬ Mt σ g a → H' a = some o
  kp : Kp H H'
  dom : ∀ a, H a ≠ none → H' a ≠ none
  shr : ∀ (i : Nat) (k : Kd) (xs : List D), g'[i]? = some (.own k xs) → ∃ ys : List D, g[i]? = some (.own k ys)
  stay : ∀ (i : Nat) (k : Kd) (xs : List D), g[i]? = some (.own k xs) → k ≠ .mine → ∃ ys : List D, g'[i]? = some (.own k ys) ∧ (k = .lock → ys = xs)
  vals : ∀ (i : Nat) (d : D), g[i]? = some (.val d) → g'[i]? = some (.val d)
  lenE : g'.length = g.length
structure Stp (σ : L2.St) (g : Gam) (H : Hp) (σ' : L2.St) (g' : Gam) (H' : Hp) : Prop where
  ext : ∀ a o, H a = some o → ¬ Mt σ g a → H' a = some o
  kp : Kp H H'
  dom : ∀ a, H a ≠ none → H' a ≠ none
  sub : ∀ (i : Nat) (k : Kd) (xs : List D) (a : Addr), g'[i]? = some (.own k xs) → σ'[i]? = some (some (.ref a)) → H a = none ∨ ∃ (j : Nat) (ys : List D), g[j]? = some (.own k ys) ∧ σ[j]? = some (some (.ref a))
  stay : ∀ (i : Nat) (k : Kd) (xs : List D), g[i]? = some (.own k xs) → k ≠ .mine → ∃ ys : List D, g'[i]? = some (.own k ys) ∧ (k = .lock → ys = xs) ∧ σ'[i]? = σ[i]?
section
variable {K : PySem.W.Frag} {H H1 H2 : Hp} {σ σ1 σ2 : L2.St} {g g1 g2 : Gam} {a : Addr}
theorem StE.refl : StE σ g H g H := ⟨fun _ _ e _ => e, Kp.refl, fun _ e => e, fun _ _ xs e => ⟨xs, e⟩, fun _ _ xs e _ => ⟨xs, e, fun _ => rfl⟩, fun _ _ e => e, rfl⟩
theorem StE.mt (s : StE σ g H g1 H1) (h : Mt σ g1 a) : Mt σ g a := by
  obtain ⟨i, k, xs, e, n, z⟩ := h
  obtain ⟨ys, e'⟩ := s.shr i k xs e
  exact ⟨i, k, ys, e', n, z⟩
theorem StE.ow (s : StE σ g H g1 H1) (h : Ow σ g1 a) : Ow σ g a := by
  obtain ⟨i, k, xs, e, z⟩ := h
  obtain ⟨ys, e'⟩ := s.shr i k xs e
  exact ⟨i, k, ys, e', z⟩
theorem StE.trans (s : StE σ g H g1 H1) (t : StE σ g1 H1 g2 H2) : StE σ g H g2 H2 where
  ext := fun a o e n => t.ext a o (s.ext a o e n) fun q => n (s.mt q)
  kp := s.kp.trans t.kp
  dom := fun a e => t.dom a (s.dom a e)
  shr := fun i k xs e => let ⟨ys, e'⟩ := t.shr i k xs e; s.shr i k ys e'
  stay := fun i k xs e n => by
    obtain ⟨ys, e1, h1⟩ := s.stay i k xs e n
    obtain ⟨zs, e2, h2⟩ := t.stay i k ys e1 n
    exact ⟨zs, e2, fun q => (h2 q).trans (h1 q)⟩
  vals := fun i d e => t.vals i d (s.vals i d e)
  lenE := t.lenE.trans s.lenE
theorem StE.stp (s : StE σ g H g1 H1) : Stp σ g H σ g1 H1 :=
  ⟨s.ext, s.kp, s.dom, fun i k xs a e z => .inr (let ⟨ys, e'⟩ := s.shr i k xs e; ⟨i, ys, e', z⟩), fun i k xs e n => let ⟨ys, h1, h2⟩ := s.stay i k xs e n; ⟨ys, h1, h2, rfl⟩⟩
theorem Stp.refl : Stp σ g H σ g H := StE.refl.stp
theorem Stp.ow (s : Stp σ g H σ1 g1 H1) (h : Ow σ1 g1 a) : Ow σ g a ∨ H a = none := by
  obtain ⟨i, k, xs, e, z⟩ := h
  rcases s.sub i k xs a e z with q | ⟨j, ys, e1, z1⟩
  · exact .inr q
  · exact .inl ⟨j, k, ys, e1, z1⟩
theorem Stp.mt (s : Stp σ g H σ1 g1 H1) (h : Mt σ1 g1 a) : Mt σ g a ∨ H a = none := by
  obtain ⟨i, k, xs, e, n, z⟩ := h
  rcases s.sub i k xs a e z with q | ⟨j, ys, e1, z1⟩
  · exact .inr q
  · exact .inl ⟨j, k, ys, e1, n, z1⟩
theorem Stp.trans (s : Stp σ g H σ1 g1 H1) (t : Stp σ1 g1 H1 σ2 g2 H2) : Stp σ g H σ2 g2 H2 where
  ext := fun a o e n => t.ext a o (s.ext a o e n) fun q => (s.mt q).elim n fun z => by rw [e] at z; cases z
  kp := s.kp.trans t.kp
  dom := fun a e => t.dom a (s.dom a e)
  sub := fun i k xs a e z => by
    rcases t.sub i k xs a e z with q | ⟨j, ys, e1, z1⟩
    · exact .inl (Classical.byContradiction fun w => s.dom a w q)
    · exact s.sub j k ys a e1 z1
  stay := fun i k xs e n => by
    obtain ⟨ys, e1, h1, z1⟩ := s.stay i k xs e n
    obtain ⟨zs, e2, h2, z2⟩ := t.stay i k ys e1 n
    exact ⟨zs, e2, fun q => (h2 q).trans (h1 q), z2.trans z1⟩
theorem Rel.ow_lst (r : Rel K H σ g) (h : Ow σ g a) : ∃ vs, H a = some (.lst vs) := by
  obtain ⟨i, k, xs, e, z⟩ := h
  obtain ⟨b, vs, e1, e2, _⟩ := r.own i k xs e
  rw [z] at e1; cases e1
  exact ⟨vs, e2⟩
theorem Kp.new {p : Addr} {o : HO} (hp : H p = none) : Kp H (upd H p o) := fun a u e _ => by rw [upd_ne (ne_of_none e hp)]; exact e
theorem Rel.new {p : Addr} {o : HO} (r : Rel K H σ g) (hp : H p = none) : Rel K (upd H p o) σ g where
  len := r.len
  val := fun i d e => let ⟨v, h1, h2⟩ := r.val i d e; ⟨v, h1, h2.mono (Kp.new hp)⟩
  own := fun i k xs e => by
    obtain ⟨a, vs, h1, h2, h3⟩ := r.own i k xs e
    exact ⟨a, vs, h1, by rw [upd_ne (ne_of_none h2 hp)]; exact h2, h3.mono (Kp.new hp)⟩
  inj := r.inj
theorem StE.new {p : Addr} {o : HO} (hp : H p = none) : StE σ g H g (upd H p o) where
  ext := fun a u e _ => by rw [upd_ne (ne_of_none e hp)]; exact e
  kp := Kp.new hp
  dom := fun a e => by by_cases h : a = p; (· subst h; exact absurd hp e); (· rw [upd_ne h]; exact e)
  shr := fun _ _ xs e => ⟨xs, e⟩
  stay := fun _ _ xs e _ => ⟨xs, e, fun _ => rfl⟩
  vals := fun _ _ e => e
  lenE := rfl
theorem Kp.frz {p : Addr} {o : Obj} {xs : List V} (hp : H p = some (.lst xs)) : Kp H (upd H p (.frz o (.lst xs))) := fun a u e n => by
  by_cases h : a = p
  · subst h; rw [hp] at e; cases e; exact absurd rfl (n xs)
  · rw [upd_ne h]; exact e
end
end DK
end
section
set_option maxRecDepth 100000
set_option maxHeartbeats 2000000
namespace DK
open PySem L2 PySem.Spec PyProof.Rows

def RV (K : PySem.W.Frag) (H : Hp) (σ : L2.St) (g : Gam) (v : V) : EV → Prop
  | .val d => Fz K H v d
  | .own xs => ∃ a vs, v = .ref a ∧ H a = some (.lst vs) ∧ FzA K H vs xs ∧ ¬ Ow σ g a
  | .bor i => σ[i]? = some (some v)
def Fr (H : Hp) (v : V) : EV → Prop
  | .own _ => ∀ a, v = .ref a → H a = none
  | _ => True
def Cv (K : PySem.W.Frag) (H : Hp) (v : V) (d : D) : Prop := Fz K H v d ∨ ∃ a vs xs, v = .ref a ∧ d = .list xs ∧ H a = some (.lst vs) ∧ FzA K H vs xs
def Run {α : Type} (K : PySem.W.Frag) (W : Nat → L2.St → Hp → Prop) (σ : L2.St) (g : Gam) (H : Hp) (r : Res α) (P : α → Gam → Hp → Prop) : Prop := match r with
  | .ok a g' => ∀ H', Rel K H' σ g' → StE σ g H g' H' → P a g' H'
  | .exc c g' => ∀ H', Rel K H' σ g' → StE σ g H g' H' → W c σ H'
  | .bad => False
def tM (K : PySem.W.Frag) (W : Nat → L2.St → Hp → Prop) (m : Ev EV) : TE := fun σ H Q => ∃ g, Rel K H σ g ∧ Run K W σ g H (m g) fun ev g' H' => ∀ v, RV K H' σ g' v ev → Fr H v ev → Q v H'
def tF (K : PySem.W.Frag) (W : Nat → L2.St → Hp → Prop) (m : Ev D) : TE := fun σ H Q => ∃ g, Rel K H σ g ∧ Run K W σ g H (m g) fun d g' H' => ∀ v, Fz K H' v d → Q v H'
def tT (K : PySem.W.Frag) (W : Nat → L2.St → Hp → Prop) (m : Ev Bool) : TT := fun σ H Q => ∃ g, Rel K H σ g ∧ Run K W σ g H (m g) fun b g' H' => Q b H'
section
variable {α β : Type} {K : PySem.W.Frag} {W : Nat → L2.St → Hp → Prop} {H H1 H2 : Hp} {σ σ1 σ2 : L2.St} {g g1 g2 : Gam} {a : Addr} {v : V} {ev : EV} {d : D}
theorem Run.mono {r : Res α} {P P' : α → Gam → Hp → Prop} (h : Run K W σ g H r P) (f : ∀ a g' H', Rel K H' σ g' → StE σ g H g' H' → P a g' H' → P' a g' H') : Run K W σ g H r P' := by
  cases r with
  | ok a g' => exact fun H' r s => f a g' H' r s (h H' r s)
  | exc c g' => exact h
  | bad => exact h
theorem Run.bnd {m : Ev α} {f : α → Ev β} {P : β → Gam → Hp → Prop} (h : Run K W σ g H (bnd m f g) P) : Run K W σ g H (m g) fun a g1 H1 => Run K W σ g1 H1 (f a g1) P := by
  unfold DK.bnd at h
  cases q : m g with
  | bad => rw [q] at h; exact h
  | exc c g' => rw [q] at h; exact h
  | ok a g' =>
    rw [q] at h
    have h : Run K W σ g H (f a g') P := h
    show ∀ H1, Rel K H1 σ g' → StE σ g H g' H1 → Run K W σ g' H1 (f a g') P
    intro H1 r1 s1
    cases q2 : f a g' with
    | bad => rw [q2] at h; exact h
    | exc c g2 => rw [q2] at h; exact fun H2 r2 s2 => h H2 r2 (s1.trans s2)
    | ok b g2 => rw [q2] at h; exact fun H2 r2 s2 => h H2 r2 (s1.trans s2)
theorem Run.pure {a : α} {P : α → Gam → Hp → Prop} (h : Run K W σ g H (pur a g) P) (r : Rel K H σ g) : P a g H := h H r .refl
theorem Run.here {a : α} {P : α → Gam → Hp → Prop} (h : Run K W σ g H (.ok a g) P) (r : Rel K H σ g) : P a g H := h H r .refl
theorem Run.opt {x : Option α} {P : α → Gam → Hp → Prop} (h : Run K W σ g H (opt x g) P) (r : Rel K H σ g) : ∃ a, x = some a ∧ P a g H := by
  cases x with
  | none => exact h.elim
  | some a => exact ⟨a, rfl, h H r .refl⟩
theorem Run.opt' {x : Option α} {f : α → Ev β} {P : β → Gam → Hp → Prop} (h : Run K W σ g H (DK.bnd (DK.opt x) f g) P) : ∃ a, x = some a ∧ Run K W σ g H (f a g) P := by
  cases x with
  | none => exact h.elim
  | some a => exact ⟨a, rfl, h⟩
theorem RV.step (h : RV K H σ g v ev) (s : StE σ g H g1 H1) : RV K H1 σ g1 v ev := by
  cases ev with
  | val d => exact Fz.mono s.kp h
  | own xs =>
    obtain ⟨a, vs, e, ha, hf, n⟩ := h
    exact ⟨a, vs, e, s.ext a _ ha fun q => n q.ow, hf.mono s.kp, fun q => n (s.ow q)⟩
  | bor i => exact h
theorem RV.content (h : RV K H σ g v ev) (r : Rel K H σ g) {f : D → Ev β} {P : β → Gam → Hp → Prop} (q : Run K W σ g H (DK.bnd (content ev) f g) P) : ∃ d, content ev g = .ok d g ∧ Cv K H v d ∧ Run K W σ g H (f d g) P := by
  cases ev with
  | val d => exact ⟨d, rfl, .inl h, q⟩
  | own xs =>
    obtain ⟨a, vs, e, ha, hf, n⟩ := h
    exact ⟨.list xs, rfl, .inr ⟨a, vs, xs, e, rfl, ha, hf⟩, q⟩
  | bor i =>
    unfold DK.bnd DK.content at q
    dsimp only at q
    cases e : g[i]? with
    | none => rw [e] at q; exact q.elim
    | some sl =>
      rw [e] at q
      cases sl with
      | no => exact q.elim
      | val _ => exact q.elim
      | own k xs =>
        obtain ⟨a, vs, e1, e2, e3⟩ := r.own i k xs e
        have h' : σ[i]? = some (some v) := h
        rw [h'] at e1; cases e1
        exact ⟨.list xs, by simp only [DK.content, e], .inr ⟨a, vs, xs, rfl, rfl, e2, e3⟩, q⟩
theorem Cv.step (h : Cv K H v d) (s : Kp H H1) (e : ∀ a vs, v = .ref a → H a = some (.lst vs) → H1 a = some (.lst vs)) : Cv K H1 v d := by
  rcases h with h | ⟨a, vs, xs, e1, e2, e3, e4⟩
  · exact .inl (h.mono s)
  · exact .inr ⟨a, vs, xs, e1, e2, e a vs e1 e3, e4.mono s⟩
theorem Cv.dp (h : Cv K H v d) : Dp K H v d := by
  rcases h with h | ⟨a, vs, xs, rfl, rfl, e3, e4⟩
  · exact h.dp
  · exact .lst (.of e3) e4.dp
theorem Cv.int {i : Int} (h : Cv K H v (.int i)) : v = .int i := by
  rcases h with h | ⟨_, _, _, _, e, _⟩
  · exact h.int_inv
  · cases e
theorem Cv.str {i : Str} (h : Cv K H v (.str i)) : v = .str i := by
  rcases h with h | ⟨_, _, _, _, e, _⟩
  · exact h.str_inv
  · cases e
theorem Cv.bool {i : Bool} (h : Cv K H v (.bool i)) : v = .bl i := by
  rcases h with h | ⟨_, _, _, _, e, _⟩
  · exact h.bool_inv
  · cases e
theorem Cv.none (h : Cv K H v .none) : v = .non := by
  rcases h with h | ⟨_, _, _, _, e, _⟩
  · exact h.none_inv
  · cases e
theorem Cv.lst {ds : List D} (h : Cv K H v (.list ds)) : ∃ a xs, v = .ref a ∧ SqL K H a xs ∧ FzA K H xs ds := by
  rcases h with h | ⟨a, vs, xs, e1, e, e2, e3⟩
  · obtain ⟨a, xs, e, s, f⟩ := h.lst_inv
    exact ⟨a, xs, e, s.sql, f⟩
  · cases e; exact ⟨a, vs, e1, .of e2, e3⟩
theorem Cv.tup {ds : List D} (h : Cv K H v (.tuple ds)) : ∃ a xs, v = .ref a ∧ SqU K H a xs ∧ FzA K H xs ds := by
  rcases h with h | ⟨_, _, _, _, e, _⟩
  · exact h.tup_inv
  · cases e
theorem lim_eq : sizeLine = lim := sizeLine_eq
theorem isEmpty_len {x : List V} {y : List D} (h : x.length = y.length) : x.isEmpty = y.isEmpty := by
  cases x <;> cases y <;> simp_all
theorem Cv.tru {k : Bool} (h : Cv K H v d) (t : truth d = some k) : TruV K v H k := by
  cases d with
  | none => rw [h.none]; cases t; rfl
  | bool b => rw [h.bool]; cases t; rfl
  | int i => rw [h.int]; cases t; rfl
  | str x =>
    rw [h.str]
    by_cases q : x.length ≤ lim
    · rw [show truth (.str x) = _ from if_pos q] at t; cases t; exact ⟨by rw [lim_eq]; exact q, rfl⟩
    · rw [show truth (.str x) = _ from if_neg q] at t; cases t
  | list xs =>
    obtain ⟨a, vs, rfl, s, f⟩ := h.lst
    cases t
    exact .inl ⟨vs, s, by rw [isEmpty_len f.length]⟩
  | tuple xs =>
    obtain ⟨a, vs, rfl, s, f⟩ := h.tup
    cases t
    exact .inr (.inl ⟨vs, s.sqt, by rw [isEmpty_len f.length]⟩)
  | dict _ => cases t
end
/-! ### weakening -/
theorem _root_.L2.PE.imp {X : Cx} {e : Expr} {t t' : TE} (h : PE X e t) (f : ∀ σ H Q, t' σ H Q → t σ H Q) : PE X e t' := ⟨fun pins s σ H Q I q => h.run pins s σ H Q I (f σ H Q q)⟩
theorem _root_.L2.PT.imp {X : Cx} {e : Expr} {t t' : TT} (h : PT X e t) (f : ∀ σ H Q, t' σ H Q → t σ H Q) : PT X e t' := ⟨fun pins s σ H Q I q => h.run pins s σ H Q I (f σ H Q q)⟩
section
variable {X : Cx} {W : Nat → L2.St → Hp → Prop} {a b c : Expr} {ma mb mc : Ev EV} {pos : Pos}
theorem pe_frz {e : Expr} {m : Ev EV} (h : PE X e (tM X.K W m)) : PE X e (tF X.K W (bnd m freeze)) := by
  refine ⟨fun pins s σ H Q I hq => ?_⟩
  obtain ⟨g, r, hr⟩ := hq
  refine thn (h.run pins s σ H (fun v H1 => ∃ ev g1, m g = .ok ev g1 ∧ Rel X.K H1 σ g1 ∧ StE σ g H g1 H1 ∧ RV X.K H1 σ g1 v ev ∧ Fr H v ev) I ⟨g, r, ?_⟩) fun u s1 ⟨v, H1, I1, rv, ev, g1, em, r1, s1', hv, hf⟩ => ?_
  · unfold DK.bnd at hr
    cases q : m g with
    | bad => rw [q] at hr; exact hr
    | exc c g' => rw [q] at hr; exact hr
    | ok ev g' => exact fun H' r' s' v hv hf => ⟨ev, g', rfl, r', s', hv, hf⟩
  · unfold DK.bnd at hr
    rw [em] at hr
    dsimp only at hr
    cases ev with
    | val d => exact ⟨v, H1, I1, rv, hr H1 r1 s1' v hv⟩
    | own xs =>
      obtain ⟨a, vs, rfl, ha, hfz, nw⟩ := hv
      obtain ⟨o, I2⟩ := I1.lock ha trivial
      have hn : H a = none := hf a rfl
      have k2 : Kp H1 (upd H1 a (.frz o (.lst vs))) := Kp.frz ha
      refine ⟨.ref a, _, I2, rv, hr _ ⟨r1.len, fun i d e => ?_, fun i k ys e => ?_, r1.inj⟩ ⟨fun b u e n => ?_, s1'.kp.trans k2, fun b e => ?_, s1'.shr, s1'.stay, s1'.vals, s1'.lenE⟩ (.ref a) (.lst (.inl ⟨o, upd_same⟩) (hfz.mono k2))⟩
      · obtain ⟨w, h1, h2⟩ := r1.val i d e
        exact ⟨w, h1, h2.mono k2⟩
      · obtain ⟨b, ws, h1, h2, h3⟩ := r1.own i k ys e
        exact ⟨b, ws, h1, by rw [upd_ne (show b ≠ a from fun z => nw ⟨i, k, ys, e, z ▸ h1⟩)]; exact h2, h3.mono k2⟩
      · rw [upd_ne (show b ≠ a from fun z => by rw [z, hn] at e; cases e)]
        exact s1'.ext b u e n
      · by_cases z : b = a
        · subst z; exact absurd hn e
        · rw [upd_ne z]; exact s1'.dom b e
    | bor i =>
      unfold freeze at hr
      dsimp only at hr
      cases e : g1[i]? with
      | none => rw [e] at hr; exact hr.elim
      | some sl =>
        rw [e] at hr
        cases sl with
        | no => exact hr.elim
        | val _ => exact hr.elim
        | own k xs =>
          cases k with
          | loan => exact hr.elim
          | lock => exact hr.elim
          | mine =>
            obtain ⟨a, vs, h1, ha, hfz⟩ := r1.own i _ xs e
            have hv' : σ[i]? = some (some v) := hv
            rw [hv'] at h1; cases h1
            obtain ⟨o, I2⟩ := I1.lock ha trivial
            have k2 : Kp H1 (upd H1 a (.frz o (.lst vs))) := Kp.frz ha
            have hi : i < g1.length := by
              by_cases z : i < g1.length
              · exact z
              · rw [List.getElem?_eq_none (by omega)] at e; cases e
            obtain ⟨ys0, e0⟩ := s1'.shr i _ xs e
            have nv : ∀ (j : Nat) (k : Kd) (ys : List D), j ≠ i → g1[j]? = some (.own k ys) → σ[j]? ≠ some (some (.ref a)) := fun j k ys hj ej z => hj (r1.inj j i k _ ys xs a ej e z hv')
            refine ⟨.ref a, _, I2, rv, hr _ ⟨by rw [List.length_set]; exact r1.len, fun j d ej => ?_, fun j k ys ej => ?_, fun j l k k' xs' ys' b e1 e2 => ?_⟩ ⟨fun b u eb n => ?_, s1'.kp.trans k2, fun b eb => ?_, fun j k ys ej => ?_, fun j k ys ej hk => ?_, fun j d ej => ?_, by rw [List.length_set]; exact s1'.lenE⟩ (.ref a) (.lst (.inl ⟨o, upd_same⟩) (hfz.mono k2))⟩
            · by_cases hj : j = i
              · subst hj
                rw [List.getElem?_set_self hi] at ej; cases ej
                exact ⟨.ref a, hv', .lst (.inl ⟨o, upd_same⟩) (hfz.mono k2)⟩
              · rw [List.getElem?_set_ne (Ne.symm hj)] at ej
                obtain ⟨w, h1, h2⟩ := r1.val j d ej
                exact ⟨w, h1, h2.mono k2⟩
            · by_cases hj : j = i
              · subst hj
                rw [List.getElem?_set_self hi] at ej; cases ej
              · rw [List.getElem?_set_ne (Ne.symm hj)] at ej
                obtain ⟨b, ws, h1, h2, h3⟩ := r1.own j k ys ej
                exact ⟨b, ws, h1, by rw [upd_ne (show b ≠ a from fun z => nv j k ys hj ej (z ▸ h1))]; exact h2, h3.mono k2⟩
            · have f : ∀ {j : Nat} {k : Kd} {xs' : List D}, (g1.set i (.val (.list xs)))[j]? = some (.own k xs') → g1[j]? = some (.own k xs') := fun {j k xs'} ej => by
                by_cases hj : j = i
                · subst hj; rw [List.getElem?_set_self hi] at ej; cases ej
                · rwa [List.getElem?_set_ne (Ne.symm hj)] at ej
              exact r1.inj j l k k' xs' ys' b (f e1) (f e2)
            · have hb : b ≠ a := fun z => n ⟨i, .mine, ys0, e0, (fun q => by cases q), z ▸ hv'⟩
              rw [upd_ne hb]
              exact s1'.ext b u eb n
            · by_cases z : b = a
              · subst z; rw [upd_same]; exact fun q => nomatch q
              · rw [upd_ne z]; exact s1'.dom b eb
            · by_cases hj : j = i
              · subst hj
                rw [List.getElem?_set_self hi] at ej; cases ej
              · rw [List.getElem?_set_ne (Ne.symm hj)] at ej
                exact s1'.shr j k ys ej
            · obtain ⟨zs, e1, h1⟩ := s1'.stay j k ys ej hk
              have hj : j ≠ i := fun z => by subst z; rw [e] at e1; cases e1; exact hk rfl
              exact ⟨zs, by rw [List.getElem?_set_ne (Ne.symm hj)]; exact e1, h1⟩
            · have e1 := s1'.vals j d ej
              have hj : j ≠ i := fun z => by subst z; rw [e] at e1; cases e1
              rw [List.getElem?_set_ne (Ne.symm hj)]; exact e1
theorem tM_bin {r : R2} {f : EV → EV → Ev EV} {σ : L2.St} {H : Hp} {Q : VK} (h : tM X.K W (bnd ma fun x => bnd mb fun y => f x y) σ H Q)
    (hr : ∀ (g2 : Gam) (H2 : Hp) (x y : EV) (v w : V), Rel X.K H2 σ g2 → RV X.K H2 σ g2 v x → RV X.K H2 σ g2 w y → Run X.K W σ g2 H2 (f x y g2) (fun ev g' H' => ∀ u, RV X.K H' σ g' u ev → Fr H2 u ev → Q u H') → r v w H2 Q) :
    tOp r (tM X.K W ma) (tM X.K W mb) σ H Q := by
  obtain ⟨g, r0, h⟩ := h
  refine ⟨g, r0, h.bnd.mono fun x g1 H1 r1 s1 h1 v hv _ => ?_⟩
  refine ⟨g1, r1, h1.bnd.mono fun y g2 H2 r2 s2 h2 w hw _ => ?_⟩
  refine hr g2 H2 x y v w r2 (hv.step s2) hw (h2.mono fun ev g' H' r' s' q u hu hf => q u hu ?_)
  cases ev with
  | own xs => exact fun a ea => Classical.byContradiction fun z => (s1.trans s2).dom a z (hf a ea)
  | val _ => trivial
  | bor _ => trivial
end
end DK
end
section
set_option maxRecDepth 100000
set_option maxHeartbeats 4000000
namespace DK
open PySem L2 PySem.Spec PyProof.Rows

def Nw (H H' : Hp) : Prop := ∀ a o, H a = some o → H' a = some o
theorem Nw.refl {H : Hp} : Nw H H := fun _ _ e => e
theorem Nw.upd {H : Hp} {p : Addr} {o : HO} (h : H p = none) : Nw H (upd H p o) := fun a u e => by rw [upd_ne (ne_of_none e h)]; exact e
theorem Nw.kp {H H' : Hp} (h : Nw H H') : Kp H H' := fun a o e _ => h a o e
def ResV (K : PySem.W.Frag) (H : Hp) (Q : VK) : EV → Prop
  | .val d => ∀ H' u, Nw H H' → Fz K H' u d → Q u H'
  | .own xs => ∀ p vs, H p = none → FzA K H vs xs → Q (.ref p) (upd H p (.lst vs))
  | .bor _ => False
section
variable {K : PySem.W.Frag} {W : Nat → L2.St → Hp → Prop} {H H1 H2 : Hp} {σ σ1 σ2 : L2.St} {g g1 g2 : Gam} {a : Addr} {v : V} {ev : EV} {d : D}
theorem Rel.nw (r : Rel K H σ g) (n : Nw H H1) : Rel K H1 σ g where
  len := r.len
  val := fun i d e => let ⟨v, h1, h2⟩ := r.val i d e; ⟨v, h1, h2.mono n.kp⟩
  own := fun i k xs e => by
    obtain ⟨a, vs, h1, h2, h3⟩ := r.own i k xs e
    exact ⟨a, vs, h1, n a _ h2, h3.mono n.kp⟩
  inj := r.inj
theorem StE.nw (n : Nw H H1) : StE σ g H g H1 where
  ext := fun a u e _ => n a u e
  kp := n.kp
  dom := fun a e => by
    cases q : H a with
    | none => exact absurd q e
    | some o => rw [n a o q]; exact fun z => nomatch z
  shr := fun _ _ xs e => ⟨xs, e⟩
  stay := fun _ _ xs e _ => ⟨xs, e, fun _ => rfl⟩
  vals := fun _ _ e => e
  lenE := rfl
theorem fin_res {Q : VK} (r : Rel K H σ g) (h : Run K W σ g H (.ok ev g) fun ev g' H' => ∀ u, RV K H' σ g' u ev → Fr H u ev → Q u H') : ev = ev ∧ (∀ i, ev ≠ .bor i) → ResV K H Q ev := by
  intro hb
  cases ev with
  | val d => exact fun H' u n f => h H' (r.nw n) (.nw n) u f trivial
  | own xs =>
    intro p vs hp f
    refine h _ (r.nw (.upd hp)) (.nw (.upd hp)) (.ref p) ⟨p, vs, rfl, upd_same, f.mono (Nw.upd hp).kp, fun z => ?_⟩ fun a e => by cases e; exact hp
    obtain ⟨ws, e⟩ := r.ow_lst z
    rw [hp] at e; cases e
  | bor i => exact (hb.2 i rfl).elim
end

/-! ### lists and tuples that are read -/
section
variable {X : Cx} {pins : List (Addr × Obj)} {σ : L2.St} {H : Hp} {s : Shared} {l b : Addr} {xs ys : List V} {v w : V} {x y d : D} {ds es : List D}
def LsO (s : Shared) (l : Addr) (xs : List V) : Prop := xs.length ≤ sizeLine ∧ ∃ (its : List Value) (n : Nat), Vals xs its ∧ xs.length = its.length ∧ s.heap.get? l = some { cls := .type "list", data := .seq its.toArray n }
theorem lsO_frz (I : L2.Inv X pins σ H s) (h : SqF X.K H l xs) : LsO s l xs := by
  rcases h with ⟨o, e⟩ | ⟨us, n, h1, h2, h3⟩
  · obtain ⟨_, z, its, n, r, e2⟩ := (show ObjOk X.prog X.w H s.heap l (.frz o (.lst xs)) from I.hok l _ e)
    exact ⟨z, its, n, r, r.length, e2⟩
  · exact ⟨by rw [h3.length]; exact h2, us, n, h3, h3.length, I.kIn _ _ h1⟩
theorem lsO_lst (I : L2.Inv X pins σ H s) (h : H l = some (.lst xs)) : LsO s l xs := I.lstM h
theorem Cv.lsO (I : L2.Inv X pins σ H s) (h : Cv X.K H v (.list ds)) : ∃ a xs, v = .ref a ∧ LsO s a xs ∧ FzA X.K H xs ds := by
  rcases h with h | ⟨a, vs, zs, e1, e, e2, e3⟩
  · obtain ⟨a, xs, e, s, f⟩ := h.lst_inv
    exact ⟨a, xs, e, lsO_frz I s, f⟩
  · cases e; exact ⟨a, vs, e1, lsO_lst I e2, e3⟩
end
def bopOf : Bop → Operator
  | .add => .Add | .sub => .Sub | .mul => .Mult | .div => .FloorDiv | .mod => .Mod | .shl => .LShift | .shr => .RShift | .bor => .BitOr
def rBin (K : PySem.W.Frag) (o : Bop) : R2 := fun v w H Q => ∃ x y ev, Cv K H v x ∧ Cv K H w y ∧ binD o x y = some ev ∧ ResV K H Q ev
section
variable {X : Cx}
theorem resI {K : PySem.W.Frag} {H : Hp} {Q : VK} {i : Int} (h : ResV K H Q (.val (.int i))) : Q (.int i) H := h H _ .refl (.int i)
theorem cat_ls {pins : List (Addr × Obj)} {s : Shared} {σ : L2.St} {H : Hp} {l b : Addr} {xs zs : List V} {Q : VK} (I : L2.Inv X pins σ H s) (h1 : LsO s l xs) (h2 : LsO s b zs) (hz : xs.length + zs.length ≤ sizeLine)
    (q : ∀ p, H p = none → Q (.ref p) (upd H p (.lst (xs ++ zs)))) : wpAny (model X.prog X.w) X.A (binaryOp .Add (.ref l) (.ref b)) (EP X pins σ Q) X.xe s := by
  obtain ⟨z, us, n, r, hl, e⟩ := h1
  obtain ⟨z2, us2, n2, r2, hl2, e2⟩ := h2
  refine PySem.P.add_list e e2 ?_ (by rw [List.size_toArray, List.size_toArray]; omega)
  have ea : us.toArray ++ us2.toArray = (us ++ us2).toArray := by simp
  rw [ea]
  exact ⟨.ref _, _, I.lnew (t' := s.toks) (r.append r2) (by rw [List.length_append]; omega), rfl, q _ I.fresh⟩
theorem rep_ls {pins : List (Addr × Obj)} {s : Shared} {σ : L2.St} {H : Hp} {l : Addr} {xs : List V} {Q : VK} {k : Int} {t : Tok} (I : L2.Inv X pins σ H s) (h1 : LsO s l xs) (ha : -(2 ^ 63) ≤ k) (hb : k < 2 ^ 63) (hz : xs.length * k.toNat ≤ sizeLine)
    (q : ∀ p, H p = none → Q (.ref p) (upd H p (.lst (List.replicate k.toNat xs).flatten))) : wpAny (model X.prog X.w) X.A (binaryOp .Mult (.ref l) (.int k t)) (EP X pins σ Q) X.xe s := by
  obtain ⟨z, us, n, r, hl, e⟩ := h1
  have hlen : us.toArray.size * k.toNat ≤ sizeLine := by rw [List.size_toArray, ← hl]; exact hz
  have hcap : ¬ us.toArray.size * k.toNat > (2 ^ 63 - 1) / 8 := fun q => by
    have : (sizeLine : Nat) ≤ (2 ^ 63 - 1) / 8 := by decide
    omega
  have hfit : ¬ (!Builtin.List.listFitsIndex k) = true := fun q => by
    rw [fitsIndex_both ha hb] at q; cases q
  have hlong : ¬ Builtin.List.listTooLong (us.toArray.size * k.toNat) = true := fun q => by
    rw [notLongL hlen] at q; cases q
  have f0 : ∀ m : Nat, List.foldl (fun c d => c ++ d) #[] (List.replicate m us.toArray) = (List.replicate m us).flatten.toArray := size_rep us
  have hnew : List.foldl (fun c d => c ++ d) #[] (List.replicate (if us.toArray.isEmpty = true then 0 else k.toNat) us.toArray) = (List.replicate k.toNat us).flatten.toArray := by
    rw [f0]
    cases us with
    | nil => simp
    | cons a r' => rw [if_neg (by simp)]
  refine wpAny_binaryOp_repeat_ref (T := "list") (U := "int") (by decide) ⟨_, e, rfl⟩ (fun s' => typeIs_int s' k t) noFill_list_mul F.fills_int_mul F.slot_int_rmul repeat_list F.slot_int_index.lookup
    (call_meets F.slot_int_rmul (typeIs_int s k t) F.entry_int_rmul (F.args_int_rmul_2 _ _) (int___rmul___int_list k t l us.toArray n) ?_)
  refine ⟨e, rfl, ⟨_, e, rfl⟩, call_meets F.slot_list_mul ⟨_, e, rfl⟩ F.entry_list_mul (F.args_list_mul_2 _ _) (AutoListH.list___mul___list_int_3 l us.toArray n k t hfit hcap hlong) ⟨e, ?_⟩⟩
  rw [hnew]
  exact ⟨.ref _, _, I.lnew (t' := s.toks) (r.rep k.toNat) (by rw [PyProof.Rows.lm_len_rep_flat, Nat.mul_comm]; exact hz), rfl, q _ I.fresh⟩
end
end DK
end
section
set_option maxRecDepth 100000
set_option maxHeartbeats 4000000
namespace DK
open PySem L2 PySem.Spec PyProof.Rows
theorem tuple_mul1 (l : Addr) (xs : Array Value) (n : Nat) (dd : Option Addr) (sl : Array (Option Value)) (u : Tok) :
    Meets (Builtin.«tuple.__mul__» ⟨[.ref l, .int 1 u], []⟩) (fun _ R s => s.heap.get? l = some { cls := .type "tuple", dict := dd, data := .seq xs n, slots := sl } ∧
      R (.ok (.ret (Value.ref l))) s) :=
  .of_wp fun prog w A R s h => by
    obtain ⟨hp, g, d, tk, os⟩ := s
    obtain ⟨hl, h⟩ := h
    have f1 := AutoSeq1.idx_int
    have c0 : (decide ((1 : Int) < -(2 ^ 63)) || decide ((1 : Int) ≥ 2 ^ 63)) = false := by decide
    have c1 : (xs.isEmpty || (1 : Int) == 1) = true := by simp
    wp_walk using wpAny_loadPart' hl
    repeat (first
      | (refine wpAny_ite_false (decide_eq_false (by rw [c0]; exact Bool.false_ne_true)) ?_; wp_walk using wpAny_loadPart' hl)
      | (refine wpAny_ite_true (decide_eq_true (by rw [c1])) ?_; wp_walk using wpAny_loadPart' hl))
    exact ⟨_, rfl, h⟩
section
variable {X : Cx} {pins : List (Addr × Obj)} {s : Shared} {σ : L2.St} {H : Hp} {Q : VK}
theorem rep_tup1 {l : Addr} {xs : List V} {t : Tok} (I : L2.Inv X pins σ H s) (h : SqT X.K H l xs) (q : Q (.ref l) H) :
    wpAny (model X.prog X.w) X.A (binaryOp .Mult (.ref l) (.int 1 t)) (EP X pins σ Q) X.xe s := by
  obtain ⟨us, r, ⟨⟨cls, dd, data, sl⟩, ho, hc, n, hd⟩, hs⟩ := I.tuple h
  simp only at hc hd
  subst hc hd
  exact wpAny_binaryOp_repeat_ref (T := "tuple") (U := "int") (by decide) ⟨_, ho, rfl⟩ (fun s' => typeIs_int s' 1 t) noFill_tuple_mul F.fills_int_mul F.slot_int_rmul repeat_tuple F.slot_int_index.lookup
    (call_meets F.slot_int_rmul (typeIs_int s 1 t) F.entry_int_rmul (F.args_int_rmul_2 _ _) (int_rmul_tuple 1 t l us.toArray n dd sl)
      ⟨ho, rfl, ⟨_, ho, rfl⟩, call_meets F.slot_tuple_mul ⟨_, ho, rfl⟩ F.entry_tuple_mul (F.args_tuple_mul_2 _ _) (tuple_mul1 l us.toArray n dd sl t) ⟨ho, ⟨.ref l, H, I, rfl, q⟩⟩⟩)
theorem ifS {α : Type} {c : Prop} [Decidable c] {x : α} {z : α} (h : (if c then some x else none) = some z) : c ∧ x = z := by
  by_cases q : c
  · rw [if_pos q] at h; cases h; exact ⟨q, rfl⟩
  · rw [if_neg q] at h; cases h
theorem bin_ok (o : Bop) : OpR X (binaryOp (bopOf o)) (rBin X.K o) := by
  intro pins s σ H v w vv ww Q I rv rw' h
  obtain ⟨x, y, ev, cx, cy, e, q⟩ := h
  have hl := line63
  have hs : sizeLine = 16777216 := sizeLine_eq
  have hlim : lim = 16777216 := rfl
  cases x with
  | int a =>
    cases y <;> try cases e
    rename_i b
    cases cx.int
    cases cy.int
    cases o with
    | add => cases e; exact op_add pins s σ H _ _ vv ww Q I rv rw' ⟨a, b, rfl, rfl, resI q⟩
    | sub => cases e; exact op_sub pins s σ H _ _ vv ww Q I rv rw' ⟨a, b, rfl, rfl, resI q⟩
    | mul => obtain ⟨c, e'⟩ := ifS e; cases e'; exact op_mulW pins s σ H _ _ vv ww Q I rv rw' ⟨a, b, rfl, rfl, c, resI q⟩
    | div => obtain ⟨c, e'⟩ := ifS e; cases e'; exact op_fdivW pins s σ H _ _ vv ww Q I rv rw' ⟨a, b, rfl, rfl, c, resI q⟩
    | mod => obtain ⟨c, e'⟩ := ifS e; cases e'; exact op_mod pins s σ H _ _ vv ww Q I rv rw' ⟨a, b, rfl, rfl, c, resI q⟩
    | shl => obtain ⟨c, e'⟩ := ifS e; cases e'; exact op_shl pins s σ H _ _ vv ww Q I rv rw' ⟨a, b, rfl, rfl, ⟨c.1, c.2.1, by have := c.2.2; omega⟩, resI q⟩
    | shr => obtain ⟨c, e'⟩ := ifS e; cases e'; exact op_shr pins s σ H _ _ vv ww Q I rv rw' ⟨a, b, rfl, rfl, c, resI q⟩
    | bor => cases e; exact op_or pins s σ H _ _ vv ww Q I rv rw' ⟨a, b, rfl, rfl, resI q⟩
  | str a =>
    cases y <;> try cases e
    rename_i b
    cases o <;> try cases e
    obtain ⟨c, e'⟩ := ifS e
    cases e'
    cases cx.str
    cases cy.str
    exact op_add_str pins s σ H _ _ vv ww Q I rv rw' ⟨a, b, rfl, rfl, by rw [hs]; exact c, q H _ .refl (.str _)⟩
  | list a =>
    obtain ⟨l, xs, rfl, lx, fx⟩ := cx.lsO I
    cases rv
    cases y with
    | list b =>
      cases o <;> try cases e
      obtain ⟨c, e'⟩ := ifS e
      cases e'
      obtain ⟨l2, ys, rfl, ly, fy⟩ := cy.lsO I
      cases rw'
      exact cat_ls I lx ly (by rw [fx.length, fy.length, hs]; exact c) fun p hp => q p _ hp (fx.append fy)
    | int k =>
      cases o <;> try cases e
      obtain ⟨c, e'⟩ := ifS e
      cases e'
      cases cy.int
      obtain ⟨t, rfl⟩ := rw'
      simp only [small, Bool.and_eq_true, decide_eq_true_eq] at c
      exact rep_ls I lx (by omega) (by omega) (by rw [fx.length, hs]; exact c.2) fun p hp => q p _ hp (fx.rep _)
    | _ => cases e
  | tuple a =>
    obtain ⟨l, xs, rfl, lx, fx⟩ := cx.tup
    cases rv
    cases y with
    | tuple b =>
      cases o <;> try cases e
      obtain ⟨c, e'⟩ := ifS e
      cases e'
      obtain ⟨l2, ys, rfl, ly, fy⟩ := cy.tup
      cases rw'
      refine op_catA pins s σ H (.ref l) (.ref l2) _ _ Q I rfl rfl ⟨l, l2, xs, ys, rfl, rfl, lx.sqt, ly.sqt, by rw [fx.length, fy.length, hs]; exact c, fun e1 => ?_, fun _ e2 => ?_, fun _ _ p hp => ?_⟩
      · subst e1; cases fx; exact q H _ .refl (.tup ly fy)
      · subst e2; cases fy; rw [List.append_nil] at q; exact q H _ .refl (.tup lx fx)
      · exact q _ _ (.upd hp) (.tup (.inl upd_same) ((fx.append fy).mono (Nw.upd hp).kp))
    | int k =>
      cases o <;> try cases e
      obtain ⟨c, e'⟩ := ifS e
      cases e'
      cases cy.int
      obtain ⟨t, rfl⟩ := rw'
      have hne : xs ≠ [] := fun e1 => by
        subst e1; cases fx; exact absurd c.1 (by decide)
      by_cases h1 : k = 1
      · subst h1
        exact rep_tup1 I lx.sqt (q H _ .refl (.tup lx (by simpa using fx)))
      · exact op_repT pins s σ H (.ref l) (.int k) _ _ Q I rfl ⟨t, rfl⟩ ⟨l, k, xs, rfl, rfl, lx.sqt, hne, by omega, c.2.2.1, by rw [fx.length]; exact c.2.2.2, fun p hp => q _ _ (.upd hp) (.tup (.inl upd_same) ((fx.rep _).mono (Nw.upd hp).kp))⟩
    | _ => cases e
  | _ => cases e
/-! ### comparisons -/
def copOf : Cop → CmpOp
  | .eq => .Eq | .ne => .NotEq | .lt => .Lt | .le => .LtE | .gt => .Gt | .ge => .GtE | .isn => .Is | .notn => .IsNot | .ist => .Is | .notist => .IsNot | .isin => .In | .notin => .NotIn
def rCmp (K : PySem.W.Frag) (o : Cop) : R2 := fun v w H Q => ∃ x y b, Cv K H v x ∧ Cv K H w y ∧ cmpD o x y = some b ∧ Q (.bl b) H
theorem non_iff {K : PySem.W.Frag} {H : Hp} {v : V} {x : D} (h : Cv K H v x) : decide (v = .non) = isN x := by
  cases x with
  | none => cases h.none; rfl
  | bool b => cases h.bool; rfl
  | int b => cases h.int; rfl
  | str b => cases h.str; rfl
  | list b => obtain ⟨_, _, e, _⟩ := h.lst; cases e; rfl
  | tuple b => obtain ⟨_, _, e, _⟩ := h.tup; cases e; rfl
  | dict b =>
    rcases h with h | ⟨_, _, _, _, e, _⟩
    · cases h
    · cases e
theorem room65 {A : Around} (hu : A.units + 65 < cLine) {d : D} {ds : List D} (h : SeqAt.shaped d = true) : A.units + 1 + min (PyData.depthAll ds) d.depth < cLine := by
  have := SeqAt.depth_of_shaped h
  omega
theorem sign_of {a : Str} {k : Nat → Option Bool} {b : Bool} (h : (match a.cps.toList with | [c] => k c | _ => none) = some b) : ∃ c, a = ⟨#[c]⟩ ∧ k c = some b := by
  obtain ⟨⟨l⟩⟩ := a
  match l, h with
  | [], h => cases h
  | [c], h => exact ⟨c, rfl, h⟩
  | _ :: _ :: _, h => cases h
theorem cmp_ok (hu : X.A.units + 65 < cLine) (o : Cop) : OpR X (compareOp (copOf o)) (rCmp X.K o) := by
  intro pins s σ H v w vv ww Q I rv rw' h
  obtain ⟨x, y, b, cx, cy, e, q⟩ := h
  have inL : ∀ {ys : List D}, Cv X.K H w (.list ys) → SeqAt.shaped x = true → SeqAt.shaped (.list ys) = true → ∃ as bs, Reads s.heap ww (.list ys) as ∧ Reads s.heap vv x bs := fun c _ _ => by
    obtain ⟨as, r1⟩ := Dp.reads I _ _ _ c.dp rw'
    obtain ⟨bs, r2⟩ := Dp.reads I _ _ _ cx.dp rv
    exact ⟨as, bs, r1, r2⟩
  cases o with
  | eq =>
    obtain ⟨c, e'⟩ := ifS e
    cases e'
    obtain ⟨c1, c2⟩ := Bool.and_eq_true_iff.mp c
    exact op_eqD (by omega) pins s σ H v w vv ww Q I rv rw' ⟨x, y, cx.dp, cy.dp, c1, c2, q⟩
  | ne =>
    obtain ⟨c, e'⟩ := ifS e
    cases e'
    obtain ⟨c1, c2⟩ := Bool.and_eq_true_iff.mp c
    exact op_neD (by omega) pins s σ H v w vv ww Q I rv rw' ⟨x, y, cx.dp, cy.dp, c1, c2, q⟩
  | lt =>
    cases x <;> try cases e
    · cases y <;> cases e
      cases cx.int; cases cy.int
      exact op_lt pins s σ H _ _ vv ww Q I rv rw' ⟨_, _, rfl, rfl, q⟩
    · cases y <;> cases e
      cases cx.str; cases cy.str
      exact op_lt_str pins s σ H _ _ vv ww Q I rv rw' ⟨_, _, rfl, rfl, q⟩
  | le =>
    cases x <;> try cases e
    · cases y <;> cases e
      cases cx.int; cases cy.int
      exact op_le pins s σ H _ _ vv ww Q I rv rw' ⟨_, _, rfl, rfl, q⟩
    · cases y <;> cases e
      cases cx.str; cases cy.str
      exact op_le_str pins s σ H _ _ vv ww Q I rv rw' ⟨_, _, rfl, rfl, q⟩
  | gt =>
    cases x <;> try cases e
    · cases y <;> cases e
      cases cx.int; cases cy.int
      exact op_gt pins s σ H _ _ vv ww Q I rv rw' ⟨_, _, rfl, rfl, q⟩
    · cases y <;> cases e
      cases cx.str; cases cy.str
      exact op_gt_str pins s σ H _ _ vv ww Q I rv rw' ⟨_, _, rfl, rfl, q⟩
  | ge =>
    cases x <;> try cases e
    · cases y <;> cases e
      cases cx.int; cases cy.int
      exact op_ge pins s σ H _ _ vv ww Q I rv rw' ⟨_, _, rfl, rfl, q⟩
    · cases y <;> cases e
      cases cx.str; cases cy.str
      exact op_ge_str pins s σ H _ _ vv ww Q I rv rw' ⟨_, _, rfl, rfl, q⟩
  | isn =>
    cases y <;> cases e
    cases cy.none
    exact op_isN pins s σ H _ _ vv ww Q I rv rw' ⟨rfl, by rw [non_iff cx]; exact q⟩
  | notn =>
    cases y <;> cases e
    cases cy.none
    exact op_notN pins s σ H _ _ vv ww Q I rv rw' ⟨rfl, by rw [non_iff cx]; exact q⟩
  | ist =>
    cases x <;> try cases e
    cases y <;> cases e
    cases cx.bool; cases cy.bool
    exact op_is_bl pins s σ H _ _ vv ww Q I rv rw' ⟨_, _, rfl, rfl, by rw [← Bool.beq_eq_decide_eq]; exact q⟩
  | notist =>
    cases x <;> try cases e
    cases y <;> cases e
    cases cx.bool; cases cy.bool
    exact op_isnot_bl pins s σ H _ _ vv ww Q I rv rw' ⟨_, _, rfl, rfl, by rw [← Bool.beq_eq_decide_eq]; exact q⟩
  | isin =>
    cases y <;> try cases e
    · rename_i z
      cases x <;> try cases e
      rename_i a
      obtain ⟨c, hc, e'⟩ := sign_of (k := fun c => some (decide (c ∈ z.cps.toList))) e
      cases e'
      cases cx.str; cases cy.str
      subst hc
      exact op_in_sign pins s σ H _ _ vv ww Q I rv rw' ⟨c, z, rfl, rfl, q⟩
    · obtain ⟨c, e'⟩ := ifS e
      cases e'
      obtain ⟨c1, c2⟩ := Bool.and_eq_true_iff.mp c
      obtain ⟨as, bs, r1, r2⟩ := inL cy c1 c2
      exact SeqAt.in_list_reads r1 r2 (SeqAt.canLay_of_shaped c2) (SeqAt.canLay_of_shaped c1) (room65 hu c1) ⟨.bl _, H, I, rfl, q⟩
    · obtain ⟨c, e'⟩ := ifS e
      cases e'
      obtain ⟨c1, c2⟩ := Bool.and_eq_true_iff.mp c
      obtain ⟨as, r1⟩ := Dp.reads I _ _ _ cy.dp rw'
      obtain ⟨bs, r2⟩ := Dp.reads I _ _ _ cx.dp rv
      exact SeqAt.in_tuple_reads r1 r2 (SeqAt.canLay_of_shaped c2) (SeqAt.canLay_of_shaped c1) (room65 hu c1) ⟨.bl _, H, I, rfl, q⟩
  | notin =>
    cases y <;> try cases e
    · rename_i z
      cases x <;> try cases e
      rename_i a
      obtain ⟨c, hc, e'⟩ := sign_of (k := fun c => some (!decide (c ∈ z.cps.toList))) e
      cases e'
      cases cx.str; cases cy.str
      subst hc
      exact op_notIn_sign pins s σ H _ _ vv ww Q I rv rw' ⟨c, z, rfl, rfl, q⟩
    · obtain ⟨c, e'⟩ := ifS e
      cases e'
      obtain ⟨c1, c2⟩ := Bool.and_eq_true_iff.mp c
      obtain ⟨as, bs, r1, r2⟩ := inL cy c1 c2
      exact SeqAt.notIn_list_reads r1 r2 (SeqAt.canLay_of_shaped c2) (SeqAt.canLay_of_shaped c1) (room65 hu c1) ⟨.bl _, H, I, rfl, q⟩
    · obtain ⟨c, e'⟩ := ifS e
      cases e'
      obtain ⟨c1, c2⟩ := Bool.and_eq_true_iff.mp c
      obtain ⟨as, r1⟩ := Dp.reads I _ _ _ cy.dp rw'
      obtain ⟨bs, r2⟩ := Dp.reads I _ _ _ cx.dp rv
      exact SeqAt.notIn_tuple_reads r1 r2 (SeqAt.canLay_of_shaped c2) (SeqAt.canLay_of_shaped c1) (room65 hu c1) ⟨.bl _, H, I, rfl, q⟩
end
end DK
end
section
set_option maxRecDepth 100000
set_option maxHeartbeats 4000000
namespace DK
open PySem L2 PySem.Spec PyProof.Rows
/-! ### a text's length -/
theorem textFrom_le : ∀ (ts : List Str) (k : Nat) (acc : Str), (textFrom k acc ts).length ≤ acc.length + piled ts
  | [], k, acc => Nat.le_add_right _ _
  | t :: r, k, acc => by
    have h := textFrom_le r (k + 1) (acc ++ (if k > 0 then ", " else "" : String) ++ t)
    have e2 : (((if k > 0 then ", " else "" : String) : Str)).length ≤ 2 := by split <;> decide +kernel
    rw [strLen_append, strLen_append] at h
    rw [piled_cons]
    show (textFrom (k + 1) _ r).length ≤ _
    omega
theorem listText_le (ts : List Str) : (listText ts).length ≤ piled ts + 2 := by
  unfold listText
  have h := textFrom_le ts 0 "["
  have e1 : ((("[" : String) : Str)).length = 1 := by decide +kernel
  have e2 : ((("]" : String) : Str)).length = 1 := by decide +kernel
  rw [strLen_append, e2]
  omega
mutual
theorem shown_le : ∀ d : D, d.canLay0 = true → d.showable = true → d.shown.length ≤ reprCost d
  | .none, _, _ => by show ((("None" : String) : Str)).length ≤ 4; decide +kernel
  | .bool b, _, _ => by cases b <;> (simp only [PyData.shown, reprCost]; decide +kernel)
  | .int i, _, h => by
    simp only [PyData.showable, decide_eq_true_eq] at h
    have := int_text_len_1921 h
    simp only [PyData.shown, reprCost]
    omega
  | .str x, h, _ => by
    simp only [PyData.canLay0, PyData.strOk] at h
    simp only [PyData.shown, reprCost]
    refine StrLaws.reprText_len x fun c hc => ?_
    have h2 := Array.all_eq_true_iff_forall_mem.mp h c (Array.mem_toList_iff.mp hc)
    have h3 : c < 1114112 := by simpa using h2
    omega
  | .list xs, h, h2 => by
    simp only [PyData.canLay0] at h
    simp only [PyData.showable] at h2
    have h3 := shownAll_le xs h h2
    have h4 := listText_le (PyData.shownAll xs)
    simp only [PyData.shown, reprCost]
    omega
  | .tuple xs, h, h2 => by
    simp only [PyData.canLay0] at h
    simp only [PyData.showable] at h2
    have h3 := shownAll_le xs h h2
    have h4 := fmt_text (PyData.shownAll xs)
    simp only [PyData.shown, reprCost]
    omega
  | .dict _, h, _ => by simp [PyData.canLay0] at h
theorem shownAll_le : ∀ ds : List D, PyData.canLayAll0 ds = true → PyData.showableAll ds = true → piled (PyData.shownAll ds) ≤ reprCostL ds
  | [], _, _ => by simp [PyData.shownAll, piled, reprCostL]
  | d :: ds, h, h2 => by
    simp only [PyData.canLayAll0, Bool.and_eq_true] at h
    simp only [PyData.showableAll, Bool.and_eq_true] at h2
    have h3 := shown_le d h.1 h2.1
    have h4 := shownAll_le ds h.2 h2.2
    simp only [PyData.shownAll, reprCostL]
    rw [piled_cons]
    omega
end
mutual
theorem noDict : ∀ d : D, d.canLay0 = true → d.hasDict = false
  | .none, _ => rfl
  | .bool _, _ => rfl
  | .int _, _ => rfl
  | .str _, _ => rfl
  | .list xs, h => by simp only [PyData.canLay0] at h; simp only [PyData.hasDict]; exact noDictAll xs h
  | .tuple xs, h => by simp only [PyData.canLay0] at h; simp only [PyData.hasDict]; exact noDictAll xs h
  | .dict _, h => by simp [PyData.canLay0] at h
theorem noDictAll : ∀ ds : List D, PyData.canLayAll0 ds = true → PyData.hasDictAll ds = false
  | [], _ => rfl
  | d :: ds, h => by
    simp only [PyData.canLayAll0, Bool.and_eq_true] at h
    simp only [PyData.hasDictAll, noDict d h.1, noDictAll ds h.2, Bool.or_false]
end
end DK
end
section
set_option maxRecDepth 100000
set_option maxHeartbeats 4000000
namespace DK
open PySem L2 PySem.Spec PyProof.Rows
inductive CvA (K : PySem.W.Frag) (H : Hp) : List V → List D → Prop
  | nil : CvA K H [] []
  | cons {v : V} {vs : List V} {d : D} {ds : List D} : Cv K H v d → CvA K H vs ds → CvA K H (v :: vs) (d :: ds)
theorem CvA.one {K : PySem.W.Frag} {H : Hp} {vs : List V} {d : D} (h : CvA K H vs [d]) : ∃ v, vs = [v] ∧ Cv K H v d := by
  cases h with | cons a t => cases t; exact ⟨_, rfl, a⟩
theorem CvA.two {K : PySem.W.Frag} {H : Hp} {vs : List V} {d e : D} (h : CvA K H vs [d, e]) : ∃ v w, vs = [v, w] ∧ Cv K H v d ∧ Cv K H w e := by
  cases h with | cons a t => obtain ⟨w, rfl, b⟩ := CvA.one t; exact ⟨_, _, rfl, a, b⟩
theorem intL_map : ∀ {xs : List D} {ns : List Int}, intL xs = some ns → xs = ns.map PyData.int
  | [], _, h => by cases h; rfl
  | d :: r, ns, h => by
    cases d <;> simp only [intL] at h <;> try cases h
    rename_i i
    cases q : intL r with
    | none => rw [q] at h; cases h
    | some ms => rw [q] at h; cases h; rw [intL_map q]; rfl
theorem alikeAll_ints (ns : List Int) : PySem.W.AlikeAll (ns.map PyData.int) := by
  constructor
  · intro x hx y hy
    obtain ⟨i, _, rfl⟩ := List.mem_map.mp hx
    obtain ⟨j, _, rfl⟩ := List.mem_map.mp hy
    rfl
  · intro x hx
    obtain ⟨i, _, rfl⟩ := List.mem_map.mp hx
    exact fun q => by cases q
theorem depth_ints : ∀ ns : List Int, PyData.depthAll (ns.map PyData.int) = 0
  | [] => rfl
  | n :: ns => by rw [List.map_cons, PyData.depthAll, depth_ints ns]; rfl
section
variable {X : Cx} {pins : List (Addr × Obj)} {s : Shared} {σ : L2.St} {H : Hp} {Q : VK} {v : V} {vv : Value} {d : D}
theorem readsA (I : L2.Inv X pins σ H s) {xs : List V} {us : List Value} {ds : List D} (f : FzA X.K H xs ds) (r : Vals xs us) : ∃ as, ReadsAll s.heap us ds as := Dp.readsAll I ds xs us f.dp r
theorem Cv.seqL (I : L2.Inv X pins σ H s) {ds : List D} (h : Cv X.K H v (.list ds)) (r : RelV v vv) : ∃ (a : Addr) (us : Array Value) (as : List Addr), vv = .ref a ∧ s.heap.IsList a us ∧ ReadsAll s.heap us.toList ds as := by
  obtain ⟨a, xs, rfl, l, f⟩ := h.lsO I
  obtain ⟨z, us, n, rv, hl, e⟩ := l
  cases r
  obtain ⟨as, q⟩ := readsA I f rv
  exact ⟨a, us.toArray, as, rfl, ⟨_, e, rfl, n, rfl⟩, by simpa using q⟩
theorem Cv.seqT (I : L2.Inv X pins σ H s) {ds : List D} (h : Cv X.K H v (.tuple ds)) (r : RelV v vv) : ∃ (a : Addr) (us : Array Value) (as : List Addr), vv = .ref a ∧ s.heap.IsTuple a us ∧ ReadsAll s.heap us.toList ds as := by
  obtain ⟨a, xs, rfl, l, f⟩ := h.tup
  obtain ⟨us, rv, ht, _⟩ := I.tuple l.sqt
  cases r
  obtain ⟨as, q⟩ := readsA I f rv
  exact ⟨a, us.toArray, as, rfl, ht, by simpa using q⟩
theorem reads_int {h : Heap} {u : Value} {m : Int} {as : List Addr} (r : Reads h u (.int m) as) : ∃ t, u = .int m t := by
  cases r; exact ⟨_, rfl⟩
theorem minmax_ok (hc : X.calm = true) (hu : X.A.units + 65 < cLine) (I : L2.Inv X pins σ H s) {ds : List D} {m : Int} {r : List Int} (hd : intL ds = some (m :: r)) (rv : RelV v vv)
    (h : Cv X.K H v (.list ds) ∨ Cv X.K H v (.tuple ds)) :
    (Q (.int (r.foldl min m)) H → wpAny (model X.prog X.w) X.A (call (.builtin "min") [vv]) (EP X pins σ Q) X.xe s) ∧
    (Q (.int (r.foldl max m)) H → wpAny (model X.prog X.w) X.A (call (.builtin "max") [vv]) (EP X pins σ Q) X.xe s) := by
  have e := intL_map hd
  subst e
  have hh := I.ok.hd hc
  have ha := alikeAll_ints (m :: r)
  have hz := depth_ints (m :: r)
  have fin : ∀ {k : Int} {h' : Heap} {tk : Tok} {bs : List Addr} {u : Value}, Q (.int k) H → Reads h' u (.int k) bs → (∀ b o, s.heap.get? b = some o → h'.get? b = some o) → EP X pins σ Q u { s with heap := h', toks := tk } := fun q rd hk => by
    obtain ⟨t, rfl⟩ := reads_int rd
    exact ⟨.int _, H, I.kept hk, ⟨t, rfl⟩, q⟩
  rcases h with h | h
  · obtain ⟨a, us, as, rfl, hl, hr⟩ := h.seqL I rv
    refine ⟨fun q => PySem.W.min_list_data (x := .int m) (xs := r.map .int) hh hl hr ha (by rw [show (PyData.int m :: r.map PyData.int) = (m :: r).map PyData.int from rfl, hz]; omega) fun i u h' tk bs _ rd hk => ?_, fun q => PySem.W.max_list_data (x := .int m) (xs := r.map .int) hh hl hr ha (by rw [show (PyData.int m :: r.map PyData.int) = (m :: r).map PyData.int from rfl, hz]; omega) fun i u h' tk bs _ rd hk => ?_⟩
    · rw [PySem.W.minD_ints] at rd; exact fin q rd hk
    · rw [PySem.W.maxD_ints] at rd; exact fin q rd hk
  · obtain ⟨a, us, as, rfl, hl, hr⟩ := h.seqT I rv
    refine ⟨fun q => PySem.W.min_tuple_data (x := .int m) (xs := r.map .int) hh hl hr ha (by rw [show (PyData.int m :: r.map PyData.int) = (m :: r).map PyData.int from rfl, hz]; omega) fun i u h' tk bs _ rd hk => ?_, fun q => PySem.W.max_tuple_data (x := .int m) (xs := r.map .int) hh hl hr ha (by rw [show (PyData.int m :: r.map PyData.int) = (m :: r).map PyData.int from rfl, hz]; omega) fun i u h' tk bs _ rd hk => ?_⟩
    · rw [PySem.W.minD_ints] at rd; exact fin q rd hk
    · rw [PySem.W.maxD_ints] at rd; exact fin q rd hk
def bltV : Blt → Value
  | .len => .builtin "len" | .abs => .builtin "abs" | .min => .builtin "min" | .max => .builtin "max" | .sum => .builtin "sum" | .sorted => .builtin "sorted" | .all => .builtin "all" | .any => .builtin "any"
  | .tuple => .type "tuple" | .list => .type "list" | .int => .type "int" | .str => .type "str" | .repr => .builtin "repr" | .bool => .type "bool"
  | .isint => .builtin "isinstance" | .isstr => .builtin "isinstance" | .istup => .builtin "isinstance"
def notIs : Blt → Bool | .isint => false | .isstr => false | .istup => false | _ => true
theorem reads_ref {h : Heap} {a : Addr} {d : D} {as : List Addr} (r : Reads h (.ref a) d as) : True := trivial
theorem repr_ok (hg : X.A.guards = some []) (hu : X.A.units + 100 < cLine) (I : L2.Inv X pins σ H s) (h : Cv X.K H v d) (rv : RelV v vv) (h1 : SeqAt.shaped d = true) (h2 : d.showable = true) (h3 : reprCost d ≤ lim) (q : Q (.str d.shown) H) :
    wpAny (model X.prog X.w) X.A (call (.builtin "repr") [vv]) (EP X pins σ Q) X.xe s := by
  have hs : sizeLine = lim := sizeLine_eq
  have hlay := SeqAt.canLay_of_shaped h1
  have hd := SeqAt.depth_of_shaped h1
  have hl : d.shown.length ≤ sizeLine := by rw [hs]; exact Nat.le_trans (shown_le d hlay h2) h3
  have ref : ∀ {a : Addr} {as : List Addr}, vv = .ref a → Reads s.heap vv d as → wpAny (model X.prog X.w) X.A (call (.builtin "repr") [vv]) (EP X pins σ Q) X.xe s := fun {a as} e r => by
    subst e
    exact repr_of_reads' r h2 (PyData.noDict_hsm (noDict d hlay)) hg (by omega) (fun _ _ e => e) (fun h' u tk hk => ⟨.str d.shown, H, I.kept hk, ⟨u, rfl⟩, q⟩) hl
  obtain ⟨as, rd⟩ := Dp.reads I d v vv h.dp rv
  cases d with
  | none =>
    cases h.none; cases rv
    exact PySem.P.repr_of_none ⟨.str _, H, I.tok _, ⟨_, rfl⟩, q⟩
  | bool b =>
    cases h.bool; cases rv
    exact PySem.P.repr_of_bool ⟨.str _, H, I.tok _, ⟨_, rfl⟩, q⟩
  | int i =>
    cases h.int; obtain ⟨t, rfl⟩ := rv
    simp only [PyData.showable, decide_eq_true_eq] at h2
    exact PySem.P.repr_of_int h2 ⟨.str _, H, I.tok _, ⟨_, rfl⟩, q⟩
  | str x =>
    cases h.str; obtain ⟨t, rfl⟩ := rv
    exact PySem.P.repr_of_str ⟨.str _, H, I.tok _, ⟨_, rfl⟩, q⟩ hl
  | list xs => obtain ⟨a, _, rfl, _⟩ := h.lst; cases rv; exact ref rfl rd
  | tuple xs => obtain ⟨a, _, rfl, _⟩ := h.tup; cases rv; exact ref rfl rd
  | dict _ => simp [PyData.canLay0] at hlay
theorem ifS' {α : Type} {c : Prop} [Decidable c] {x : Option α} {z : α} (h : (if c then x else none) = some z) : c ∧ x = some z := by
  by_cases q : c
  · rw [if_pos q] at h; exact ⟨q, h⟩
  · rw [if_neg q] at h; cases h
theorem blt_ok (hc : X.calm = true) (hg : X.A.guards = some []) (hu : X.A.units + 100 < cLine) (b : Blt) (hb : notIs b = true) :
    CallR X (bltV b) (fun vs H Q => ∃ ds ev, CvA X.K H vs ds ∧ bltD b ds = some ev ∧ ResV X.K H Q ev) := by
  intro pins s σ H vs us Q I rv h
  obtain ⟨ds, ev, cv, e, q⟩ := h
  have hs : sizeLine = lim := sizeLine_eq
  have resB : ∀ {k : Bool}, ResV X.K H Q (.val (.bool k)) → Q (.bl k) H := fun h => h H _ .refl (.bl _)
  cases b with
  | len =>
    match ds, e with
    | [.str x], e =>
      obtain ⟨c, e'⟩ := ifS e
      cases e'
      obtain ⟨v, rfl, cx⟩ := cv.one
      cases cx.str
      exact call_len pins s σ H _ us Q I rv ⟨_, _, rfl, ⟨by rw [hs]; exact c, rfl⟩, resI q⟩
    | [.list xs], e =>
      cases e
      obtain ⟨v, rfl, cx⟩ := cv.one
      obtain ⟨a, ws, rfl, l, f⟩ := cx.lst
      exact call_len pins s σ H _ us Q I rv ⟨_, _, rfl, .inl ⟨ws, l, rfl⟩, by rw [f.length]; exact resI q⟩
    | [.tuple xs], e =>
      cases e
      obtain ⟨v, rfl, cx⟩ := cv.one
      obtain ⟨a, ws, rfl, l, f⟩ := cx.tup
      exact call_len pins s σ H _ us Q I rv ⟨_, _, rfl, .inr ⟨ws, l.sqt, rfl⟩, by rw [f.length]; exact resI q⟩
  | abs =>
    match ds, e with
    | [.int i], e =>
      cases e
      obtain ⟨v, rfl, cx⟩ := cv.one
      cases cx.int
      exact call_abs pins s σ H _ us Q I rv ⟨_, rfl, resI q⟩
  | min =>
    match ds, e with
    | [.int i, .int j], e =>
      cases e
      obtain ⟨v, w, rfl, cx, cy⟩ := cv.two
      cases cx.int; cases cy.int
      exact call_min2 hc pins s σ H _ us Q I rv ⟨_, _, rfl, resI q⟩
    | [.list xs], e =>
      obtain ⟨v, rfl, cx⟩ := cv.one
      obtain ⟨u, rfl, ru⟩ := rv.one
      unfold bltD at e
      dsimp only at e
      cases q2 : intL xs with
      | none => rw [q2] at e; cases e
      | some ns =>
        rw [q2] at e
        cases ns with
        | nil => cases e
        | cons m r => cases e; exact (minmax_ok hc (by omega) I q2 ru (.inl cx)).1 (resI q)
    | [.tuple xs], e =>
      obtain ⟨v, rfl, cx⟩ := cv.one
      obtain ⟨u, rfl, ru⟩ := rv.one
      unfold bltD at e
      dsimp only at e
      cases q2 : intL xs with
      | none => rw [q2] at e; cases e
      | some ns =>
        rw [q2] at e
        cases ns with
        | nil => cases e
        | cons m r => cases e; exact (minmax_ok hc (by omega) I q2 ru (.inr cx)).1 (resI q)
  | max =>
    match ds, e with
    | [.int i, .int j], e =>
      cases e
      obtain ⟨v, w, rfl, cx, cy⟩ := cv.two
      cases cx.int; cases cy.int
      exact call_max2 hc pins s σ H _ us Q I rv ⟨_, _, rfl, resI q⟩
    | [.list xs], e =>
      obtain ⟨v, rfl, cx⟩ := cv.one
      obtain ⟨u, rfl, ru⟩ := rv.one
      unfold bltD at e
      dsimp only at e
      cases q2 : intL xs with
      | none => rw [q2] at e; cases e
      | some ns =>
        rw [q2] at e
        cases ns with
        | nil => cases e
        | cons m r => cases e; exact (minmax_ok hc (by omega) I q2 ru (.inl cx)).2 (resI q)
    | [.tuple xs], e =>
      obtain ⟨v, rfl, cx⟩ := cv.one
      obtain ⟨u, rfl, ru⟩ := rv.one
      unfold bltD at e
      dsimp only at e
      cases q2 : intL xs with
      | none => rw [q2] at e; cases e
      | some ns =>
        rw [q2] at e
        cases ns with
        | nil => cases e
        | cons m r => cases e; exact (minmax_ok hc (by omega) I q2 ru (.inr cx)).2 (resI q)
  | sum =>
    match ds, e with
    | [.list xs], e =>
      obtain ⟨v, rfl, cx⟩ := cv.one
      unfold bltD at e
      dsimp only at e
      cases q2 : intL xs with
      | none => rw [q2] at e; cases e
      | some ns =>
        rw [q2] at e
        cases e
        obtain ⟨a, ws, rfl, l, f⟩ := cx.lst
        rw [f.ints q2] at l
        exact cr_sum hc pins s σ H _ us Q I rv ⟨a, ns, rfl, l, resI q⟩
  | sorted => match ds, e with | _, e => cases e
  | all =>
    match ds, e with
    | [.list xs], e =>
      obtain ⟨v, rfl, cx⟩ := cv.one
      unfold bltD at e
      dsimp only at e
      cases q2 : boolL xs with
      | none => rw [q2] at e; cases e
      | some ns =>
        rw [q2] at e
        cases e
        obtain ⟨a, ws, rfl, l, f⟩ := cx.lst
        rw [f.bools q2] at l
        exact cr_all hc pins s σ H _ us Q I rv ⟨a, ns, rfl, l, resB q⟩
  | any =>
    match ds, e with
    | [.list xs], e =>
      obtain ⟨v, rfl, cx⟩ := cv.one
      unfold bltD at e
      dsimp only at e
      cases q2 : boolL xs with
      | none => rw [q2] at e; cases e
      | some ns =>
        rw [q2] at e
        cases e
        obtain ⟨a, ws, rfl, l, f⟩ := cx.lst
        rw [f.bools q2] at l
        exact cr_any hc pins s σ H _ us Q I rv ⟨a, ns, rfl, l, resB q⟩
  | tuple =>
    match ds, e with
    | [.list xs], e =>
      cases e
      obtain ⟨v, rfl, cx⟩ := cv.one
      obtain ⟨a, ws, rfl, l, f⟩ := cx.lst
      exact call_tuple_of pins s σ H _ us Q I rv ⟨a, ws, rfl, .inl ⟨l, fun p hp => q _ _ (.upd hp) (.tup (.inl upd_same) (f.mono (Nw.upd hp).kp))⟩⟩
    | [.tuple xs], e =>
      cases e
      obtain ⟨v, rfl, cx⟩ := cv.one
      obtain ⟨a, ws, rfl, l, f⟩ := cx.tup
      exact call_tuple_of pins s σ H _ us Q I rv ⟨a, ws, rfl, .inr ⟨l.sqt, q _ _ .refl (.tup l f)⟩⟩
  | list =>
    match ds, e with
    | [.list xs], e =>
      cases e
      obtain ⟨v, rfl, cx⟩ := cv.one
      obtain ⟨a, ws, rfl, l, f⟩ := cx.lst
      exact call_list_of pins s σ H _ us Q I rv ⟨a, ws, rfl, .inl l, fun p hp => q p ws hp f⟩
    | [.tuple xs], e =>
      cases e
      obtain ⟨v, rfl, cx⟩ := cv.one
      obtain ⟨a, ws, rfl, l, f⟩ := cx.tup
      exact call_list_of pins s σ H _ us Q I rv ⟨a, ws, rfl, .inr l.sqt, fun p hp => q p ws hp f⟩
  | int =>
    match ds, e with
    | [.int i], e =>
      cases e
      obtain ⟨v, rfl, cx⟩ := cv.one
      cases cx.int
      exact call_int1 pins s σ H _ us Q I rv (.inl ⟨_, rfl, resI q⟩)
    | [.bool i], e =>
      cases e
      obtain ⟨v, rfl, cx⟩ := cv.one
      cases cx.bool
      exact call_int1 pins s σ H _ us Q I rv (.inr ⟨_, rfl, resI q⟩)
    | [.str a], e =>
      obtain ⟨v, rfl, cx⟩ := cv.one
      cases cx.str
      obtain ⟨c, e'⟩ := ifS' e
      obtain ⟨n, hn, e'⟩ := Option.map_eq_some_iff.mp e'
      cases e'
      exact call_int_str pins s σ H _ us Q I rv ⟨a, n, rfl, hn, c, resI q⟩
  | str =>
    match ds, e with
    | [.int i], e =>
      obtain ⟨v, rfl, cx⟩ := cv.one
      cases cx.int
      obtain ⟨c, e'⟩ := ifS e
      cases e'
      exact call_str_int pins s σ H _ us Q I rv ⟨i, rfl, c, q H _ .refl (.str _)⟩
  | bool =>
    match ds, e with
    | [.int i], e =>
      cases e
      obtain ⟨v, rfl, cx⟩ := cv.one
      cases cx.int
      exact call_bool1 pins s σ H _ us Q I rv (.inl ⟨_, rfl, resB q⟩)
    | [.bool i], e =>
      cases e
      obtain ⟨v, rfl, cx⟩ := cv.one
      cases cx.bool
      exact call_bool1 pins s σ H _ us Q I rv (.inr ⟨_, rfl, resB q⟩)
  | repr =>
    match ds, e with
    | [d], e =>
      obtain ⟨v, rfl, cx⟩ := cv.one
      obtain ⟨u, rfl, ru⟩ := rv.one
      obtain ⟨c, e'⟩ := ifS e
      cases e'
      simp only [Bool.and_eq_true, decide_eq_true_eq] at c
      exact repr_ok hg hu I cx ru c.1.1 c.1.2 c.2 (q H _ .refl (.str _))
  | isint => cases hb
  | isstr => cases hb
  | istup => cases hb
/-! ### subscripts -/
theorem ixOf_N {n : Nat} {i : Int} {k : Nat} (h : ixOf i n = some k) : ixN n i = some k := by
  unfold ixOf at h
  unfold ixN
  by_cases c : 0 ≤ i
  · rw [if_pos c] at h ⊢; exact h
  · rw [if_neg c] at h ⊢
    by_cases c2 : 0 ≤ i + n
    · rw [if_pos c2] at h; rw [if_pos (by omega)]; exact h
    · rw [if_neg c2] at h; cases h
def rSub (K : PySem.W.Frag) : R2 := fun v w H Q => ∃ x y d, Cv K H v x ∧ Cv K H w y ∧ subD x y = some d ∧ ∀ u, Fz K H u d → Q u H
theorem sub_ok : IxR X (rSub X.K) := by
  intro a b pins s σ H v w vv ww Q I rv rw' h hs
  obtain ⟨x, y, d, cx, cy, e, q⟩ := h
  cases y with
  | int i =>
    cases cy.int
    cases x <;> try cases e
    · rename_i z
      obtain ⟨c, e⟩ := ifS' e
      obtain ⟨n, hn, e'⟩ := Option.map_eq_some_iff.mp e
      cases e'
      cases cx.str
      obtain ⟨k, hk, hd⟩ := Option.bind_eq_some_iff.mp hn
      refine ix_str a b pins s σ H _ _ vv ww Q I rv rw' ⟨z, i, n, rfl, rfl, by rw [sizeLine_eq]; exact c, ?_, q _ (.str _)⟩ hs
      unfold atI
      rw [ixOf_N hk]; exact hd
    · rename_i xs
      unfold subD at e
      dsimp only at e
      split at e
      · obtain ⟨k, hk, hd⟩ := Option.bind_eq_some_iff.mp e
        obtain ⟨a', ws, rfl, l, f⟩ := cx.lst
        obtain ⟨u, hu, fu⟩ := f.get hd
        refine ix_list a b pins s σ H _ _ vv ww Q I rv rw' ⟨a', ws, i, u, rfl, rfl, l, ?_, q u fu⟩ hs
        unfold atI
        rw [f.length, ixOf_N hk]; exact hu
      · cases e
    · rename_i xs
      unfold subD at e
      dsimp only at e
      split at e
      · obtain ⟨k, hk, hd⟩ := Option.bind_eq_some_iff.mp e
        obtain ⟨a', ws, rfl, l, f⟩ := cx.tup
        obtain ⟨u, hu, fu⟩ := f.get hd
        refine ix_tup a b pins s σ H _ _ vv ww Q I rv rw' ⟨a', ws, i, u, rfl, rfl, l.sqt, ?_, q u fu⟩ hs
        unfold atI
        rw [f.length, ixOf_N hk]; exact hu
      · cases e
  | _ => cases x <;> cases e
end
end DK
end
section
set_option maxRecDepth 100000
set_option maxHeartbeats 4000000
namespace DK
open PySem L2 PySem.Spec PyProof.Rows
/-! ### syntax facts -/
def isStar : Expr → Bool | .Starred _ _ => true | _ => false
theorem star_no {e : Expr} {es : List Expr} {env : Env} (h : isStar e = false) : starEach (e :: es) env = (false, eval e env) :: starEach es env := by
  cases e <;> first | rfl | cases h
theorem star_yes {e : Expr} {es : List Expr} {p : Pos} {env : Env} : starEach (.Starred e p :: es) env = (true, eval e env) :: starEach es env := rfl
theorem noStars : ∀ {es : List Expr} {env : Env} {pos : Pos}, es.all (fun e => !isStar e) = true → (backTo pos (starEach es env)).any (·.1) = false
  | [], _, _, _ => rfl
  | e :: es, env, pos, h => by
    rw [List.all_cons, Bool.and_eq_true] at h
    rw [star_no (by simpa using h.1)]
    show (false || (backTo pos (starEach es env)).any (·.1)) = false
    rw [noStars h.2]; rfl
def plainT : Expr → Bool | .BoolOp .. => false | .UnaryOp .Not _ _ => false | .Compare .. => false | .IfExp .. => false | _ => true
theorem plainT_ok {e : Expr} {env : Env} (h : plainT e = true) : ∀ whole, isTrue e env whole = (do let v ← whole; standAt e.pos; holding [v] (truthy v)) := by
  intro w
  cases e with
  | UnaryOp op a p => cases op <;> first | rfl | cases h
  | BoolOp => cases h
  | Compare => cases h
  | IfExp => cases h
  | _ => rfl
section
variable {α β γ : Type}
theorem bnd_assoc (m : Ev α) (f : α → Ev β) (k : β → Ev γ) : bnd (bnd m f) k = bnd m fun x => bnd (f x) k := by
  funext g
  show (match (match m g with | .ok a g' => f a g' | .exc c g' => .exc c g' | .bad => .bad) with | .ok a g' => k a g' | .exc c g' => .exc c g' | .bad => .bad) = (match m g with | .ok a g' => _ | .exc c g' => _ | .bad => _)
  cases m g <;> rfl
theorem binD_nb {o : Bop} {x y : D} {ev : EV} (h : binD o x y = some ev) : ∀ i, ev ≠ .bor i := by
  intro i z
  subst z
  cases x <;> cases y <;> cases o <;> simp only [binD] at h <;> first | cases h | (split at h <;> cases h)
theorem bltD_nb {b : Blt} {ds : List D} {ev : EV} (h : bltD b ds = some ev) : ∀ i, ev ≠ .bor i := by
  intro i z
  subst z
  unfold bltD at h
  split at h <;> first | cases h | (split at h <;> cases h) | (simp only [Option.map_eq_some_iff] at h; obtain ⟨_, _, h⟩ := h; cases h) | (split at h <;> first | cases h | (obtain ⟨_, _, h⟩ := Option.map_eq_some_iff.mp h; cases h))
end
section
variable {X : Cx} {W : Nat → L2.St → Hp → Prop} {a b c e : Expr} {ma mb mc : Ev EV} {pos : Pos} {es rest : List Expr}
/-! ### simple expressions -/
theorem se_var {i : Nat} {x : Str} (hN : X.N[i]? = some x) (hv : Vis X.env.scope x) (hd : (x == ("__debug__" : Str)) = false) (hcd : (x == ("__classdict__" : Str)) = false) (C : Nat → List Slot → CRes) (G : List D) :
    PE X (.Name x pos) (tM X.K W (evalE C G (.var i))) := by
  refine (pe_var (i := i) hN hv hd hcd).imp fun σ H Q h => ?_
  obtain ⟨g, r, h⟩ := h
  simp only [evalE] at h
  cases e : g[i]? with
  | none => rw [e] at h; exact h.elim
  | some sl =>
    rw [e] at h
    cases sl with
    | no => exact h.elim
    | val d =>
      obtain ⟨v, h1, h2⟩ := r.val i d e
      exact ⟨v, h1, h H r .refl v h2 trivial⟩
    | own k xs =>
      obtain ⟨p, vs, h1, h2, h3⟩ := r.own i k xs e
      exact ⟨.ref p, h1, h H r .refl _ h1 trivial⟩
theorem se_val {m : Ev EV} {v : V} {d : D} (hm : m = pur (.val d)) (hf : ∀ H, Fz X.K H v d) (he : PE X e (tC v)) : PE X e (tM X.K W m) := by
  subst hm
  refine he.imp fun σ H Q h => ?_
  obtain ⟨g, r, h⟩ := h
  exact h H r .refl v (hf H) trivial
theorem se_glob {x : Str} {u : Value} {v : V} {d : D} {j : Nat} (hg : Gl X x) (hm : X.mg x = some u) (r : RelV v u) (hf : ∀ H, Fz X.K H v d) (hd : (x == ("__debug__" : Str)) = false) (C : Nat → List Slot → CRes) (G : List D) (hj : G[j]? = some d) :
    PE X (.Name x pos) (tM X.K W (evalE C G (.glob j))) :=
  se_val (by simp only [evalE, hj]; rfl) hf (pe_glob hg hm r hd)
theorem se_bin (o : Bop) (ha : PE X a (tM X.K W ma)) (hb : PE X b (tM X.K W mb)) :
    PE X (.BinOp a (bopOf o) b pos) (tM X.K W (bnd ma fun x => bnd mb fun y => bnd (content x) fun x => bnd (content y) fun y => opt (binD o x y))) := by
  refine (pe_op (bin_ok o) ha hb).imp fun σ H Q h => tM_bin h fun g2 H2 x y v w r hx hy h => ?_
  obtain ⟨d1, _, c1, h⟩ := hx.content r h
  obtain ⟨d2, _, c2, h⟩ := hy.content r h
  cases q : binD o d1 d2 with
  | none => rw [q] at h; exact h.elim
  | some ev => rw [q] at h; exact ⟨d1, d2, ev, c1, c2, q, fin_res r h ⟨rfl, binD_nb q⟩⟩
theorem se_cmp (hu : X.A.units + 65 < cLine) (o : Cop) (ha : PE X a (tM X.K W ma)) (hb : PE X b (tM X.K W mb)) (hm : behindInMarks (copOf o) b = false) :
    PE X (.Compare a [copOf o] [b] pos) (tM X.K W (bnd ma fun x => bnd mb fun y => bnd (content x) fun x => bnd (content y) fun y => bnd (opt (cmpD o x y)) fun b => pur (.val (.bool b)))) := by
  refine (pe_cmpR (cmp_ok hu o) ha hb hm).imp fun σ H Q h => tM_bin h fun g2 H2 x y v w r hx hy h => ?_
  obtain ⟨d1, _, c1, h⟩ := hx.content r h
  obtain ⟨d2, _, c2, h⟩ := hy.content r h
  obtain ⟨k, q, h⟩ := h.opt'
  exact ⟨d1, d2, k, c1, c2, q, h H2 r .refl (.bl k) (.bl k) trivial⟩
theorem tM_one {r : V → Hp → VK → Prop} {f : EV → Ev EV} {σ : L2.St} {H : Hp} {Q : VK} (h : tM X.K W (bnd ma f) σ H Q)
    (hr : ∀ (g2 : Gam) (H2 : Hp) (x : EV) (v : V), Rel X.K H2 σ g2 → RV X.K H2 σ g2 v x → Fr H v x → Run X.K W σ g2 H2 (f x g2) (fun ev g' H' => ∀ u, RV X.K H' σ g' u ev → (Fr H2 u ev ∨ Fr H u ev) → Q u H') → r v H2 Q) :
    tM X.K W ma σ H fun v H1 => r v H1 Q := by
  obtain ⟨g, r0, h⟩ := h
  refine ⟨g, r0, h.bnd.mono fun x g1 H1 r1 s1 h1 v hv hf => ?_⟩
  refine hr g1 H1 x v r1 hv hf (h1.mono fun ev g' H' r' s' q u hu hf => q u hu ?_)
  rcases hf with hf | hf
  · cases ev with
    | own xs => exact fun a ea => Classical.byContradiction fun z => s1.dom a z (hf a ea)
    | val _ => trivial
    | bor _ => trivial
  · exact hf
theorem se_neg (ha : PE X a (tM X.K W ma)) : PE X (.UnaryOp .USub a pos) (tM X.K W (bnd ma fun x => bnd (content x) fun x => match x with | .int i => pur (.val (.int (-i))) | _ => bad)) := by
  refine (pe_un un_neg ha).imp fun σ H Q h => tM_one (r := rU fun i => .int (-i)) h fun g2 H2 x v r hx _ h => ?_
  obtain ⟨d1, _, c1, h⟩ := hx.content r h
  cases d1 with
  | int i => cases c1.int; exact ⟨i, rfl, h H2 r .refl _ (.int _) (.inl trivial)⟩
  | _ => exact h.elim
theorem se_not (ha : PE X a (tM X.K W ma)) : PE X (.UnaryOp .Not a pos) (tM X.K W (bnd ma fun x => bnd (content x) fun x => bnd (opt (truth x)) fun b => pur (.val (.bool (!b))))) := by
  refine (pe_notT ha).imp fun σ H Q h => tM_one (r := fun x H1 Q => ∃ k, TruV X.K x H1 k ∧ Q (.bl (!k)) H1) h fun g2 H2 x v r hx _ h => ?_
  obtain ⟨d1, _, c1, h⟩ := hx.content r h
  obtain ⟨k, q, h⟩ := h.opt'
  exact ⟨k, c1.tru q, h H2 r .refl _ (.bl _) (.inl trivial)⟩
theorem se_sub (ha : PE X a (tM X.K W ma)) (hb : PE X b (tM X.K W mb)) (hs : PlainIx b) :
    PE X (.Subscript a b pos) (tM X.K W (bnd ma fun x => bnd mb fun y => bnd (content x) fun x => bnd (content y) fun y => bnd (opt (subD x y)) fun d => pur (.val d))) := by
  refine (pe_ix sub_ok ha hb hs).imp fun σ H Q h => tM_bin h fun g2 H2 x y v w r hx hy h => ?_
  obtain ⟨d1, _, c1, h⟩ := hx.content r h
  obtain ⟨d2, _, c2, h⟩ := hy.content r h
  obtain ⟨k, q, h⟩ := h.opt'
  exact ⟨d1, d2, k, c1, c2, q, fun u f => h H2 r .refl u f trivial⟩
theorem se_and (ha : PE X a (tM X.K W ma)) (hb : PE X (.BoolOp .And (b :: rest) pos) (tM X.K W mb)) :
    PE X (.BoolOp .And (a :: b :: rest) pos) (tM X.K W (bnd ma fun x => bnd (content x) fun d => bnd (opt (truth d)) fun k => if k then mb else pur x)) := by
  refine (pe_andT ha hb).imp fun σ H Q h => tM_one (r := fun x H1 Q => ∃ k, TruV X.K x H1 k ∧ if k = true then tM X.K W mb σ H1 Q else Q x H1) h fun g2 H2 x v r hx hf h => ?_
  obtain ⟨d1, _, c1, h⟩ := hx.content r h
  obtain ⟨k, q, h⟩ := h.opt'
  refine ⟨k, c1.tru q, ?_⟩
  cases k with
  | true => exact ⟨g2, r, h.mono fun ev g' H' _ _ q u hu hf => q u hu (.inl hf)⟩
  | false => exact h H2 r .refl v hx (.inr hf)
theorem se_or (ha : PE X a (tM X.K W ma)) (hb : PE X (.BoolOp .Or (b :: rest) pos) (tM X.K W mb)) :
    PE X (.BoolOp .Or (a :: b :: rest) pos) (tM X.K W (bnd ma fun x => bnd (content x) fun d => bnd (opt (truth d)) fun k => if k then pur x else mb)) := by
  refine (pe_orT ha hb).imp fun σ H Q h => tM_one (r := fun x H1 Q => ∃ k, TruV X.K x H1 k ∧ if k = true then Q x H1 else tM X.K W mb σ H1 Q) h fun g2 H2 x v r hx hf h => ?_
  obtain ⟨d1, _, c1, h⟩ := hx.content r h
  obtain ⟨k, q, h⟩ := h.opt'
  refine ⟨k, c1.tru q, ?_⟩
  cases k with
  | false => exact ⟨g2, r, h.mono fun ev g' H' _ _ q u hu hf => q u hu (.inl hf)⟩
  | true => exact h H2 r .refl v hx (.inr hf)
end
end DK
end
section
set_option maxRecDepth 100000
set_option maxHeartbeats 4000000
namespace DK
open PySem L2 PySem.Spec PyProof.Rows
def tst (m : Ev EV) : Ev Bool := bnd m fun v => bnd (content v) fun d => opt (truth d)
theorem truth_bool (b : Bool) : truth (.bool b) = some b := rfl
theorem content_same {x : EV} {g g' : Gam} {d : D} (h : content x g = .ok d g') : g' = g ∧ content x g = .ok d g := by
  cases x with
  | val e => cases h; exact ⟨rfl, rfl⟩
  | own xs => cases h; exact ⟨rfl, rfl⟩
  | bor i =>
    have h0 := h
    simp only [content] at h0
    cases e : g[i]? with
    | none => rw [e] at h0; cases h0
    | some sl =>
      rw [e] at h0
      cases sl with
      | no => cases h0
      | val _ => cases h0
      | own k xs => cases h0; exact ⟨rfl, h⟩
theorem content_exc {x : EV} {g g' : Gam} {c : Nat} (h : content x g = .exc c g') : False := by
  cases x with
  | val e => cases h
  | own xs => cases h
  | bor i =>
    simp only [content] at h
    cases e : g[i]? with
    | none => rw [e] at h; cases h
    | some sl =>
      rw [e] at h
      cases sl <;> cases h
section
variable {X : Cx} {W : Nat → L2.St → Hp → Prop} {a b c e : Expr} {ma mb mc : Ev EV} {pos : Pos} {es rest : List Expr}
theorem run_bin {α : Type} {f : EV → EV → Ev α} {P : α → Gam → Hp → Prop} {R : V → V → Hp → Prop} {σ : L2.St} {H : Hp} {g : Gam} (r0 : Rel X.K H σ g) (h : Run X.K W σ g H (bnd ma (fun x => bnd mb fun y => f x y) g) P)
    (hr : ∀ (g2 : Gam) (H2 : Hp) (x y : EV) (v w : V), Rel X.K H2 σ g2 → RV X.K H2 σ g2 v x → RV X.K H2 σ g2 w y → StE σ g H g2 H2 → Run X.K W σ g2 H2 (f x y g2) P → R v w H2) :
    tM X.K W ma σ H fun v H1 => tM X.K W mb σ H1 fun w H2 => R v w H2 := by
  refine ⟨g, r0, h.bnd.mono fun x g1 H1 r1 s1 h1 v hv _ => ?_⟩
  exact ⟨g1, r1, h1.bnd.mono fun y g2 H2 r2 s2 h2 w hw _ => hr g2 H2 x y v w r2 (hv.step s2) hw (s1.trans s2) h2⟩
theorem run_one {α : Type} {f : EV → Ev α} {P : α → Gam → Hp → Prop} {R : V → Hp → Prop} {σ : L2.St} {H : Hp} {g : Gam} (r0 : Rel X.K H σ g) (h : Run X.K W σ g H (bnd ma f g) P)
    (hr : ∀ (g2 : Gam) (H2 : Hp) (x : EV) (v : V), Rel X.K H2 σ g2 → RV X.K H2 σ g2 v x → StE σ g H g2 H2 → Run X.K W σ g2 H2 (f x g2) P → R v H2) : tM X.K W ma σ H fun v H1 => R v H1 :=
  ⟨g, r0, h.bnd.mono fun x g1 H1 r1 s1 h1 v hv _ => hr g1 H1 x v r1 hv s1 h1⟩
theorem st_plain (hp : plainT a = true) (ha : PE X a (tM X.K W ma)) : PT X a (tT X.K W (tst ma)) := by
  refine (pt_truth ha (plainT_ok hp)).imp fun σ H Q h => ?_
  obtain ⟨g, r, h⟩ := h
  refine run_one r h fun g2 H2 x v r hx _ h => ?_
  obtain ⟨d1, _, c1, h⟩ := hx.content r h
  obtain ⟨k, q, h⟩ := Run.opt h r
  exact ⟨k, c1.tru q, h⟩
def mCmp (o : Cop) (ma mb : Ev EV) : Ev EV := bnd ma fun x => bnd mb fun y => bnd (content x) fun x => bnd (content y) fun y => bnd (opt (cmpD o x y)) fun b => pur (.val (.bool b))
theorem tst_bnd {α : Type} (m : Ev α) (f : α → Ev EV) : tst (bnd m f) = bnd m fun x => tst (f x) := bnd_assoc m f _
theorem tst_val (b : Bool) : tst (pur (.val (.bool b))) = pur b := rfl
theorem st_cmp (hu : X.A.units + 65 < cLine) (o : Cop) (ha : PE X a (tM X.K W ma)) (hb : PE X b (tM X.K W mb)) (hm : behindInMarks (copOf o) b = false) :
    PT X (.Compare a [copOf o] [b] pos) (tT X.K W (tst (mCmp o ma mb))) := by
  refine (pt_cmpR (cmp_ok hu o) ha hb hm).imp fun σ H Q h => ?_
  obtain ⟨g, r, h⟩ := h
  unfold mCmp at h
  simp only [tst_bnd, tst_val] at h
  refine run_bin r h fun g2 H2 x y v w r hx hy _ h => ?_
  obtain ⟨d1, _, c1, h⟩ := hx.content r h
  obtain ⟨d2, _, c2, h⟩ := hy.content r h
  obtain ⟨k, q, h⟩ := h.opt'
  exact ⟨d1, d2, k, c1, c2, q, k, rfl, h H2 r .refl⟩
def mCmp2 (o p : Cop) (ma mb mc : Ev EV) : Ev EV := bnd ma fun x => bnd mb fun y => bnd (content x) fun x => bnd (content y) fun y' => bnd (opt (cmpD o x y')) fun k =>
  if k then bnd mc fun z => bnd (content y) fun y => bnd (content z) fun z => bnd (opt (cmpD p y z)) fun b => pur (.val (.bool b)) else pur (.val (.bool false))
theorem se_cmp2 (hu : X.A.units + 65 < cLine) (o p : Cop) (ha : PE X a (tM X.K W ma)) (hb : PE X b (tM X.K W mb)) (hc : PE X c (tM X.K W mc)) (hm : lastMarks [copOf o, copOf p] [b, c] = false) :
    PE X (.Compare a [copOf o, copOf p] [b, c] pos) (tM X.K W (mCmp2 o p ma mb mc)) := by
  refine (pe_chain (cmp_ok hu o) (cmp_ok hu p) ha hb hc hm).imp fun σ H Q h => ?_
  obtain ⟨g, r, h⟩ := h
  refine run_bin r h fun g2 H2 x y v w r hx hy s2 h => ?_
  obtain ⟨d1, _, c1, h⟩ := hx.content r h
  obtain ⟨d2, _, c2, h⟩ := hy.content r h
  obtain ⟨k, q, h⟩ := h.opt'
  refine ⟨d1, d2, k, c1, c2, q, k, rfl, ?_⟩
  cases k with
  | false => exact h H2 r .refl (.bl false) (.bl false) trivial
  | true =>
    refine run_one r h fun g3 H3 z u r3 hz s3 h3 => ?_
    obtain ⟨d3, _, c3, h3⟩ := (hy.step s3).content r3 h3
    obtain ⟨d4, _, c4, h3⟩ := hz.content r3 h3
    obtain ⟨k, q, h3⟩ := h3.opt'
    exact ⟨d3, d4, k, c3, c4, q, h3 H3 r3 .refl (.bl k) (.bl k) trivial⟩
theorem st_cmp2 (hu : X.A.units + 65 < cLine) (o p : Cop) (ha : PE X a (tM X.K W ma)) (hb : PE X b (tM X.K W mb)) (hc : PE X c (tM X.K W mc)) (hm : lastMarks [copOf o, copOf p] [b, c] = false) :
    PT X (.Compare a [copOf o, copOf p] [b, c] pos) (tT X.K W (tst (mCmp2 o p ma mb mc))) := by
  refine (pt_chain (cmp_ok hu o) (cmp_ok hu p) ha hb hc hm).imp fun σ H Q h => ?_
  obtain ⟨g, r, h⟩ := h
  unfold mCmp2 at h
  simp only [tst_bnd] at h
  refine run_bin r h fun g2 H2 x y v w r hx hy s2 h => ?_
  obtain ⟨d1, _, c1, h⟩ := hx.content r h
  obtain ⟨d2, _, c2, h⟩ := hy.content r h
  obtain ⟨k, q, h⟩ := h.opt'
  refine ⟨d1, d2, k, c1, c2, q, k, rfl, ?_⟩
  cases k with
  | false => exact ⟨false, rfl, h H2 r .refl⟩
  | true =>
    simp only [if_true, tst_bnd, tst_val] at h
    refine run_one r h fun g3 H3 z u r3 hz s3 h3 => ?_
    obtain ⟨d3, _, c3, h3⟩ := (hy.step s3).content r3 h3
    obtain ⟨d4, _, c4, h3⟩ := hz.content r3 h3
    obtain ⟨k, q, h3⟩ := h3.opt'
    exact ⟨d3, d4, k, c3, c4, q, k, rfl, h3 H3 r3 .refl⟩
/-! ### tests of not, and, or, if -/
def mNot (ma : Ev EV) : Ev EV := bnd ma fun x => bnd (content x) fun x => bnd (opt (truth x)) fun b => pur (.val (.bool (!b)))
theorem tst_not : tst (mNot ma) = bnd (tst ma) fun b => pur (!b) := by
  unfold mNot
  simp only [tst_bnd, tst_val]
  unfold tst
  simp only [bnd_assoc]
theorem st_not (ha : PT X a (tT X.K W (tst ma))) : PT X (.UnaryOp .Not a pos) (tT X.K W (tst (mNot ma))) := by
  refine (pt_not ha).imp fun σ H Q h => ?_
  obtain ⟨g, r, h⟩ := h
  rw [tst_not] at h
  exact ⟨g, r, h.bnd.mono fun b g1 H1 r1 _ h => h H1 r1 .refl⟩
def mAnd (ma mb : Ev EV) : Ev EV := bnd ma fun x => bnd (content x) fun d => bnd (opt (truth d)) fun k => if k then mb else pur x
def mOr (ma mb : Ev EV) : Ev EV := bnd ma fun x => bnd (content x) fun d => bnd (opt (truth d)) fun k => if k then pur x else mb
theorem tst_and : tst (mAnd ma mb) = bnd (tst ma) fun k => if k then tst mb else pur false := by
  funext g
  unfold mAnd tst bnd
  dsimp only
  cases e1 : ma g with
  | bad => rfl
  | exc c g' => rfl
  | ok x g1 =>
    dsimp only
    cases e2 : content x g1 with
    | bad => rfl
    | exc c g' => rfl
    | ok d g2 =>
      obtain ⟨rfl, e3⟩ := content_same e2
      dsimp only
      cases e4 : truth d with
      | none => rfl
      | some k =>
        cases k with
        | true => rfl
        | false =>
          simp only [opt, pur, if_true, if_false, Bool.false_eq_true, e2, e4]
theorem tst_or : tst (mOr ma mb) = bnd (tst ma) fun k => if k then pur true else tst mb := by
  funext g
  unfold mOr tst bnd
  dsimp only
  cases e1 : ma g with
  | bad => rfl
  | exc c g' => rfl
  | ok x g1 =>
    dsimp only
    cases e2 : content x g1 with
    | bad => rfl
    | exc c g' => rfl
    | ok d g2 =>
      obtain ⟨rfl, e3⟩ := content_same e2
      dsimp only
      cases e4 : truth d with
      | none => rfl
      | some k =>
        cases k with
        | false => rfl
        | true =>
          simp only [opt, pur, if_true, if_false, Bool.false_eq_true, e2, e4]
theorem sw_and (ha : PT X a (tT X.K W (tst ma))) (hb : PW X (.BoolOp .And (b :: rest) pos) (tT X.K W (tst mb))) : PW X (.BoolOp .And (a :: b :: rest) pos) (tT X.K W (tst (mAnd ma mb))) := by
  refine ⟨fun wh pins s σ H Q I h => (pw_and ha hb).run wh pins s σ H Q I ?_⟩
  obtain ⟨g, r, h⟩ := h
  rw [tst_and] at h
  refine ⟨g, r, h.bnd.mono fun k g1 H1 r1 _ h => ?_⟩
  cases k with
  | true => exact ⟨g1, r1, h⟩
  | false => exact h H1 r1 .refl
theorem sw_or (ha : PT X a (tT X.K W (tst ma))) (hb : PW X (.BoolOp .Or (b :: rest) pos) (tT X.K W (tst mb))) : PW X (.BoolOp .Or (a :: b :: rest) pos) (tT X.K W (tst (mOr ma mb))) := by
  refine ⟨fun wh pins s σ H Q I h => (pw_or ha hb).run wh pins s σ H Q I ?_⟩
  obtain ⟨g, r, h⟩ := h
  rw [tst_or] at h
  refine ⟨g, r, h.bnd.mono fun k g1 H1 r1 _ h => ?_⟩
  cases k with
  | false => exact ⟨g1, r1, h⟩
  | true => exact h H1 r1 .refl
def mIf (mc ma mb : Ev EV) : Ev EV := bnd mc fun x => bnd (content x) fun d => bnd (opt (truth d)) fun k => if k then ma else mb
theorem mIf_eq : mIf mc ma mb = bnd (tst mc) fun k => if k then ma else mb := by
  unfold mIf tst
  simp only [bnd_assoc]
theorem se_ife (hc : PT X c (tT X.K W (tst mc))) (ha : PE X a (tM X.K W ma)) (hb : PE X b (tM X.K W mb)) : PE X (.IfExp c a b pos) (tM X.K W (mIf mc ma mb)) := by
  refine (pe_ifExp hc ha hb).imp fun σ H Q h => ?_
  obtain ⟨g, r, h⟩ := h
  rw [mIf_eq] at h
  refine ⟨g, r, h.bnd.mono fun k g1 H1 r1 s1 h => ?_⟩
  have fr : ∀ {v : V} {ev : EV}, Fr H1 v ev → Fr H v ev := fun {v ev} f => by
    cases ev with
    | own xs => exact fun a ea => Classical.byContradiction fun z => s1.dom a z (f a ea)
    | val _ => trivial
    | bor _ => trivial
  cases k with
  | true => exact ⟨g1, r1, h.mono fun ev g' H' _ _ q u hu hf => q u hu (fr hf)⟩
  | false => exact ⟨g1, r1, h.mono fun ev g' H' _ _ q u hu hf => q u hu (fr hf)⟩
theorem pt_ifExp {tc ta tb : TT} (hc : PT X c tc) (ha : PT X a ta) (hb : PT X b tb) : PT X (.IfExp c a b pos) (fun σ H Q => tc σ H fun k H1 => if k = true then ta σ H1 Q else tb σ H1 Q) := by
  refine ⟨fun pins s σ H Q I h => ?_⟩
  show wpAny _ _ (do if ← isTrue c X.env (eval c X.env) then isTrue a X.env (eval a X.env) else isTrue b X.env (eval b X.env)) _ _ _
  refine wpAny_bind (thn (hc.run pins s σ H _ I h) fun k s1 ⟨H1, I1, q⟩ => ?_)
  cases k with
  | true => exact ha.run pins s1 σ H1 Q I1 q
  | false => exact hb.run pins s1 σ H1 Q I1 q
theorem st_ife (hc : PT X c (tT X.K W (tst mc))) (ha : PT X a (tT X.K W (tst ma))) (hb : PT X b (tT X.K W (tst mb))) : PT X (.IfExp c a b pos) (tT X.K W (tst (mIf mc ma mb))) := by
  refine (pt_ifExp hc ha hb).imp fun σ H Q h => ?_
  obtain ⟨g, r, h⟩ := h
  rw [mIf_eq, tst_bnd] at h
  refine ⟨g, r, h.bnd.mono fun k g1 H1 r1 _ h => ?_⟩
  cases k with
  | true => exact ⟨g1, r1, h⟩
  | false => exact ⟨g1, r1, h⟩
/-! ### argument lists -/
def tAF (K : PySem.W.Frag) (W : Nat → L2.St → Hp → Prop) (m : Ev (List D)) : TA := fun σ H Q => ∃ g, Rel K H σ g ∧ Run K W σ g H (m g) fun ds g' H' => ∀ vs, FzA K H' vs ds → Q vs H'
theorem _root_.L2.PA.imp {t t' : TA} (h : PA X es t) (f : ∀ σ H Q, t' σ H Q → t σ H Q) : PA X es t' := ⟨fun pos pins s σ H Q I q => h.run pos pins s σ H Q I (f σ H Q q)⟩
theorem sa_nil : PA X [] (tAF X.K W (pur [])) := pa_nil.imp fun σ H Q h => by
  obtain ⟨g, r, h⟩ := h
  exact h H r .refl [] .nil
theorem sa_cons {mr : Ev (List D)} (ha : PE X e (tM X.K W ma)) (hr : PA X es (tAF X.K W mr)) (hs : isStar e = false) :
    PA X (e :: es) (tAF X.K W (bnd ma fun v => bnd (freeze v) fun d => bnd mr fun ds => pur (d :: ds))) := by
  refine (pa_cons (pe_frz ha) hr (star_no hs)).imp fun σ H Q h => ?_
  obtain ⟨g, r, h⟩ := h
  rw [← bnd_assoc ma freeze] at h
  refine ⟨g, r, h.bnd.mono fun d g1 H1 r1 s1 h v hv => ?_⟩
  exact ⟨g1, r1, h.bnd.mono fun ds g2 H2 r2 s2 h vs hvs => h H2 r2 .refl (v :: vs) (.cons (hv.mono s2.kp) hvs)⟩
theorem Cv.items {K : PySem.W.Frag} {H : Hp} {v : V} {d : D} {xs : List D} (h : Cv K H v d) (e : items d = some xs) : ∃ a vs, v = .ref a ∧ (SqT K H a vs ∨ SqL K H a vs) ∧ FzA K H vs xs := by
  cases d <;> cases e
  · obtain ⟨a, vs, e, l, f⟩ := h.lst; exact ⟨a, vs, e, .inr l, f⟩
  · obtain ⟨a, vs, e, l, f⟩ := h.tup; exact ⟨a, vs, e, .inl l.sqt, f⟩
theorem sa_star {mr : Ev (List D)} {p : Pos} (ha : PE X e (tM X.K W ma)) (hr : PA X es (tAF X.K W mr)) :
    PA X (.Starred e p :: es) (tAF X.K W (bnd ma fun v => bnd (content v) fun d => match items d with | some xs => bnd mr fun ds => pur (xs ++ ds) | none => bad)) := by
  refine (StX.pa_star ha hr).imp fun σ H Q h => ?_
  obtain ⟨g, r, h⟩ := h
  refine run_one r h fun g2 H2 x v r hx _ h => ?_
  obtain ⟨d1, _, c1, h⟩ := hx.content r h
  cases q : items d1 with
  | none => rw [q] at h; exact h.elim
  | some xs =>
    rw [q] at h
    obtain ⟨a, vs, e, l, f⟩ := c1.items q
    refine ⟨a, vs, e, l, g2, r, h.bnd.mono fun ds g3 H3 r3 s3 h ws hws => h H3 r3 .refl _ ((f.mono s3.kp).append hws)⟩
theorem se_tup {k : Nat} {m : Ev (List D)} (h : PA X es (tAF X.K W m)) : PE X (.Tuple es k pos) (tM X.K W (bnd m fun ds => if ds.length ≤ lim then pur (.val (.tuple ds)) else bad)) := by
  refine (pe_tup h).imp fun σ H Q h => ?_
  obtain ⟨g, r, h⟩ := h
  refine ⟨g, r, h.bnd.mono fun ds g1 H1 r1 s1 h vs f => ?_⟩
  by_cases c : ds.length ≤ lim
  · rw [if_pos c] at h
    exact ⟨by rw [f.length, lim_eq]; exact c, fun p hp => h _ (r1.new hp) (.new hp) (.ref p) (.tup (.inl upd_same) (f.mono (Kp.new hp))) trivial⟩
  · rw [if_neg c] at h; exact h.elim
theorem se_lst {m : Ev (List D)} (h : PA X es (tAF X.K W m)) : PE X (.List es pos) (tM X.K W (bnd m fun ds => if ds.length ≤ lim then pur (.own ds) else bad)) := by
  refine (pe_lst h).imp fun σ H Q h => ?_
  obtain ⟨g, r, h⟩ := h
  refine ⟨g, r, h.bnd.mono fun ds g1 H1 r1 s1 h vs f => ?_⟩
  by_cases c : ds.length ≤ lim
  · rw [if_pos c] at h
    refine ⟨by rw [f.length, lim_eq]; exact c, fun p hp => h _ (r1.new hp) (.new hp) (.ref p) ⟨p, vs, rfl, upd_same, f.mono (Kp.new hp), fun z => ?_⟩ fun a e => ?_⟩
    · obtain ⟨ws, e⟩ := r1.ow_lst z
      rw [hp] at e; cases e
    · cases e
      exact Classical.byContradiction fun z => s1.dom p z hp
  · rw [if_neg c] at h; exact h.elim
/-! ### built-ins -/
inductive RVA (K : PySem.W.Frag) (H : Hp) (σ : L2.St) (g : Gam) : List V → List EV → Prop
  | nil : RVA K H σ g [] []
  | cons {v : V} {vs : List V} {x : EV} {xs : List EV} : RV K H σ g v x → RVA K H σ g vs xs → RVA K H σ g (v :: vs) (x :: xs)
def tAP (K : PySem.W.Frag) (W : Nat → L2.St → Hp → Prop) (m : Ev (List EV)) : TA := fun σ H Q => ∃ g, Rel K H σ g ∧ Run K W σ g H (m g) fun xs g' H' => ∀ vs, RVA K H' σ g' vs xs → Q vs H'
theorem sp_nil : PA X [] (tAP X.K W (pur [])) := pa_nil.imp fun σ H Q h => by
  obtain ⟨g, r, h⟩ := h
  exact h H r .refl [] .nil
theorem sp_cons {mr : Ev (List EV)} (ha : PE X e (tM X.K W ma)) (hr : PA X es (tAP X.K W mr)) (hs : isStar e = false) :
    PA X (e :: es) (tAP X.K W (bnd ma fun v => bnd mr fun vs => pur (v :: vs))) := by
  refine (pa_cons ha hr (star_no hs)).imp fun σ H Q h => ?_
  obtain ⟨g, r, h⟩ := h
  refine ⟨g, r, h.bnd.mono fun x g1 H1 r1 s1 h v hv _ => ?_⟩
  exact ⟨g1, r1, h.bnd.mono fun xs g2 H2 r2 s2 h vs hvs => h H2 r2 .refl (v :: vs) (.cons (hv.step s2) hvs)⟩
theorem RVA.contents {H : Hp} {σ : L2.St} {g : Gam} (r : Rel X.K H σ g) : ∀ {vs : List V} {xs : List EV}, RVA X.K H σ g vs xs → ∀ {β : Type} {f : List D → Ev β} {P : β → Gam → Hp → Prop}, Run X.K W σ g H (bnd (DK.contents xs) f g) P →
    ∃ ds, CvA X.K H vs ds ∧ Run X.K W σ g H (f ds g) P
  | _, _, .nil, _, _, _, h => ⟨[], .nil, h⟩
  | _, _, .cons (xs := xs) hv t, β, f, P, h => by
    simp only [DK.contents, bnd_assoc] at h
    obtain ⟨d, _, c, h⟩ := hv.content r h
    obtain ⟨ds, cs, h⟩ := RVA.contents r t h
    exact ⟨d :: ds, .cons c cs, h⟩
end
end DK
end
section
set_option maxRecDepth 100000
set_option maxHeartbeats 4000000
namespace DK
open PySem L2 PySem.Spec PyProof.Rows
theorem isi_ok {X : Cx} (T : String) (f : D → Bool) (hT : (T = "int" ∧ f = isIntD) ∨ (T = "str" ∧ f = isStrD) ∨ (T = "tuple" ∧ f = isTupD)) :
    CallR X (.builtin "isinstance") (fun vs H Q => ∃ v d, vs = [v, .ty T] ∧ Cv X.K H v d ∧ Q (.bl (f d)) H) := by
  intro pins s σ H vs us Q I rv h
  obtain ⟨v, d, rfl, cx, q⟩ := h
  obtain ⟨u, w, rfl, r1, r2⟩ := vals2 rv
  cases r2
  obtain ⟨as, rd⟩ := Dp.reads I d v u cx.dp r1
  rcases hT with ⟨rfl, rfl⟩ | ⟨rfl, rfl⟩ | ⟨rfl, rfl⟩
  · refine PySem.W.isinstance_int_data rd fun tk _ => ⟨.bl (isIntD d), H, I.tok _, ?_, q⟩
    cases d <;> rfl
  · refine PySem.W.isinstance_str_data rd fun tk _ => ⟨.bl (isStrD d), H, I.tok _, ?_, q⟩
    cases d <;> rfl
  · refine PySem.W.isinstance_tuple_data rd fun tk _ => ⟨.bl (isTupD d), H, I.tok _, ?_, q⟩
    cases d <;> rfl
section
variable {X : Cx} {W : Nat → L2.St → Hp → Prop} {a b c e : Expr} {ma mb mc : Ev EV} {pos : Pos} {es rest : List Expr}
theorem blt_run {t : TA} {m : Ev (List EV)} {σ : L2.St} {H : Hp} {Q : VK} {b : Blt} (h : tM X.K W (bnd m fun vs => bnd (contents vs) fun ds => opt (bltD b ds)) σ H Q) :
    tAP X.K W m σ H fun vs H1 => ∃ ds ev, CvA X.K H1 vs ds ∧ bltD b ds = some ev ∧ ResV X.K H1 Q ev := by
  obtain ⟨g, r, h⟩ := h
  refine ⟨g, r, h.bnd.mono fun xs g1 H1 r1 s1 h vs hv => ?_⟩
  obtain ⟨ds, cs, h⟩ := RVA.contents r1 hv h
  cases q : bltD b ds with
  | none => rw [q] at h; exact h.elim
  | some ev =>
    rw [q] at h
    refine ⟨ds, ev, cs, q, fin_res r1 (h.mono fun ev g' H' _ _ q u hu hf => q u hu ?_) ⟨rfl, bltD_nb q⟩⟩
    cases ev with
    | own xs => exact fun a ea => Classical.byContradiction fun z => s1.dom a z (hf a ea)
    | val _ => trivial
    | bor _ => trivial
theorem se_blt (hc : X.calm = true) (hgd : X.A.guards = some []) (hu : X.A.units + 100 < cLine) (b : Blt) (hb : notIs b = true) {x : Str} {p : Pos} {m : Ev (List EV)} (hg : Gl X x) (hm : X.mg x = none) (hv : bootBuiltins x = some (bltV b))
    (ha : PA X (e :: es) (tAP X.K W m)) (hs : (e :: es).all (fun e => !isStar e) = true) (hn : x ≠ "__name__") (hd : (x == ("__debug__" : Str)) = false) :
    PE X (.Call (.Name x p) (e :: es) [] pos) (tM X.K W (bnd m fun vs => bnd (contents vs) fun ds => opt (bltD b ds))) := by
  rw [List.all_cons, Bool.and_eq_true] at hs
  have he := star_no (es := es) (env := X.env) (e := e) (by simpa using hs.1)
  have hpl := noStars (env := X.env) (pos := pos) hs.2
  cases b with
  | tuple => exact (pe_callTy (blt_ok hc hgd hu .tuple rfl) hg hm hv ha hn hd he hpl).imp fun σ H Q h => blt_run (t := tAP X.K W m) h
  | list => exact (pe_callTy (blt_ok hc hgd hu .list rfl) hg hm hv ha hn hd he hpl).imp fun σ H Q h => blt_run (t := tAP X.K W m) h
  | int => exact (pe_callTy (blt_ok hc hgd hu .int rfl) hg hm hv ha hn hd he hpl).imp fun σ H Q h => blt_run (t := tAP X.K W m) h
  | str => exact (pe_callTy (blt_ok hc hgd hu .str rfl) hg hm hv ha hn hd he hpl).imp fun σ H Q h => blt_run (t := tAP X.K W m) h
  | bool => exact (pe_callTy (blt_ok hc hgd hu .bool rfl) hg hm hv ha hn hd he hpl).imp fun σ H Q h => blt_run (t := tAP X.K W m) h
  | len => exact (pe_callB (blt_ok hc hgd hu .len rfl) hg hm hv ha hn hd he hpl).imp fun σ H Q h => blt_run (t := tAP X.K W m) h
  | abs => exact (pe_callB (blt_ok hc hgd hu .abs rfl) hg hm hv ha hn hd he hpl).imp fun σ H Q h => blt_run (t := tAP X.K W m) h
  | min => exact (pe_callB (blt_ok hc hgd hu .min rfl) hg hm hv ha hn hd he hpl).imp fun σ H Q h => blt_run (t := tAP X.K W m) h
  | max => exact (pe_callB (blt_ok hc hgd hu .max rfl) hg hm hv ha hn hd he hpl).imp fun σ H Q h => blt_run (t := tAP X.K W m) h
  | sum => exact (pe_callB (blt_ok hc hgd hu .sum rfl) hg hm hv ha hn hd he hpl).imp fun σ H Q h => blt_run (t := tAP X.K W m) h
  | sorted => exact (pe_callB (blt_ok hc hgd hu .sorted rfl) hg hm hv ha hn hd he hpl).imp fun σ H Q h => blt_run (t := tAP X.K W m) h
  | all => exact (pe_callB (blt_ok hc hgd hu .all rfl) hg hm hv ha hn hd he hpl).imp fun σ H Q h => blt_run (t := tAP X.K W m) h
  | any => exact (pe_callB (blt_ok hc hgd hu .any rfl) hg hm hv ha hn hd he hpl).imp fun σ H Q h => blt_run (t := tAP X.K W m) h
  | repr => exact (pe_callB (blt_ok hc hgd hu .repr rfl) hg hm hv ha hn hd he hpl).imp fun σ H Q h => blt_run (t := tAP X.K W m) h
  | isint => cases hb
  | isstr => cases hb
  | istup => cases hb
def isiOf : Blt → Option (String × (D → Bool)) | .isint => some ("int", isIntD) | .isstr => some ("str", isStrD) | .istup => some ("tuple", isTupD) | _ => none
theorem isi_bltD {b : Blt} {T : String} {f : D → Bool} (h : isiOf b = some (T, f)) (d : D) : bltD b [d] = some (.val (.bool (f d))) := by
  cases b <;> first | (cases h; done) | (cases h; rfl)
theorem se_isi {b : Blt} {T : String} {f : D → Bool} (hb : isiOf b = some (T, f)) {x y : Str} {p p2 : Pos} (hg : Gl X x) (hm : X.mg x = none) (hv : bootBuiltins x = some (.builtin "isinstance")) (hg2 : Gl X y) (hm2 : X.mg y = none) (hv2 : bootBuiltins y = some (.type T))
    (ha : PE X e (tM X.K W ma)) (hs : isStar e = false) (hn : x ≠ "__name__") (hd : (x == ("__debug__" : Str)) = false) (hn2 : y ≠ "__name__") (hd2 : (y == ("__debug__" : Str)) = false) :
    PE X (.Call (.Name x p) [e, .Name y p2] [] pos) (tM X.K W (bnd (bnd ma fun v => bnd (pur []) fun vs => pur (v :: vs)) fun vs => bnd (contents vs) fun ds => opt (bltD b ds))) := by
  have hT : (T = "int" ∧ f = isIntD) ∨ (T = "str" ∧ f = isStrD) ∨ (T = "tuple" ∧ f = isTupD) := by
    cases b <;> first | (cases hb; done) | (cases hb; simp)
  have hpa : PA X [e, .Name y p2] (tCons (tM X.K W ma) (tCons (tC (.ty T)) tNil)) := pa_cons ha (pa_cons (pe_bltn hg2 hm2 hv2 rfl hn2 hd2) pa_nil rfl) (star_no hs)
  refine (pe_callB (isi_ok T f hT) hg hm hv hpa hn hd (star_no hs) (by rw [show starEach [Expr.Name y p2] X.env = [(false, eval (.Name y p2) X.env)] from rfl]; rfl)).imp fun σ H Q h => ?_
  obtain ⟨g, r, h⟩ := h
  simp only [bnd_assoc] at h
  refine run_one r h fun g2 H2 x v r2 hx _ h => ?_
  show ∃ v' d, [v, V.ty T] = [v', V.ty T] ∧ _
  have h : Run X.K W σ g2 H2 (bnd (contents [x]) (fun ds => opt (bltD b ds)) g2) _ := h
  obtain ⟨ds, cs, h⟩ := RVA.contents r2 (.cons hx .nil) h
  cases cs with
  | cons c1 t =>
    cases t
    rw [isi_bltD hb] at h
    exact ⟨v, _, rfl, c1, h H2 r2 .refl (.bl _) (.bl _) trivial⟩
end
end DK
end
section
set_option maxRecDepth 100000
set_option maxHeartbeats 4000000
namespace DK
open PySem L2 PySem.Spec PyProof.Rows
section
variable {K : PySem.W.Frag} {H H1 : Hp} {σ : L2.St} {g : Gam} {i : Nat} {k : Kd} {xs ys : List D} {a : Addr} {vs ws : List V}
theorem Rel.upd (r : Rel K H σ g) (e : g[i]? = some (.own k xs)) (z : σ[i]? = some (some (.ref a))) (ha : H a = some (.lst vs)) (f : FzA K H ws ys) : Rel K (upd H a (.lst ws)) σ (g.set i (.own k ys)) ∧ Kp H (L2.upd H a (.lst ws)) := by
  have hi : i < g.length := by
    by_cases q : i < g.length
    · exact q
    · rw [List.getElem?_eq_none (by omega)] at e; cases e
  have kp : Kp H (L2.upd H a (.lst ws)) := fun b u eb n => by
    by_cases q : b = a
    · subst q; rw [ha] at eb; cases eb; exact absurd rfl (n vs)
    · rw [upd_ne q]; exact eb
  refine ⟨⟨by rw [List.length_set]; exact r.len, fun j d ej => ?_, fun j l zs ej => ?_, fun j l k1 k2 x1 x2 b e1 e2 => ?_⟩, kp⟩
  · by_cases hj : j = i
    · subst hj; rw [List.getElem?_set_self hi] at ej; cases ej
    · rw [List.getElem?_set_ne (Ne.symm hj)] at ej
      obtain ⟨v, h1, h2⟩ := r.val j d ej
      exact ⟨v, h1, h2.mono kp⟩
  · by_cases hj : j = i
    · subst hj
      rw [List.getElem?_set_self hi] at ej; cases ej
      exact ⟨a, ws, z, upd_same, f.mono kp⟩
    · rw [List.getElem?_set_ne (Ne.symm hj)] at ej
      obtain ⟨b, us, h1, h2, h3⟩ := r.own j l zs ej
      exact ⟨b, us, h1, by rw [upd_ne (show b ≠ a from fun q => hj (r.inj j i l k zs xs a ej e (q ▸ h1) z))]; exact h2, h3.mono kp⟩
  · have f : ∀ {j : Nat} {k' : Kd} {zs : List D}, (g.set i (.own k ys))[j]? = some (.own k' zs) → ∃ zs', g[j]? = some (.own k' zs') := fun {j k' zs} ej => by
      by_cases hj : j = i
      · subst hj; rw [List.getElem?_set_self hi] at ej; cases ej; exact ⟨xs, e⟩
      · rw [List.getElem?_set_ne (Ne.symm hj)] at ej; exact ⟨zs, ej⟩
    obtain ⟨z1, q1⟩ := f e1
    obtain ⟨z2, q2⟩ := f e2
    exact r.inj j l k1 k2 z1 z2 b q1 q2
theorem StE.upd (r : Rel K H σ g) (e : g[i]? = some (.own k xs)) (hk : k ≠ .lock) (z : σ[i]? = some (some (.ref a))) (ha : H a = some (.lst vs)) : StE σ g H (g.set i (.own k ys)) (upd H a (.lst ws)) := by
  have hi : i < g.length := by
    by_cases q : i < g.length
    · exact q
    · rw [List.getElem?_eq_none (by omega)] at e; cases e
  refine ⟨fun b u eb n => ?_, fun b u eb n => ?_, fun b eb => ?_, fun j l zs ej => ?_, fun j l zs ej hl => ?_, fun j d ej => ?_, by rw [List.length_set]⟩
  · rw [upd_ne (show b ≠ a from fun q => n ⟨i, k, xs, e, hk, q ▸ z⟩)]; exact eb
  · by_cases q : b = a
    · subst q; rw [ha] at eb; cases eb; exact absurd rfl (n vs)
    · rw [upd_ne q]; exact eb
  · by_cases q : b = a
    · subst q; rw [upd_same]; exact fun z => nomatch z
    · rw [upd_ne q]; exact eb
  · by_cases hj : j = i
    · subst hj; rw [List.getElem?_set_self hi] at ej; cases ej; exact ⟨xs, e⟩
    · rw [List.getElem?_set_ne (Ne.symm hj)] at ej; exact ⟨zs, ej⟩
  · by_cases hj : j = i
    · subst hj
      rw [e] at ej; cases ej
      exact ⟨ys, List.getElem?_set_self hi, fun q => absurd q hk⟩
    · exact ⟨zs, by rw [List.getElem?_set_ne (Ne.symm hj)]; exact ej, fun _ => rfl⟩
  · by_cases hj : j = i
    · subst hj; rw [e] at ej; cases ej
    · rw [List.getElem?_set_ne (Ne.symm hj)]; exact ej
end
def mutId : Mut → String | .append => "list.append" | .extend => "list.extend" | .insert => "list.insert" | .pop => "list.pop" | .reverse => "list.reverse"
def mutNm : Mut → Str | .append => "append" | .extend => "extend" | .insert => "insert" | .pop => "pop" | .reverse => "reverse"
def rMut (K : PySem.W.Frag) (m : Mut) : V → List V → Hp → VK → Prop := fun x vs H Q => ∃ a us xs ds d ys, x = .ref a ∧ H a = some (.lst us) ∧ FzA K H us xs ∧ FzA K H vs ds ∧ mutD m xs ds = some (d, ys) ∧
  ∀ u ws, Fz K H u d → FzA K H ws ys → Q u (upd H a (.lst ws))
section
variable {X : Cx}
theorem ext_ls {pins : List (Addr × Obj)} {s : Shared} {σ : L2.St} {H : Hp} {l b : Addr} {xs zs : List V} {Q : VK} (I : L2.Inv X pins σ H s) (hH : H l = some (.lst xs)) (hB : LsO s b zs) (hz : xs.length + zs.length ≤ sizeLine)
    (q : Q .non (upd H l (.lst (xs ++ zs)))) : wpAny (model X.prog X.w) X.A (call (.builtin "list.extend") [.ref l, .ref b]) (EP X pins σ Q) X.xe s := by
  obtain ⟨z, us, n, r, hl, e⟩ := I.lstM hH
  obtain ⟨z2, us2, n2, r2, hl2, e2⟩ := hB
  have hsz : us.toArray.size + us2.toArray.size ≤ sizeLine := by rw [List.size_toArray, List.size_toArray]; omega
  have hlong : ¬ (!us.toArray.isEmpty && Builtin.List.listTooLong (us.toArray.size + us2.toArray.size)) = true := fun w => by
    rw [notLongL hsz, Bool.and_false] at w; cases w
  refine call_meets F.slot_list_extend ⟨_, e, rfl⟩ F.entry_list_extend (F.args_list_extend_2 _ _)
    (AutoSeq1.list_extend_list_list_0 l us.toArray n b us2.toArray n2 hlong (by rw [List.size_toArray]; omega) (by omega)) ⟨e, e2, ?_⟩
  exact ⟨.non, _, I.lset (its' := us ++ us2) hH e (by simp) (r.append r2) (by rw [List.length_append]; omega), rfl, q⟩
theorem mut_ok (m : Mut) : MtR X (mutId m) (rMut X.K m) := by
  intro pins s σ H x vs v us Q I rx rv h
  obtain ⟨a, ws, xs, ds, d, ys, rfl, ha, fx, fd, e, q⟩ := h
  have hs : sizeLine = lim := sizeLine_eq
  have hlim : lim = 16777216 := rfl
  cases m with
  | append =>
    match ds, e with
    | [d0], e =>
      obtain ⟨c, e'⟩ := ifS e
      cases e'
      cases fd with
      | cons f0 t =>
        cases t
        exact mt_append pins s σ H _ _ v us Q I rx rv ⟨a, ws, _, rfl, rfl, ha, by rw [fx.length, hs]; exact c, q _ _ .non (fx.append (.cons f0 .nil))⟩
  | extend =>
    match ds, e with
    | [.list zs], e =>
      obtain ⟨c, e'⟩ := ifS e
      cases e'
      cases fd with
      | cons f0 t =>
        cases t
        obtain ⟨b, us2, rfl, s2, f2⟩ := f0.lst_inv
        cases rx
        obtain ⟨u, rfl, ru⟩ := rv.one
        cases ru
        exact ext_ls I ha (lsO_frz I s2) (by rw [fx.length, f2.length, hs]; exact c) (q _ _ .non (fx.append f2))
  | insert =>
    match ds, e with
    | [.int i, d0], e =>
      obtain ⟨c, e'⟩ := ifS e
      cases e'
      cases fd with
      | cons f0 t =>
        cases t with
        | cons f1 t =>
          cases t
          cases f0.int_inv
          have hlen := fx.length
          refine mt_insert pins s σ H _ _ v us Q I rx rv ⟨a, ws, i, _, rfl, rfl, ha, by rw [fx.length, hs]; exact c.1, c.2.1, by omega, q _ _ .non ?_⟩
          have := ((fx.take i.toNat).append (.cons f1 .nil)).append (fx.drop i.toNat)
          simpa using this
  | pop =>
    match ds, e with
    | [], e =>
      simp only [mutD] at e
      cases q2 : xs.getLast? with
      | none => rw [q2] at e; cases e
      | some d0 =>
        rw [q2] at e
        cases e
        cases fd
        rw [List.getLast?_eq_getElem?] at q2
        obtain ⟨u, hu, fu⟩ := fx.get q2
        exact mt_pop pins s σ H _ _ v us Q I rx rv ⟨a, ws, u, rfl, rfl, ha, by rw [fx.length]; exact hu, q _ _ fu fx.dropLast⟩
  | reverse =>
    match ds, e with
    | [], e =>
      cases e
      cases fd
      exact mt_reverse pins s σ H _ _ v us Q I rx rv ⟨a, ws, rfl, rfl, ha, q _ _ .non fx.reverse⟩
variable {W : Nat → L2.St → Hp → Prop} {e : Expr} {es : List Expr} {pos : Pos}
theorem slot_mut (m : Mut) : PySem.Slot "list" (mutNm m) (mutId m) := by
  cases m
  · exact PySem.F.slot_list_append
  · exact PySem.F.slot_list_extend
  · exact PySem.F.slot_list_insert
  · exact PySem.F.slot_list_pop
  · exact PySem.F.slot_list_reverse
theorem type_mut (m : Mut) : typeOf (.builtin (mutId m)) = pure (.type "method_descriptor") := by
  cases m
  · exact PySem.F.type_list_append
  · exact PySem.F.type_list_extend
  · exact PySem.F.type_list_insert
  · exact PySem.F.type_list_pop
  · exact PySem.F.type_list_reverse
def mMut (m : Mut) (i : Nat) (md : Ev (List D)) : Ev EV := fun g => match g[i]? with
  | some (.own _ _) => bnd md (fun ds => doMut m i ds) g
  | _ => .bad
theorem mut_run {i : Nat} {m : Mut} {md : Ev (List D)} {t : TA} {σ : L2.St} {H : Hp} {Q : VK} (h : tM X.K W (mMut m i md) σ H Q)
    (ht : t = tAF X.K W md ∨ (md = pur [] ∧ t = tNil)) : tVar i σ H fun x H1 => tyV X.K "list" x H1 ∧ t σ H1 fun vs H2 => rMut X.K m x vs H2 Q := by
  obtain ⟨g, r, h⟩ := h
  unfold mMut at h
  cases e0 : g[i]? with
  | none => rw [e0] at h; exact h.elim
  | some sl =>
    cases sl with
    | no => rw [e0] at h; exact h.elim
    | val _ => rw [e0] at h; exact h.elim
    | own k0 xs0 =>
      rw [e0] at h
      have h : Run X.K W σ g H (bnd md (fun ds => doMut m i ds) g) _ := h
      obtain ⟨a, us0, y1, y2, y3⟩ := r.own i k0 xs0 e0
      have fin : ∀ {ds : List D} {g1 : Gam} {H1 : Hp} {vs : List V}, Rel X.K H1 σ g1 → FzA X.K H1 vs ds → StE σ g H g1 H1 → Run X.K W σ g1 H1 (doMut m i ds g1) (fun ev g' H' => ∀ v, RV X.K H' σ g' v ev → Fr H v ev → Q v H') →
          rMut X.K m (.ref a) vs H1 Q := fun {ds g1 H1 vs} r1 f s1 h => by
        unfold doMut at h
        cases e : g1[i]? with
        | none => rw [e] at h; exact h.elim
        | some sl =>
          rw [e] at h
          cases sl with
          | no => exact h.elim
          | val _ => exact h.elim
          | own k xs =>
            obtain ⟨b, us, z1, z2, z3⟩ := r1.own i k xs e
            obtain rfl : b = a := by rw [z1] at y1; cases y1; rfl
            have hk : k ≠ .lock := fun q => by subst q; exact h.elim
            have h' : Run X.K W σ g1 H1 (match mutD m xs ds with | some (d, ys) => .ok (.val d) (g1.set i (.own k ys)) | none => .bad) (fun ev g' H' => ∀ v, RV X.K H' σ g' v ev → Fr H v ev → Q v H') := by
              cases k
              · exact h
              · exact h
              · exact absurd rfl hk
            cases q : mutD m xs ds with
            | none => rw [q] at h'; exact h'.elim
            | some p =>
              obtain ⟨d, ys⟩ := p
              rw [q] at h'
              refine ⟨b, us, xs, ds, d, ys, rfl, z2, z3, f, q, fun u ws fu fw => ?_⟩
              obtain ⟨r2, kp⟩ := r1.upd e z1 z2 fw
              exact h' _ r2 (.upd r1 e hk z1 z2) u (fu.mono kp) trivial
      refine ⟨.ref a, y1, .inl ⟨rfl, _, .of y2⟩, ?_⟩
      rcases ht with rfl | ⟨rfl, rfl⟩
      · exact ⟨g, r, h.bnd.mono fun ds g1 H1 r1 s1 h vs f => fin r1 f s1 h⟩
      · exact fin r .nil .refl h
theorem keepOne {e : Expr} {env : Env} {pos : Pos} (h : isStar e = false) : ((backTo pos (starEach [e] env)).all (fun x => !x.1) && (backToKw pos (keywordEach [] env)).all (fun x => x.1.isSome)
      && decide ([e].length + ([] : List Keyword).length + (if ([] : List Keyword).isEmpty then 0 else 1) < 30)) = true := by
  rw [star_no h]; rfl
theorem keepTwo {e e2 : Expr} {env : Env} {pos : Pos} (h : isStar e = false) (h2 : isStar e2 = false) : ((backTo pos (starEach [e, e2] env)).all (fun x => !x.1) && (backToKw pos (keywordEach [] env)).all (fun x => x.1.isSome)
      && decide ([e, e2].length + ([] : List Keyword).length + (if ([] : List Keyword).isEmpty then 0 else 1) < 30)) = true := by
  rw [star_no h, star_no h2]; rfl
theorem se_mut0 (m : Mut) {i : Nat} {x : Str} {p apos : Pos} (hN : X.N[i]? = some x) (hv : Vis X.env.scope x) (hd : (x == ("__debug__" : Str)) = false) (hcd : (x == ("__classdict__" : Str)) = false) (hl : (apos.endLine == pos.line) = true) :
    PE X (.Call (.Attribute (.Name x p) (mutNm m) apos) [] [] pos) (tM X.K W (mMut m i (pur []))) :=
  (pe_bm0 PySem.F.plainAttrs_list (slot_mut m) (type_mut m) (mut_ok m) (pe_var (i := i) hN hv hd hcd) (by rfl) hl).imp fun σ H Q h => by
    obtain ⟨x, z, ty, q⟩ := mut_run (t := tNil) h (.inr ⟨rfl, rfl⟩)
    exact ⟨x, z, ty, q⟩
theorem se_mut1 (m : Mut) {i : Nat} {x : Str} {p apos : Pos} {md : Ev (List D)} (hN : X.N[i]? = some x) (hv : Vis X.env.scope x) (hd : (x == ("__debug__" : Str)) = false) (hcd : (x == ("__classdict__" : Str)) = false) (hl : (apos.endLine == pos.line) = true)
    (ha : PA X [e] (tAF X.K W md)) (hs : isStar e = false) :
    PE X (.Call (.Attribute (.Name x p) (mutNm m) apos) [e] [] pos) (tM X.K W (mMut m i md)) :=
  (pe_bm PySem.F.plainAttrs_list (slot_mut m) (type_mut m) (mut_ok m) (pe_var (i := i) hN hv hd hcd) ha (by rfl) (keepOne hs) hl (star_no hs) (by rfl)).imp fun σ H Q h => mut_run h (.inl rfl)
theorem se_mut2 (m : Mut) {i : Nat} {x : Str} {p apos : Pos} {md : Ev (List D)} {e2 : Expr} (hN : X.N[i]? = some x) (hv : Vis X.env.scope x) (hd : (x == ("__debug__" : Str)) = false) (hcd : (x == ("__classdict__" : Str)) = false) (hl : (apos.endLine == pos.line) = true)
    (ha : PA X [e, e2] (tAF X.K W md)) (hs : isStar e = false) (hs2 : isStar e2 = false) :
    PE X (.Call (.Attribute (.Name x p) (mutNm m) apos) [e, e2] [] pos) (tM X.K W (mMut m i md)) :=
  (pe_bm PySem.F.plainAttrs_list (slot_mut m) (type_mut m) (mut_ok m) (pe_var (i := i) hN hv hd hcd) ha (by rfl) (keepTwo hs hs2) hl (star_no hs) (by rw [star_no hs2]; rfl)).imp fun σ H Q h => mut_run h (.inl rfl)
end
end DK
end
section
set_option maxRecDepth 100000
set_option maxHeartbeats 4000000
namespace DK
open PySem L2 PySem.Spec PyProof.Rows
/-! ### a def's contract -/
structure FnG (P : Program) (w : World) (K : PySem.W.Frag) (mg : Str → Option Value) (base : Heap) (k : Nat) (f : Addr) (fd : FuncData) (ps : List Str) (sp : Sp) : Prop where
  len : ∀ vs H Q E, sp vs H Q E → vs.length = ps.length
  run : ∀ (A : Around) (outer : List Env) (s : Shared) (H : Hp) (args : Args) (us : List Value) (vs : List V) (Q : VK) (E : XK), Room k A → A.guards = some [] →
    Env0 P w K mg base A outer s H → BindsTo s fd args (ps.zip us) → Vals vs us → sp vs H Q E →
    codeAny (model P w) A (.call (.ref f) args) (CR (L2.CX P w) outer P w H s Q E) s
def CSat (K : PySem.W.Frag) (cl : Nat → Addr) (vs : List V) (as : List Slot) (H : Hp) (r : CRes) (Q : VK) (E : XK) : Prop :=
  let Ok (fin : Gam) (H' : Hp) : Prop := Rel K H' (vs.map some) fin ∧ (∀ a o, H a = some o → ¬ Mt (vs.map some) as a → H' a = some o) ∧ Kp H H' ∧ (∀ a, H a ≠ none → H' a ≠ none) ∧
    ∀ (i : Nat) (k : Kd) (xs : List D), as[i]? = some (.own k xs) → ∃ ys, fin[i]? = some (.own k ys) ∧ (k = .lock → ys = xs)
  match r with
  | .ret (.val d) fin => ∀ v H', Ok fin H' → Fz K H' v d → Q v H'
  | .ret (.own xs) fin => ∀ a vs H', Ok fin H' → H' a = some (.lst vs) → FzA K H' vs xs → H a = none → Q (.ref a) H'
  | .ret (.bor _) _ => False
  | .exc c fin => ∀ H', Ok fin H' → E (.ref (cl c)) none H'
  | .bad => False
def noMine (as : List Slot) : Bool := as.all fun s => match s with | .own .mine _ => false | _ => true
def spC (K : PySem.W.Frag) (cl : Nat → Addr) (n : Nat) (cr : List Slot → CRes) : Sp := fun vs H Q E => vs.length = n ∧ ∃ as, noMine as = true ∧ Rel K H (vs.map some) as ∧ CSat K cl vs as H (cr as) Q E
/-! ### arguments -/
def ARv (K : PySem.W.Frag) (H : Hp) (σ : L2.St) (g : Gam) (v : V) : Arg → Prop
  | .val d => Fz K H v d
  | .tmp xs => ∃ a vs, v = .ref a ∧ H a = some (.lst vs) ∧ FzA K H vs xs ∧ ¬ Ow σ g a
  | .ref _ i => σ[i]? = some (some v)
inductive ARs (K : PySem.W.Frag) (H : Hp) (σ : L2.St) (g : Gam) : List V → List Arg → Prop
  | nil : ARs K H σ g [] []
  | cons {v : V} {vs : List V} {x : Arg} {xs : List Arg} : ARv K H σ g v x → ARs K H σ g vs xs → (∀ zs, x = .tmp zs → ∀ (j : Nat) (ys : List D), xs[j]? = some (.tmp ys) → vs[j]? ≠ some v) → ARs K H σ g (v :: vs) (x :: xs)
def FrA (H : Hp) (vs : List V) (as : List Arg) : Prop := ∀ (j : Nat) (xs : List D) (a : Addr), as[j]? = some (.tmp xs) → vs[j]? = some (.ref a) → H a = none
section
variable {K : PySem.W.Frag} {H H1 : Hp} {σ : L2.St} {g g1 : Gam} {v : V} {vs : List V} {x : Arg} {as : List Arg}
theorem ARv.step (h : ARv K H σ g v x) (s : StE σ g H g1 H1) : ARv K H1 σ g1 v x := by
  cases x with
  | val d => exact Fz.mono s.kp h
  | tmp xs =>
    obtain ⟨a, vs, e, ha, hf, n⟩ := h
    exact ⟨a, vs, e, s.ext a _ ha fun q => n q.ow, hf.mono s.kp, fun q => n (s.ow q)⟩
  | ref m i => exact h
theorem ARs.len : ∀ {vs : List V} {as : List Arg}, ARs K H σ g vs as → vs.length = as.length
  | _, _, .nil => rfl
  | _, _, .cons _ t _ => by rw [List.length_cons, List.length_cons, ARs.len t]
theorem ARs.at : ∀ {vs : List V} {as : List Arg} {j : Nat} {x : Arg}, ARs K H σ g vs as → as[j]? = some x → ∃ v, vs[j]? = some v ∧ ARv K H σ g v x
  | _, _, _, _, .nil, e => by simp at e
  | _, _, 0, _, .cons a _ _, e => by simp at e; subst e; exact ⟨_, rfl, a⟩
  | _, _, j + 1, x, .cons _ t _, e => by
    obtain ⟨v, h1, h2⟩ := ARs.at (j := j) (x := x) t (by simpa using e)
    exact ⟨v, by simpa using h1, h2⟩
theorem ARs.sep : ∀ {vs : List V} {as : List Arg} {i j : Nat} {xs ys : List D} {v : V}, ARs K H σ g vs as → as[i]? = some (.tmp xs) → as[j]? = some (.tmp ys) → vs[i]? = some v → vs[j]? = some v → i = j
  | _, _, _, _, _, _, _, .nil, e, _, _, _ => by simp at e
  | _, _, 0, 0, _, _, _, .cons _ _ _, _, _, _, _ => rfl
  | _, _, 0, j + 1, xs, ys, v, .cons _ _ n, e1, e2, z1, z2 => by
    simp at e1 z1; subst e1; subst z1
    exact absurd (by simpa using z2) (n xs rfl j ys (by simpa using e2))
  | _, _, i + 1, 0, xs, ys, v, .cons _ _ n, e1, e2, z1, z2 => by
    simp at e2 z2; subst e2; subst z2
    exact absurd (by simpa using z1) (n ys rfl i xs (by simpa using e1))
  | _, _, i + 1, j + 1, xs, ys, v, .cons _ t _, e1, e2, z1, z2 => by
    rw [ARs.sep (i := i) (j := j) t (by simpa using e1) (by simpa using e2) (by simpa using z1) (by simpa using z2)]
theorem slots_at : ∀ {as : List Arg} {ss : List Slot}, slotsOf g as = some ss → ss.length = as.length ∧ ∀ (j : Nat) (s : Slot), ss[j]? = some s → ∃ x, as[j]? = some x ∧ x.slot g = some s
  | [], ss, h => by cases h; exact ⟨rfl, fun j s e => by simp at e⟩
  | a :: r, ss, h => by
    unfold slotsOf at h
    cases q1 : a.slot g with
    | none => rw [q1] at h; cases h
    | some x =>
      cases q2 : slotsOf g r with
      | none => rw [q1, q2] at h; cases h
      | some y =>
        rw [q1, q2] at h
        cases h
        obtain ⟨h1, h2⟩ := slots_at q2
        refine ⟨by rw [List.length_cons, List.length_cons, h1], fun j s e => ?_⟩
        cases j with
        | zero => simp at e; subst e; exact ⟨a, rfl, q1⟩
        | succ j => simpa using h2 j s (by simpa using e)
theorem slot_own {x : Arg} {k : Kd} {xs : List D} (h : x.slot g = some (.own k xs)) : k ≠ .mine ∧ ((x = .tmp xs ∧ k = .loan) ∨ ∃ m i k', x = .ref m i ∧ g[i]? = some (.own k' xs) ∧ (k = .loan → m = .m ∧ k' ≠ .lock)) := by
  cases x with
  | val d => cases h
  | tmp ys => cases h; exact ⟨(fun q => by cases q), .inl ⟨rfl, rfl⟩⟩
  | ref m i =>
    unfold Arg.slot at h
    dsimp only at h
    cases e : g[i]? with
    | none => rw [e] at h; cases h
    | some sl =>
      rw [e] at h
      cases sl with
      | no => cases h
      | val _ => cases h
      | own k' ys =>
        cases m with
        | r => cases h; exact ⟨(fun q => by cases q), .inr ⟨_, _, k', rfl, e, (fun q => by cases q)⟩⟩
        | m => cases k' <;> cases h <;> exact ⟨(fun q => by cases q), .inr ⟨_, _, _, rfl, e, fun _ => ⟨rfl, (fun q => by cases q)⟩⟩⟩
theorem refs_at : ∀ {as : List Arg} {j : Nat} {m : Mode} {i : Nat}, as[j]? = some (.ref m i) → i ∈ refsOf as
  | [], _, _, _, e => by simp at e
  | a :: r, 0, m, i, e => by simp at e; subst e; exact List.mem_cons_self
  | a :: r, j + 1, m, i, e => by
    have h := refs_at (as := r) (j := j) (m := m) (i := i) (by simpa using e)
    cases a <;> first | exact h | exact List.mem_cons_of_mem _ h
theorem refs_inj : ∀ {as : List Arg} {i j : Nat} {m m' : Mode} {l : Nat}, noTwice (refsOf as) = true → as[i]? = some (.ref m l) → as[j]? = some (.ref m' l) → i = j
  | [], _, _, _, _, _, _, e, _ => by simp at e
  | a :: r, 0, 0, _, _, _, _, _, _ => rfl
  | a :: r, 0, j + 1, m, m', l, n, e1, e2 => by
    simp at e1; subst e1
    have h := refs_at (as := r) (j := j) (m := m') (i := l) (by simpa using e2)
    simp only [refsOf, noTwice, Bool.and_eq_true, Bool.not_eq_true'] at n
    have := n.1
    rw [List.elem_eq_mem] at this
    exact absurd h (by simpa using this)
  | a :: r, i + 1, 0, m, m', l, n, e1, e2 => by
    simp at e2; subst e2
    have h := refs_at (as := r) (j := i) (m := m) (i := l) (by simpa using e1)
    simp only [refsOf, noTwice, Bool.and_eq_true, Bool.not_eq_true'] at n
    have := n.1
    rw [List.elem_eq_mem] at this
    exact absurd h (by simpa using this)
  | a :: r, i + 1, j + 1, m, m', l, n, e1, e2 => by
    have n' : noTwice (refsOf r) = true := by
      cases a <;> simp only [refsOf, noTwice, Bool.and_eq_true] at n <;> first | exact n | exact n.2
    rw [refs_inj (i := i) (j := j) (m := m) (m' := m') n' (by simpa using e1) (by simpa using e2)]
theorem ARs.rel (h : ARs K H σ g vs as) (r : Rel K H σ g) (n : noTwice (refsOf as) = true) {ss : List Slot} (e : slotsOf g as = some ss) : Rel K H (vs.map some) ss ∧ noMine ss = true := by
  obtain ⟨hl, at'⟩ := slots_at e
  have ownAt : ∀ {i : Nat} {k : Kd} {xs : List D}, ss[i]? = some (.own k xs) → ∃ x v, as[i]? = some x ∧ vs[i]? = some v ∧ ARv K H σ g v x ∧ k ≠ .mine ∧ ((x = .tmp xs ∧ k = .loan) ∨ ∃ m l k', x = .ref m l ∧ g[l]? = some (.own k' xs)) := fun {i k xs} q => by
    obtain ⟨x, hx, hs⟩ := at' i _ q
    obtain ⟨hm, hs⟩ := slot_own hs
    obtain ⟨v, hv, ha⟩ := h.at hx
    refine ⟨x, v, hx, hv, ha, hm, ?_⟩
    rcases hs with hs | ⟨m, l, k', e1, e2, _⟩
    · exact .inl hs
    · exact .inr ⟨m, l, k', e1, e2⟩
  refine ⟨⟨by rw [List.length_map, hl, h.len], fun i d q => ?_, fun i k xs q => ?_, fun i j k l xs ys a q1 q2 z1 z2 => ?_⟩, ?_⟩
  · obtain ⟨x, hx, hs⟩ := at' i _ q
    obtain ⟨v, hv, ha⟩ := h.at hx
    cases x with
    | val d' => cases hs; exact ⟨v, by rw [List.getElem?_map, hv]; rfl, ha⟩
    | tmp _ => cases hs
    | ref m l =>
      exfalso
      unfold Arg.slot at hs
      dsimp only at hs
      cases e : g[l]? with
      | none => rw [e] at hs; cases hs
      | some sl =>
        rw [e] at hs
        cases sl with
        | no => cases hs
        | val _ => cases hs
        | own k' ys => cases m <;> cases k' <;> cases hs
  · obtain ⟨x, v, hx, hv, ha, hm, hs | ⟨m, l, k', e1, e2⟩⟩ := ownAt q
    · rw [hs.1] at ha
      obtain ⟨a, ws, rfl, q1, q2, _⟩ := ha
      exact ⟨a, ws, by rw [List.getElem?_map, hv]; rfl, q1, q2⟩
    · rw [e1] at ha
      obtain ⟨a, ws, q0, q1, q2⟩ := r.own l k' xs e2
      have ha : σ[l]? = some (some v) := ha
      rw [ha] at q0; cases q0
      exact ⟨a, ws, by rw [List.getElem?_map, hv]; rfl, q1, q2⟩
  · obtain ⟨x, v, hx, hv, ha, hm, hs⟩ := ownAt q1
    obtain ⟨y, w, hy, hw, hb, hm2, hs2⟩ := ownAt q2
    rw [List.getElem?_map, hv] at z1; cases z1
    rw [List.getElem?_map, hw] at z2; cases z2
    rcases hs with ⟨rfl, _⟩ | ⟨m, p, k', rfl, e2⟩
    · rcases hs2 with ⟨rfl, _⟩ | ⟨m2, p2, k2, rfl, e3⟩
      · exact h.sep hx hy hv hw
      · obtain ⟨b, _, e, _, _, no⟩ := ha
        cases e
        exact absurd ⟨p2, k2, ys, e3, hb⟩ no
    · rcases hs2 with ⟨rfl, _⟩ | ⟨m2, p2, k2, rfl, e3⟩
      · obtain ⟨b, _, e, _, _, no⟩ := hb
        cases e
        exact absurd ⟨p, k', xs, e2, ha⟩ no
      · have hp : p = p2 := r.inj p p2 k' k2 xs ys a e2 e3 ha hb
        subst hp
        exact refs_inj n hx hy
  · unfold noMine
    rw [List.all_eq_true]
    intro s hs
    obtain ⟨i, hi⟩ := List.mem_iff_getElem?.mp hs
    cases s with
    | own k xs =>
      obtain ⟨_, _, _, _, _, hm, _⟩ := ownAt hi
      cases k <;> first | rfl | exact absurd rfl hm
    | _ => rfl
theorem give_at : ∀ {as : List Arg} {fin g g2 : Gam}, noTwice (refsOf as) = true → giveBack as fin g = some g2 → g2.length = g.length ∧
    (∀ l : Nat, (∀ j : Nat, as[j]? ≠ some (.ref .m l)) → g2[l]? = g[l]?) ∧ ∀ j l : Nat, as[j]? = some (.ref .m l) → ∃ k k' xs ys, g[l]? = some (.own k ys) ∧ fin[j]? = some (.own k' xs) ∧ g2[l]? = some (.own k xs)
  | [], fin, g, g2, _, h => by
    cases h
    exact ⟨rfl, fun _ _ => rfl, fun j l e => by simp at e⟩
  | .val d :: r, fin, g, g2, n, h => by
    cases fin with
    | nil => cases h
    | cons s fin =>
      obtain ⟨h1, h2, h3⟩ := give_at (as := r) (fin := fin) (g := g) (g2 := g2) n (by simpa [giveBack] using h)
      refine ⟨h1, fun l hl => h2 l fun j => by simpa using hl (j + 1), fun j l e => ?_⟩
      cases j with
      | zero => simp at e
      | succ j => simpa using h3 j l (by simpa using e)
  | .tmp d :: r, fin, g, g2, n, h => by
    cases fin with
    | nil => cases h
    | cons s fin =>
      obtain ⟨h1, h2, h3⟩ := give_at (as := r) (fin := fin) (g := g) (g2 := g2) n (by simpa [giveBack] using h)
      refine ⟨h1, fun l hl => h2 l fun j => by simpa using hl (j + 1), fun j l e => ?_⟩
      cases j with
      | zero => simp at e
      | succ j => simpa using h3 j l (by simpa using e)
  | .ref .r i :: r, fin, g, g2, n, h => by
    cases fin with
    | nil => cases h
    | cons s fin =>
      simp only [refsOf, noTwice, Bool.and_eq_true] at n
      obtain ⟨h1, h2, h3⟩ := give_at (as := r) (fin := fin) (g := g) (g2 := g2) n.2 (by simpa [giveBack] using h)
      refine ⟨h1, fun l hl => h2 l fun j => by simpa using hl (j + 1), fun j l e => ?_⟩
      cases j with
      | zero => simp at e
      | succ j => simpa using h3 j l (by simpa using e)
  | .ref .m i :: r, fin, g, g2, n, h => by
    cases fin with
    | nil => cases h
    | cons s fin =>
      simp only [refsOf, noTwice, Bool.and_eq_true, Bool.not_eq_true'] at n
      cases s with
      | no => cases h
      | val _ => cases h
      | own k' xs =>
        unfold giveBack at h
        cases e : g[i]? with
        | none => rw [e] at h; cases h
        | some sl =>
          rw [e] at h
          cases sl with
          | no => cases h
          | val _ => cases h
          | own k ys =>
            have h : giveBack r fin (g.set i (.own k xs)) = some g2 := h
            obtain ⟨h1, h2, h3⟩ := give_at n.2 h
            have hi : i < g.length := by
              by_cases q : i < g.length
              · exact q
              · rw [List.getElem?_eq_none (by omega)] at e; cases e
            have ni : i ∉ refsOf r := by
              have := n.1
              rw [List.elem_eq_mem] at this
              simpa using this
            have hni : ∀ j : Nat, r[j]? ≠ some (.ref .m i) := fun j q => ni (refs_at q)
            refine ⟨by rw [h1, List.length_set], fun l hl => ?_, fun j l q => ?_⟩
            · have hli : l ≠ i := fun z => hl 0 (by simp [z])
              rw [h2 l fun j => by simpa using hl (j + 1), List.getElem?_set_ne (Ne.symm hli)]
            · cases j with
              | zero =>
                simp at q
                subst q
                exact ⟨k, k', xs, ys, e, rfl, by rw [h2 i hni, List.getElem?_set_self hi]⟩
              | succ j =>
                have q' : r[j]? = some (.ref .m l) := by simpa using q
                obtain ⟨k1, k2, x1, y1, e1, e2, e3⟩ := h3 j l q'
                have hli : l ≠ i := fun z => hni j (z ▸ q')
                rw [List.getElem?_set_ne (Ne.symm hli)] at e1
                exact ⟨k1, k2, x1, y1, e1, by simpa using e2, e3⟩
end
end DK
end
section
set_option maxRecDepth 100000
set_option maxHeartbeats 4000000
namespace DK
open PySem L2 PySem.Spec PyProof.Rows
def CallOk (K : PySem.W.Frag) (vs : List V) (as : List Slot) (H : Hp) (fin : Gam) (H' : Hp) : Prop :=
  Rel K H' (vs.map some) fin ∧ (∀ a o, H a = some o → ¬ Mt (vs.map some) as a → H' a = some o) ∧ Kp H H' ∧ (∀ a, H a ≠ none → H' a ≠ none) ∧
    ∀ (i : Nat) (k : Kd) (xs : List D), as[i]? = some (.own k xs) → ∃ ys, fin[i]? = some (.own k ys) ∧ (k = .lock → ys = xs)
section
variable {K : PySem.W.Frag} {H H1 H' : Hp} {σ : L2.St} {g g1 g2 fin : Gam} {v : V} {vs : List V} {x : Arg} {as : List Arg} {ss : List Slot}
theorem call_post (r1 : Rel K H1 σ g1) (s1 : StE σ g H g1 H1) (ha : ARs K H1 σ g1 vs as) (hf : FrA H vs as) (n : noTwice (refsOf as) = true) (es : slotsOf g1 as = some ss) (ok : CallOk K vs ss H1 fin H') (eg : giveBack as fin g1 = some g2) :
    Rel K H' σ g2 ∧ StE σ g H g2 H' := by
  obtain ⟨rf, ext, kp, dom, fs⟩ := ok
  obtain ⟨gl, gn, gm⟩ := give_at n eg
  obtain ⟨hl, hat⟩ := slots_at es
  have back : ∀ {j : Nat} {x : Arg}, as[j]? = some x → ∃ s, ss[j]? = some s ∧ x.slot g1 = some s := fun {j x} e => by
    have hj : j < ss.length := by
      rw [hl]
      by_cases q : j < as.length
      · exact q
      · rw [List.getElem?_eq_none (by omega)] at e; cases e
    obtain ⟨y, hy, hs⟩ := hat j _ (List.getElem?_eq_getElem hj)
    rw [e] at hy; cases hy
    exact ⟨_, List.getElem?_eq_getElem hj, hs⟩
  -- what the callee may change: a lent list
  have lent : ∀ {a : Addr}, Mt (vs.map some) ss a → (∃ (l j : Nat) (k : Kd) (xs : List D), as[j]? = some (.ref .m l) ∧ g1[l]? = some (.own k xs) ∧ k ≠ .lock ∧ σ[l]? = some (some (.ref a))) ∨ (H a = none ∧ ¬ Ow σ g1 a) := fun {a} ⟨j, k, xs, q, nk, z⟩ => by
    obtain ⟨x, hx, hs⟩ := hat j _ q
    obtain ⟨w, hw, hv⟩ := ha.at hx
    rw [List.getElem?_map, hw] at z; cases z
    obtain ⟨_, ⟨rfl, _⟩ | ⟨m, l, k', rfl, e2, e3⟩⟩ := slot_own hs
    · obtain ⟨b, _, e, _, _, no⟩ := hv
      cases e
      exact .inr ⟨hf j xs a hx hw, no⟩
    · obtain ⟨rfl, hk⟩ := e3 (by cases k <;> first | rfl | exact absurd rfl nk | exact absurd (slot_own hs).1 (by simp))
      exact .inl ⟨l, j, k', xs, hx, e2, hk, hv⟩
  have lentK : ∀ {j l : Nat}, as[j]? = some (.ref .m l) → ∃ k xs, g1[l]? = some (.own k xs) ∧ k ≠ .lock ∧ ss[j]? = some (.own .loan xs) := fun {j l} e => by
    obtain ⟨s, q1, q2⟩ := back e
    unfold Arg.slot at q2
    dsimp only at q2
    cases e2 : g1[l]? with
    | none => rw [e2] at q2; cases q2
    | some sl =>
      rw [e2] at q2
      cases sl with
      | no => cases q2
      | val _ => cases q2
      | own k ys =>
        cases k with
        | lock => cases q2
        | mine => cases q2; exact ⟨_, ys, rfl, (by decide), q1⟩
        | loan => cases q2; exact ⟨_, ys, rfl, (by decide), q1⟩
  -- the lists that are not lent stand
  have stand : ∀ {l : Nat} {k : Kd} {xs : List D} {a : Addr} {o : HO}, (∀ j : Nat, as[j]? ≠ some (.ref .m l)) → g1[l]? = some (.own k xs) → σ[l]? = some (some (.ref a)) → H1 a = some o → H' a = some o := fun {l k xs a o} no e z h => by
    refine ext a o h fun q => ?_
    rcases lent q with ⟨l2, j, k2, xs2, e1, e2, _, z2⟩ | ⟨_, nw⟩
    · exact no j (by rw [r1.inj l l2 k k2 xs xs2 a e e2 z z2]; exact e1)
    · exact nw ⟨l, k, xs, e, z⟩
  have own2 : ∀ {l : Nat} {k : Kd} {xs : List D}, g2[l]? = some (.own k xs) → ∃ ys, g1[l]? = some (.own k ys) := fun {l k xs} e => by
    by_cases q : ∃ j : Nat, as[j]? = some (.ref .m l)
    · obtain ⟨j, q⟩ := q
      obtain ⟨k1, k2, x1, y1, e1, e2, e3⟩ := gm j l q
      rw [e] at e3; cases e3
      exact ⟨y1, e1⟩
    · rw [gn l fun j w => q ⟨j, w⟩] at e
      exact ⟨xs, e⟩
  refine ⟨⟨by rw [gl]; exact r1.len, fun l d e => ?_, fun l k xs e => ?_, fun i j k l xs ys a e1 e2 z1 z2 => ?_⟩, ⟨fun a o e nm => ?_, s1.kp.trans kp, fun a e => dom a (s1.dom a e), fun l k xs e => ?_, fun l k xs e nk => ?_, fun l d e => ?_, by rw [gl]; exact s1.lenE⟩⟩
  · have q : ∀ j : Nat, as[j]? ≠ some (.ref .m l) := fun j w => by
      obtain ⟨_, _, _, _, _, _, e3⟩ := gm j l w
      rw [e] at e3; cases e3
    rw [gn l q] at e
    obtain ⟨v, h1, h2⟩ := r1.val l d e
    exact ⟨v, h1, h2.mono kp⟩
  · by_cases q : ∃ j : Nat, as[j]? = some (.ref .m l)
    · obtain ⟨j, q⟩ := q
      obtain ⟨k1, k2, x1, y1, e1, e2, e3⟩ := gm j l q
      rw [e] at e3; cases e3
      obtain ⟨a, ws, z1, z2, z3⟩ := rf.own j k2 xs e2
      obtain ⟨w, hw, hv⟩ := ha.at q
      rw [List.getElem?_map, hw] at z1; cases z1
      exact ⟨a, ws, hv, z2, z3⟩
    · have q' : ∀ j : Nat, as[j]? ≠ some (.ref .m l) := fun j w => q ⟨j, w⟩
      rw [gn l q'] at e
      obtain ⟨a, ws, h1, h2, h3⟩ := r1.own l k xs e
      exact ⟨a, ws, h1, stand q' e h1 h2, h3.mono kp⟩
  · obtain ⟨x1, q1⟩ := own2 e1
    obtain ⟨x2, q2⟩ := own2 e2
    exact r1.inj i j k l x1 x2 a q1 q2 z1 z2
  · have h1 := s1.ext a o e nm
    refine ext a o h1 fun q => ?_
    rcases lent q with ⟨l, j, k, xs, e1, e2, e3, z⟩ | ⟨hn, _⟩
    · exact nm (s1.mt ⟨l, k, xs, e2, e3, z⟩)
    · rw [e] at hn; cases hn
  · obtain ⟨ys, q⟩ := own2 e
    exact s1.shr l k ys q
  · obtain ⟨ys, e1, h1⟩ := s1.stay l k xs e nk
    by_cases q : ∃ j : Nat, as[j]? = some (.ref .m l)
    · obtain ⟨j, q⟩ := q
      obtain ⟨k1, k2, x1, y1, w1, w2, w3⟩ := gm j l q
      rw [e1] at w1; cases w1
      refine ⟨x1, w3, fun hk => ?_⟩
      obtain ⟨k3, x3, w4, w5, _⟩ := lentK q
      rw [e1] at w4; cases w4
      exact absurd hk w5
    · exact ⟨ys, by rw [gn l fun j w => q ⟨j, w⟩]; exact e1, h1⟩
  · have e1 := s1.vals l d e
    have q : ∀ j : Nat, as[j]? ≠ some (.ref .m l) := fun j w => by
      obtain ⟨_, _, _, _, e3, _, _⟩ := gm j l w
      rw [e1] at e3; cases e3
    rw [gn l q]; exact e1
end
/-! ### arguments as terms -/
def tAr (K : PySem.W.Frag) (W : Nat → L2.St → Hp → Prop) (m : Ev Arg) : TE := fun σ H Q => ∃ g, Rel K H σ g ∧ Run K W σ g H (m g) fun x g' H' => ∀ v, ARv K H' σ g' v x → (∀ xs a, x = .tmp xs → v = .ref a → H a = none) → Q v H'
def tAA (K : PySem.W.Frag) (W : Nat → L2.St → Hp → Prop) (m : Ev (List Arg)) : TA := fun σ H Q => ∃ g, Rel K H σ g ∧ Run K W σ g H (m g) fun xs g' H' => ∀ vs, ARs K H' σ g' vs xs → FrA H vs xs → Q vs H'
section
variable {X : Cx} {W : Nat → L2.St → Hp → Prop} {e : Expr} {es : List Expr} {ma : Ev EV} {pos : Pos}
theorem pe_arg (md : Mode) (h : PE X e (tM X.K W ma)) : PE X e (tAr X.K W (bnd ma (argOf md))) := by
  refine ⟨fun pins s σ H Q I hq => ?_⟩
  obtain ⟨g, r, hr⟩ := hq
  refine thn (h.run pins s σ H (fun v H1 => ∃ ev g1, ma g = .ok ev g1 ∧ Rel X.K H1 σ g1 ∧ StE σ g H g1 H1 ∧ RV X.K H1 σ g1 v ev ∧ Fr H v ev) I ⟨g, r, ?_⟩) fun u s1 ⟨v, H1, I1, rv, ev, g1, em, r1, s1', hv, hf⟩ => ?_
  · unfold DK.bnd at hr
    cases q : ma g with
    | bad => rw [q] at hr; exact hr
    | exc c g' => rw [q] at hr; exact hr
    | ok ev g' => exact fun H' r' s' v hv hf => ⟨ev, g', rfl, r', s', hv, hf⟩
  · unfold DK.bnd at hr
    rw [em] at hr
    dsimp only at hr
    cases ev with
    | val d => exact ⟨v, H1, I1, rv, hr H1 r1 s1' v hv fun xs a e => nomatch e⟩
    | bor i => exact ⟨v, H1, I1, rv, hr H1 r1 s1' v hv fun xs a e => nomatch e⟩
    | own xs =>
      cases md with
      | m =>
        refine ⟨v, H1, I1, rv, hr H1 r1 s1' v hv fun ys a e ea => ?_⟩
        cases e
        exact hf a ea
      | r =>
        obtain ⟨a, vs, rfl, ha, hfz, nw⟩ := hv
        obtain ⟨o, I2⟩ := I1.lock ha trivial
        have hn : H a = none := hf a rfl
        have k2 : Kp H1 (upd H1 a (.frz o (.lst vs))) := Kp.frz ha
        refine ⟨.ref a, _, I2, rv, hr _ ⟨r1.len, fun i d e => ?_, fun i k ys e => ?_, r1.inj⟩ ⟨fun b u e n => ?_, s1'.kp.trans k2, fun b e => ?_, s1'.shr, s1'.stay, s1'.vals, s1'.lenE⟩ (.ref a) (.lst (.inl ⟨o, upd_same⟩) (hfz.mono k2)) fun ys b e => nomatch e⟩
        · obtain ⟨w, h1, h2⟩ := r1.val i d e
          exact ⟨w, h1, h2.mono k2⟩
        · obtain ⟨b, ws, h1, h2, h3⟩ := r1.own i k ys e
          exact ⟨b, ws, h1, by rw [upd_ne (show b ≠ a from fun z => nw ⟨i, k, ys, e, z ▸ h1⟩)]; exact h2, h3.mono k2⟩
        · rw [upd_ne (show b ≠ a from fun z => by rw [z, hn] at e; cases e)]
          exact s1'.ext b u e n
        · by_cases z : b = a
          · subst z; exact absurd hn e
          · rw [upd_ne z]; exact s1'.dom b e
theorem saa_nil : PA X [] (tAA X.K W (pur [])) := pa_nil.imp fun σ H Q h => by
  obtain ⟨g, r, h⟩ := h
  exact h H r .refl [] .nil fun j xs a e => by simp at e
theorem saa_cons (md : Mode) {mr : Ev (List Arg)} (ha : PE X e (tM X.K W ma)) (hr : PA X es (tAA X.K W mr)) (hs : isStar e = false) :
    PA X (e :: es) (tAA X.K W (bnd ma fun v => bnd (argOf md v) fun a => bnd mr fun as => pur (a :: as))) := by
  refine (pa_cons (pe_arg md ha) hr (star_no hs)).imp fun σ H Q h => ?_
  obtain ⟨g, r, h⟩ := h
  rw [← bnd_assoc ma (argOf md)] at h
  refine ⟨g, r, h.bnd.mono fun x g1 H1 r1 s1 h v hv hx => ?_⟩
  refine ⟨g1, r1, h.bnd.mono fun xs g2 H2 r2 s2 h vs hvs hf => h H2 r2 .refl (v :: vs) (.cons (hv.step s2) hvs ?_) ?_⟩
  · intro zs e j ys ej z
    subst e
    obtain ⟨a, ws, rfl, ha1, _⟩ := hv
    have := hf j ys a ej z
    rw [ha1] at this; cases this
  · intro j ys a ej z
    cases j with
    | zero =>
      simp at ej z
      exact hx ys a ej z
    | succ j => exact Classical.byContradiction fun q => s1.dom a q (hf j ys a (by simpa using ej) (by simpa using z))
/-! ### calls -/
def tw (cl : Nat → Addr) (W : Nat → L2.St → Hp → Prop) : WX := fun cls d σ H => ∃ c, cls = .ref (cl c) ∧ d = none ∧ W c σ H
theorem call_run {cl : Nat → Addr} {C : Nat → List Slot → CRes} {f n : Nat} {m : Ev (List Arg)} {σ : L2.St} {H : Hp} {Q : VK} (hC : ∀ ss, C f ss ≠ .bad → ss.length = n) (h : tM X.K W (bnd m fun as => doCall C f as) σ H Q) :
    tAA X.K W m σ H fun vs H1 => spC X.K cl n (C f) vs H1 Q (WE (tw cl W) σ) := by
  obtain ⟨g, r0, h⟩ := h
  refine ⟨g, r0, ?_⟩
  unfold DK.bnd at h
  cases q : m g with
  | bad => rw [q] at h; exact h
  | exc c g' => rw [q] at h; exact h
  | ok as g1 =>
    rw [q] at h
    intro H1 r1 s1 vs ha hf
    have h : Run X.K W σ g H (doCall C f as g1) _ := h
    unfold doCall at h
    cases n1 : noTwice (refsOf as) with
    | false => rw [if_neg (by rw [n1]; exact Bool.false_ne_true)] at h; exact h.elim
    | true =>
      rw [if_pos n1] at h
      cases es : slotsOf g1 as with
      | none => rw [es] at h; exact h.elim
      | some ss =>
        rw [es] at h
        dsimp only at h
        obtain ⟨rel, nm⟩ := ha.rel r1 n1 es
        have hlen : C f ss ≠ .bad → vs.length = n := fun q => by rw [ha.len, ← (slots_at es).1]; exact hC ss q
        cases q2 : C f ss with
        | bad => rw [q2] at h; exact h.elim
        | ret ev fin =>
          refine ⟨hlen (by rw [q2]; exact fun z => nomatch z), ss, nm, rel, ?_⟩
          rw [q2]
          cases ev with
          | bor i => rw [q2] at h; exact h.elim
          | val d =>
            rw [q2] at h
            dsimp only at h
            cases eg : giveBack as fin g1 with
            | none => rw [eg] at h; exact h.elim
            | some g2 =>
              rw [eg] at h
              intro v H' ok fz
              obtain ⟨r2, s2⟩ := call_post r1 s1 ha hf n1 es ok eg
              exact h H' r2 s2 v fz trivial
          | own xs =>
            rw [q2] at h
            dsimp only at h
            cases eg : giveBack as fin g1 with
            | none => rw [eg] at h; exact h.elim
            | some g2 =>
              rw [eg] at h
              intro a ws H' ok e1 e2 e3
              obtain ⟨r2, s2⟩ := call_post r1 s1 ha hf n1 es ok eg
              refine h H' r2 s2 (.ref a) ⟨a, ws, rfl, e1, e2, fun z => ?_⟩ fun b eb => ?_
              · obtain ⟨l, k, ys, q3, q4⟩ := z
                obtain ⟨zs, q5⟩ : ∃ zs, g1[l]? = some (.own k zs) := by
                  obtain ⟨gl, gn, gm⟩ := give_at n1 eg
                  by_cases q : ∃ j : Nat, as[j]? = some (.ref .m l)
                  · obtain ⟨j, q⟩ := q
                    obtain ⟨k1, k2, x1, y1, e1, e2, e3⟩ := gm j l q
                    rw [q3] at e3; cases e3
                    exact ⟨y1, e1⟩
                  · rw [gn l fun j w => q ⟨j, w⟩] at q3
                    exact ⟨ys, q3⟩
                obtain ⟨us, q6⟩ := r1.ow_lst ⟨l, k, zs, q5, q4⟩
                rw [e3] at q6; cases q6
              · cases eb
                exact Classical.byContradiction fun z => s1.dom a z e3
        | exc c fin =>
          rw [q2] at h
          dsimp only at h
          refine ⟨hlen (by rw [q2]; exact fun z => nomatch z), ss, nm, rel, ?_⟩
          rw [q2]
          cases eg : giveBack as fin g1 with
          | none => rw [eg] at h; exact h.elim
          | some g2 =>
            rw [eg] at h
            intro H' ok
            obtain ⟨r2, s2⟩ := call_post r1 s1 ha hf n1 es ok eg
            exact ⟨c, rfl, rfl, h H' r2 s2⟩
theorem run_fnG {n : Nat} {f : Addr} {fd : FuncData} {ps : List Str} {sp : Sp} {Wx : WX} {pins : List (Addr × Obj)} {σ : L2.St} {H : Hp} {s : Shared} {Q : VK} {us : List Value} {vs : List V} (F : FnG X.prog X.w X.K X.mg X.base n f fd ps sp) (hr : Room n X.A) (hg : X.A.guards = some [])
    (hb : Binds X.K fd ps []) (tk : Takes X Wx) (I : L2.Inv X pins σ H s) (r : Vals vs us) (h : sp vs H Q (WE Wx σ)) : wpAny (model X.prog X.w) X.A (call (.ref f) us) (EP X pins σ Q) X.xe s := by
  have hl : us.length = ps.length := by rw [← r.length]; exact F.len _ _ _ _ h
  have b := hb s us I.kIn (by rw [List.append_nil]; exact hl)
  rw [List.append_nil] at b
  refine wpAny_call (codeAny_mono (F.run X.A X.stack s H ⟨us, []⟩ us vs Q (WE Wx σ) hr hg I.env0 b r h) fun r s' hq => ?_)
  cases r with
  | error e => exact passAt tk σ pins H s e s' I hq
  | ok fl =>
    cases fl with
    | ret u => exact I.after hq
    | next => exact False.elim hq
    | brk => exact False.elim hq
    | cont => exact False.elim hq
theorem pe_callG {n : Nat} {f : Addr} {fd : FuncData} {ps : List Str} {sp : Sp} {Wx : WX} {x : Str} {p : Pos} {t : TA} (F : FnG X.prog X.w X.K X.mg X.base n f fd ps sp) (hr : Room n X.A) (hgd : X.A.guards = some []) (hg : Gl X x) (hm : X.mg x = some (.ref f))
    (hk : PySem.W.keepIn X.K (.ref f) = true) (hb : Binds X.K fd ps []) (tk : Takes X Wx) (ha : PA X (e :: es) t) (hs : (e :: es).all (fun e => !isStar e) = true) (hd : (x == ("__debug__" : Str)) = false) :
    PE X (.Call (.Name x p) (e :: es) [] pos) (fun σ H Q => t σ H fun vs H1 => sp vs H1 Q (WE Wx σ)) := by
  refine ⟨fun pins s σ H Q I h => ?_⟩
  refine wpAny_Call_Name_kw (ld_glob I hg hm ?_ hd)
  rw [List.all_cons, Bool.and_eq_true] at hs
  refine PySem.W.callWith_K (h₀ := X.base) I.ok.mod.kin hk (thn (ha.run pos pins s σ H _ I h) fun us s1 ⟨vs, H1, I1, r, q⟩ => ⟨I1.kIn, ?_⟩) (star_no (by simpa using hs.1)) (noStars hs.2)
  exact run_fnG F hr hgd hb tk I1 r q
theorem pe_call0G {n : Nat} {f : Addr} {fd : FuncData} {ps : List Str} {sp : Sp} {Wx : WX} {x : Str} {p : Pos} (F : FnG X.prog X.w X.K X.mg X.base n f fd ps sp) (hr : Room n X.A) (hgd : X.A.guards = some []) (hg : Gl X x) (hm : X.mg x = some (.ref f))
    (hk : PySem.W.keepIn X.K (.ref f) = true) (hb : Binds X.K fd ps []) (tk : Takes X Wx) (hd : (x == ("__debug__" : Str)) = false) :
    PE X (.Call (.Name x p) [] [] pos) (fun σ H Q => sp [] H Q (WE Wx σ)) := by
  refine ⟨fun pins s σ H Q I h => ?_⟩
  refine wpAny_Call_Name_kw (ld_glob I hg hm ?_ hd)
  exact PySem.W.callWith_K0 I.kIn hk (run_fnG (us := []) F hr hgd hb tk I .nil h)
theorem se_call {cl : Nat → Addr} {C : Nat → List Slot → CRes} {fi k n : Nat} {m : Ev (List Arg)} {f : Addr} {fd : FuncData} {ps : List Str} {x : Str} {p : Pos} (hC : ∀ ss, C fi ss ≠ .bad → ss.length = n)
    (F : FnG X.prog X.w X.K X.mg X.base k f fd ps (spC X.K cl n (C fi))) (hr : Room k X.A) (hgd : X.A.guards = some []) (hg : Gl X x) (hm : X.mg x = some (.ref f))
    (hk : PySem.W.keepIn X.K (.ref f) = true) (hb : Binds X.K fd ps []) (tk : Takes X (tw cl W)) (ha : PA X es (tAA X.K W m)) (he : es = [] → m = pur []) (hs : es.all (fun e => !isStar e) = true) (hd : (x == ("__debug__" : Str)) = false) :
    PE X (.Call (.Name x p) es [] pos) (tM X.K W (bnd m fun as => doCall C fi as)) := by
  cases es with
  | nil =>
    cases he rfl
    refine (pe_call0G F hr hgd hg hm hk hb tk hd).imp fun σ H Q h => ?_
    obtain ⟨g, r, z⟩ := call_run hC h
    exact z H r .refl [] .nil fun j xs a e => by simp at e
  | cons e es => exact (pe_callG F hr hgd hg hm hk hb tk ha hs hd).imp fun σ H Q h => call_run hC h
end
end DK
end
section
set_option maxRecDepth 100000
set_option maxHeartbeats 4000000
namespace DK
open PySem L2 PySem.Spec PyProof.Rows
def Mi (σ : L2.St) (g : Gam) (a : Addr) : Prop := ∃ (i : Nat) (xs : List D), g[i]? = some (.own .mine xs) ∧ σ[i]? = some (some (.ref a))
def Rt (K : PySem.W.Frag) (σ : L2.St) (g : Gam) (H H' : Hp) (v : V) : EV → Prop
  | .val d => Fz K H' v d
  | .own xs => ∃ a vs, v = .ref a ∧ H' a = some (.lst vs) ∧ FzA K H' vs xs ∧ (H a = none ∨ Mi σ g a)
  | .bor _ => False
def RunS (K : PySem.W.Frag) (W : Nat → L2.St → Hp → Prop) (σ : L2.St) (g : Gam) (H : Hp) (r : Flow) (D : Ends) : Prop := match r with
  | .next g' => ∀ σ' H', Rel K H' σ' g' → Stp σ g H σ' g' H' → D.nx σ' H'
  | .ret ev g' => ∀ v σ' H', Rel K H' σ' g' → Stp σ g H σ' g' H' → Rt K σ g H H' v ev → D.rt v H'
  | .brk g' => ∀ σ' H', Rel K H' σ' g' → Stp σ g H σ' g' H' → D.bk σ' H'
  | .cont g' => ∀ σ' H', Rel K H' σ' g' → Stp σ g H σ' g' H' → D.ct σ' H'
  | .exc c g' => ∀ σ' H', Rel K H' σ' g' → Stp σ g H σ' g' H' → W c σ' H'
  | .bad => False
def tS (K : PySem.W.Frag) (W : Nat → L2.St → Hp → Prop) (m : Gam → Flow) : TS := fun D σ H => ∃ g, Rel K H σ g ∧ RunS K W σ g H (m g) D
theorem _root_.L2.PS.imp {X : Cx} {st : Stmt} {t t' : TS} (h : PS X st t) (f : ∀ D σ H, t' D σ H → t D σ H) : PS X st t' := ⟨fun pins s σ H D I q => h.run pins s σ H D I (f D σ H q)⟩
theorem _root_.L2.PSs.imp {X : Cx} {st : List Stmt} {t t' : TS} (h : PSs X st t) (f : ∀ D σ H, t' D σ H → t D σ H) : PSs X st t' := ⟨fun pins s σ H D I q => h.run pins s σ H D I (f D σ H q)⟩
section
variable {K : PySem.W.Frag} {W : Nat → L2.St → Hp → Prop} {H H1 H' : Hp} {σ σ1 : L2.St} {g g1 g2 : Gam} {v : V} {ev : EV} {D : Ends} {r : Flow}
theorem Rt.back (s : Stp σ g H σ1 g1 H1) (h : Rt K σ1 g1 H1 H' v ev) : Rt K σ g H H' v ev := by
  cases ev with
  | val d => exact h
  | bor i => exact h
  | own xs =>
    obtain ⟨a, vs, e, h1, h2, h3⟩ := h
    refine ⟨a, vs, e, h1, h2, ?_⟩
    rcases h3 with h3 | ⟨i, ys, q, z⟩
    · exact .inl (Classical.byContradiction fun w => s.dom a w h3)
    · rcases s.sub i .mine ys a q z with h4 | ⟨j, zs, e1, e2⟩
      · exact .inl h4
      · exact .inr ⟨j, zs, e1, e2⟩
theorem RunS.from (s : Stp σ g H σ1 g1 H1) (h : RunS K W σ g H r D) : RunS K W σ1 g1 H1 r D := by
  cases r with
  | next g' => exact fun σ' H' r' s' => h σ' H' r' (s.trans s')
  | brk g' => exact fun σ' H' r' s' => h σ' H' r' (s.trans s')
  | cont g' => exact fun σ' H' r' s' => h σ' H' r' (s.trans s')
  | exc c g' => exact fun σ' H' r' s' => h σ' H' r' (s.trans s')
  | ret ev g' => exact fun v σ' H' r' s' t => h v σ' H' r' (s.trans s') (t.back s)
  | bad => exact h
theorem RunS.runE {α : Type} {m : Ev α} {k : α → Gam → Flow} (h : RunS K W σ g H (DK.runE m k g) D) : Run K W σ g H (m g) fun a g1 H1 => RunS K W σ g1 H1 (k a g1) D := by
  unfold DK.runE at h
  cases q : m g with
  | bad => rw [q] at h; exact h
  | exc c g' => rw [q] at h; exact fun H' r s => h σ H' r s.stp
  | ok a g' => rw [q] at h; exact fun H' r s => RunS.from s.stp h
theorem RunS.seq {m n : Gam → Flow} (h : RunS K W σ g H (seqF m n g) D) : RunS K W σ g H (m g) { D with nx := tS K W n D } := by
  unfold seqF at h
  cases q : m g with
  | next g' => rw [q] at h; exact fun σ' H' r s => ⟨g', r, RunS.from s h⟩
  | ret ev g' => rw [q] at h; exact h
  | brk g' => rw [q] at h; exact h
  | cont g' => rw [q] at h; exact h
  | exc c g' => rw [q] at h; exact h
  | bad => rw [q] at h; exact h
/-! ### stores -/
theorem ix_lt {α : Type} {l : List α} {i : Nat} {x : α} (e : l[i]? = some x) : i < l.length := by
  by_cases q : i < l.length
  · exact q
  · rw [List.getElem?_eq_none (by omega)] at e; cases e
theorem store_is {i : Nat} {s : Slot} (h : store i s g = some g1) : g1 = g.set i s ∧ i < g.length ∧ ∀ k xs, g[i]? = some (.own k xs) → k = .mine := by
  unfold store at h
  cases e : g[i]? with
  | none => rw [e] at h; cases h
  | some sl =>
    rw [e] at h
    have hi := ix_lt e
    cases sl with
    | no => cases h; exact ⟨rfl, hi, fun k xs z => by cases z⟩
    | val d => cases h; exact ⟨rfl, hi, fun k xs z => by cases z⟩
    | own k xs => cases k <;> cases h; exact ⟨rfl, hi, fun k xs z => by cases z; rfl⟩
theorem store_val {i : Nat} {d : DK.D} (h : store i (.val d) g = some g1) (r : Rel K H σ g) (f : Fz K H v d) : Rel K H (σ.set i (some v)) g1 ∧ Stp σ g H (σ.set i (some v)) g1 H := by
  obtain ⟨rfl, hi, hm⟩ := store_is h
  have hs : i < σ.length := by rw [← r.len]; exact hi
  have ow : ∀ {j : Nat} {k : Kd} {xs : List DK.D}, (g.set i (.val d))[j]? = some (.own k xs) → j ≠ i ∧ g[j]? = some (.own k xs) := fun {j k xs} e => by
    by_cases hj : j = i
    · subst hj; rw [List.getElem?_set_self hi] at e; cases e
    · rw [List.getElem?_set_ne (Ne.symm hj)] at e; exact ⟨hj, e⟩
  have sg : ∀ {j : Nat}, j ≠ i → (σ.set i (some v))[j]? = σ[j]? := fun hj => by rw [List.getElem?_set_ne (Ne.symm hj)]
  refine ⟨⟨by rw [List.length_set, List.length_set]; exact r.len, fun j d' e => ?_, fun j k xs e => ?_, fun j l k k' xs ys a e1 e2 z1 z2 => ?_⟩, ⟨fun _ _ e _ => e, .refl, fun _ e => e, fun j k xs a e z => ?_, fun j k xs e n => ?_⟩⟩
  · by_cases hj : j = i
    · subst hj
      rw [List.getElem?_set_self hi] at e; cases e
      exact ⟨v, List.getElem?_set_self hs, f⟩
    · rw [List.getElem?_set_ne (Ne.symm hj)] at e
      rw [sg hj]; exact r.val j d' e
  · obtain ⟨hj, e⟩ := ow e
    rw [sg hj]; exact r.own j k xs e
  · obtain ⟨h1, e1⟩ := ow e1
    obtain ⟨h2, e2⟩ := ow e2
    rw [sg h1] at z1; rw [sg h2] at z2
    exact r.inj j l k k' xs ys a e1 e2 z1 z2
  · obtain ⟨hj, e⟩ := ow e
    rw [sg hj] at z
    exact .inr ⟨j, xs, e, z⟩
  · have hj : j ≠ i := fun q => by subst q; exact n (hm k xs e)
    exact ⟨xs, by rw [List.getElem?_set_ne (Ne.symm hj)]; exact e, fun _ => rfl, sg hj⟩
theorem store_own {i : Nat} {xs : List DK.D} {a : Addr} {vs : List V} (h : store i (.own .mine xs) g = some g1) (r : Rel K H σ g) (ha : H a = some (.lst vs)) (f : FzA K H vs xs) (no : ¬ Ow σ g a) {σ0 : L2.St} {g0 : Gam} {H0 : Hp} (s0 : Stp σ0 g0 H0 σ g H) (fr : H0 a = none) :
    Rel K H (σ.set i (some (.ref a))) g1 ∧ Stp σ0 g0 H0 (σ.set i (some (.ref a))) g1 H := by
  obtain ⟨rfl, hi, hm⟩ := store_is h
  have hs : i < σ.length := by rw [← r.len]; exact hi
  have sg : ∀ {j : Nat}, j ≠ i → (σ.set i (some (.ref a)))[j]? = σ[j]? := fun hj => by rw [List.getElem?_set_ne (Ne.symm hj)]
  have gg : ∀ {j : Nat}, j ≠ i → (g.set i (.own .mine xs))[j]? = g[j]? := fun hj => by rw [List.getElem?_set_ne (Ne.symm hj)]
  refine ⟨⟨by rw [List.length_set, List.length_set]; exact r.len, fun j d' e => ?_, fun j k ys e => ?_, fun j l k k' xs' ys b e1 e2 z1 z2 => ?_⟩, ⟨s0.ext, s0.kp, s0.dom, fun j k ys b e z => ?_, fun j k ys e n => ?_⟩⟩
  · by_cases hj : j = i
    · subst hj; rw [List.getElem?_set_self hi] at e; cases e
    · rw [gg hj] at e; rw [sg hj]; exact r.val j d' e
  · by_cases hj : j = i
    · subst hj
      rw [List.getElem?_set_self hi] at e; cases e
      exact ⟨a, vs, List.getElem?_set_self hs, ha, f⟩
    · rw [gg hj] at e; rw [sg hj]; exact r.own j k ys e
  · by_cases hj : j = i
    · by_cases hl : l = i
      · rw [hj, hl]
      · exfalso
        subst hj
        rw [List.getElem?_set_self hs] at z1; cases z1
        rw [gg hl] at e2; rw [sg hl] at z2
        exact no ⟨l, k', ys, e2, z2⟩
    · by_cases hl : l = i
      · exfalso
        subst hl
        rw [List.getElem?_set_self hs] at z2; cases z2
        rw [gg hj] at e1; rw [sg hj] at z1
        exact no ⟨j, k, xs', e1, z1⟩
      · rw [gg hj] at e1; rw [gg hl] at e2; rw [sg hj] at z1; rw [sg hl] at z2
        exact r.inj j l k k' xs' ys b e1 e2 z1 z2
  · by_cases hj : j = i
    · subst hj
      rw [List.getElem?_set_self hs] at z; cases z
      exact .inl fr
    · rw [gg hj] at e; rw [sg hj] at z
      exact s0.sub j k ys b e z
  · obtain ⟨zs, q1, q2, q3⟩ := s0.stay j k ys e n
    have hj : j ≠ i := fun w => by subst w; exact n (hm k zs q1)
    exact ⟨zs, by rw [gg hj]; exact q1, q2, by rw [sg hj]; exact q3⟩
end
theorem frz_slot {K : PySem.W.Frag} {H H1 : Hp} {σ : L2.St} {g g1 : Gam} {i : Nat} {xs : List DK.D} {a : Addr} {vs : List V} {o : Obj} (r1 : Rel K H1 σ g1) (s1 : StE σ g H g1 H1) (e : g1[i]? = some (.own .mine xs)) (hv : σ[i]? = some (some (.ref a))) (ha : H1 a = some (.lst vs)) (hf : FzA K H1 vs xs) :
    Rel K (upd H1 a (.frz o (.lst vs))) σ (g1.set i (.val (.list xs))) ∧ StE σ g H (g1.set i (.val (.list xs))) (upd H1 a (.frz o (.lst vs))) ∧ Fz K (upd H1 a (.frz o (.lst vs))) (.ref a) (.list xs) := by
  have k2 : Kp H1 (upd H1 a (.frz o (.lst vs))) := Kp.frz ha
  have hi : i < g1.length := by
    by_cases z : i < g1.length
    · exact z
    · rw [List.getElem?_eq_none (by omega)] at e; cases e
  obtain ⟨ys0, e0⟩ := s1.shr i _ xs e
  have fz : Fz K (upd H1 a (.frz o (.lst vs))) (.ref a) (.list xs) := .lst (.inl ⟨o, upd_same⟩) (hf.mono k2)
  have nv : ∀ (j : Nat) (k : Kd) (ys : List DK.D), j ≠ i → g1[j]? = some (.own k ys) → σ[j]? ≠ some (some (.ref a)) := fun j k ys hj ej z => hj (r1.inj j i k _ ys xs a ej e z hv)
  have gg : ∀ {j : Nat}, j ≠ i → (g1.set i (.val (.list xs)))[j]? = g1[j]? := fun hj => by rw [List.getElem?_set_ne (Ne.symm hj)]
  have ow : ∀ {j : Nat} {k : Kd} {zs : List DK.D}, (g1.set i (.val (.list xs)))[j]? = some (.own k zs) → j ≠ i ∧ g1[j]? = some (.own k zs) := fun {j k zs} ej => by
    by_cases hj : j = i
    · subst hj; rw [List.getElem?_set_self hi] at ej; cases ej
    · rw [gg hj] at ej; exact ⟨hj, ej⟩
  refine ⟨⟨by rw [List.length_set]; exact r1.len, fun j d ej => ?_, fun j k ys ej => ?_, fun j l k k' xs' ys' b e1 e2 => r1.inj j l k k' xs' ys' b (ow e1).2 (ow e2).2⟩,
    ⟨fun b u eb n => ?_, s1.kp.trans k2, fun b eb => ?_, fun j k ys ej => s1.shr j k ys (ow ej).2, fun j k ys ej hk => ?_, fun j d ej => ?_, by rw [List.length_set]; exact s1.lenE⟩, fz⟩
  · by_cases hj : j = i
    · subst hj
      rw [List.getElem?_set_self hi] at ej; cases ej
      exact ⟨.ref a, hv, fz⟩
    · rw [gg hj] at ej
      obtain ⟨w, h1, h2⟩ := r1.val j d ej
      exact ⟨w, h1, h2.mono k2⟩
  · obtain ⟨hj, ej⟩ := ow ej
    obtain ⟨b, ws, h1, h2, h3⟩ := r1.own j k ys ej
    exact ⟨b, ws, h1, by rw [upd_ne (show b ≠ a from fun z => nv j k ys hj ej (z ▸ h1))]; exact h2, h3.mono k2⟩
  · have hb : b ≠ a := fun z => n ⟨i, .mine, ys0, e0, (fun q => by cases q), z ▸ hv⟩
    rw [upd_ne hb]
    exact s1.ext b u eb n
  · by_cases z : b = a
    · subst z; rw [upd_same]; exact fun q => nomatch q
    · rw [upd_ne z]; exact s1.dom b eb
  · obtain ⟨zs, e1, h1⟩ := s1.stay j k ys ej hk
    have hj : j ≠ i := fun z => by subst z; rw [e] at e1; cases e1; exact hk rfl
    exact ⟨zs, by rw [gg hj]; exact e1, h1⟩
  · have e1 := s1.vals j d ej
    have hj : j ≠ i := fun z => by subst z; rw [e] at e1; cases e1
    rw [gg hj]; exact e1
section
variable {X : Cx} {W : Nat → L2.St → Hp → Prop} {st : Stmt} {sts : List Stmt} {e c : Expr} {m : Ev EV} {pos : Pos} {m1 m2 : Gam → Flow}
theorem ss_nil : PSs X [] (tS X.K W fun g => .next g) := pss_nil.imp fun D σ H h => by
  obtain ⟨g, r, h⟩ := h
  exact h σ H r .refl
theorem ss_cons (h1 : PS X st (tS X.K W m1)) (h2 : PSs X sts (tS X.K W m2)) : PSs X (st :: sts) (tS X.K W (seqF m1 m2)) := (pss_cons h1 h2).imp fun D σ H h => by
  obtain ⟨g, r, h⟩ := h
  exact ⟨g, r, h.seq⟩
theorem ss_pass : PS X (.Pass pos) (tS X.K W fun g => .next g) := ps_pass.imp fun D σ H h => by
  obtain ⟨g, r, h⟩ := h
  exact h σ H r .refl
theorem ss_break : PS X (.Break pos) (tS X.K W fun g => .brk g) := ps_break.imp fun D σ H h => by
  obtain ⟨g, r, h⟩ := h
  exact h σ H r .refl
theorem ss_cont : PS X (.Continue pos) (tS X.K W fun g => .cont g) := ps_continue.imp fun D σ H h => by
  obtain ⟨g, r, h⟩ := h
  exact h σ H r .refl
theorem ss_expr (he : PE X e (tM X.K W m)) (hs : swapsWith e none pos.line X.env = pure false) : PS X (.Expr e pos) (tS X.K W (runE m fun _ g => .next g)) := (ps_expr he hs).imp fun D σ H h => by
  obtain ⟨g, r, h⟩ := h
  exact ⟨g, r, h.runE.mono fun ev g1 H1 r1 s1 h v _ _ => h σ H1 r1 .refl⟩
theorem ss_ret (he : PE X e (tM X.K W m)) : PS X (.Return (some e) pos) (tS X.K W (runE m retF)) := (ps_ret he).imp fun D σ H h => by
  obtain ⟨g, r, h⟩ := h
  unfold runE at h
  refine ⟨g, r, ?_⟩
  cases q : m g with
  | bad => rw [q] at h; exact h
  | exc c g' => rw [q] at h; exact fun H' r s => h σ H' r s.stp
  | ok ev g1 =>
    rw [q] at h
    intro H1 r1 s1 v hv hf
    cases ev with
    | val d => exact h v σ H1 r1 s1.stp hv
    | own xs =>
      obtain ⟨a, vs, rfl, h1, h2, _⟩ := hv
      exact h _ σ H1 r1 s1.stp ⟨a, vs, rfl, h1, h2, .inl (hf a rfl)⟩
    | bor i =>
      have h : RunS X.K W σ g H (retF (.bor i) g1) D := h
      unfold retF at h
      dsimp only at h
      cases e : g1[i]? with
      | none => rw [e] at h; exact h.elim
      | some sl =>
        rw [e] at h
        cases sl with
        | no => exact h.elim
        | val _ => exact h.elim
        | own k xs =>
          cases k with
          | loan => exact h.elim
          | lock => exact h.elim
          | mine =>
            obtain ⟨a, vs, z, h1, h2⟩ := r1.own i _ xs e
            have hv : σ[i]? = some (some v) := hv
            rw [hv] at z; cases z
            obtain ⟨ys, e0⟩ := s1.shr i _ xs e
            have hi := ix_lt e
            have ow : ∀ {j : Nat} {k : Kd} {xs' : List DK.D}, (g1.set i .no)[j]? = some (.own k xs') → j ≠ i ∧ g1[j]? = some (.own k xs') := fun {j k xs'} ej => by
              by_cases hj : j = i
              · subst hj; rw [List.getElem?_set_self hi] at ej; cases ej
              · rw [List.getElem?_set_ne (Ne.symm hj)] at ej; exact ⟨hj, ej⟩
            refine h (.ref a) σ H1 ⟨by rw [List.length_set]; exact r1.len, fun j d ej => ?_, fun j k zs ej => r1.own j k zs (ow ej).2, fun j l k k' xs' ys' b e1 e2 => r1.inj j l k k' xs' ys' b (ow e1).2 (ow e2).2⟩
              ⟨s1.ext, s1.kp, s1.dom, fun j k zs b ej z => s1.stp.sub j k zs b (ow ej).2 z, fun j k zs ej n => ?_⟩ ⟨a, vs, rfl, h1, h2, .inr ⟨i, ys, e0, hv⟩⟩
            · by_cases hj : j = i
              · subst hj; rw [List.getElem?_set_self hi] at ej; cases ej
              · rw [List.getElem?_set_ne (Ne.symm hj)] at ej; exact r1.val j d ej
            · obtain ⟨us, q1, q2⟩ := s1.stay j k zs ej n
              have hj : j ≠ i := fun w => by subst w; rw [e] at q1; cases q1; exact n rfl
              exact ⟨us, by rw [List.getElem?_set_ne (Ne.symm hj)]; exact q1, q2, rfl⟩
theorem ss_retN : PS X (.Return none pos) (tS X.K W (runE (pur (.val .none)) retF)) := ps_retN.imp fun D σ H h => by
  obtain ⟨g, r, h⟩ := h
  exact h .non σ H r .refl .non
theorem ss_if {a b : List Stmt} {mt : Ev Bool} (hc : PT X c (tT X.K W mt)) (ha : PSs X a (tS X.K W m1)) (hb : PSs X b (tS X.K W m2)) : PS X (.If c a b pos) (tS X.K W (runE mt fun k => if k then m1 else m2)) := (ps_if hc ha hb).imp fun D σ H h => by
  obtain ⟨g, r, h⟩ := h
  refine ⟨g, r, h.runE.mono fun k g1 H1 r1 s1 h => ?_⟩
  cases k with
  | true => exact ⟨g1, r1, h⟩
  | false => exact ⟨g1, r1, h⟩
theorem ss_set {i : Nat} {x : Str} {py : Pos} (frz : Bool) (h : PS X (.Assign [.Name x py] e pos) (tAsg (tM X.K W m) (gName i))) : PS X (.Assign [.Name x py] e pos) (tS X.K W (runE m (setF i frz))) := by
  refine ⟨fun pins s σ H D I hq => ?_⟩
  obtain ⟨g, r, hr⟩ := hq
  unfold runE at hr
  cases q : m g with
  | bad => rw [q] at hr; exact hr.elim
  | exc c g' =>
    rw [q] at hr
    exact h.run pins s σ H D I ⟨g, r, by rw [q]; exact fun H' r s => hr σ H' r s.stp⟩
  | ok ev g1 =>
    rw [q] at hr
    have hr : RunS X.K W σ g H (setF i frz ev g1) D := hr
    refine thn (h.run pins s σ H { D with nx := fun σ1 H1 => ∃ v, σ1 = σ.set i (some v) ∧ Rel X.K H1 σ g1 ∧ StE σ g H g1 H1 ∧ RV X.K H1 σ g1 v ev ∧ Fr H v ev } I ⟨g, r, by rw [q]; exact fun H1 r1 s1 v hv hf => ⟨v, rfl, r1, s1, hv, hf⟩⟩) fun f s1 hf => ?_
    cases f with
    | ret u => exact hf
    | brk => exact hf
    | cont => exact hf
    | next =>
      obtain ⟨σ1, H1, I1, v, rfl, r1, s1', hv, hfr⟩ := hf
      show ∃ σ' H', L2.Inv X pins σ' H' s1 ∧ D.nx σ' H'
      cases ev with
      | val d =>
        unfold setF at hr
        dsimp only at hr
        cases e : store i (.val d) g1 with
        | none => rw [e] at hr; exact hr.elim
        | some g2 =>
          rw [e] at hr
          obtain ⟨r2, s2⟩ := store_val (v := v) e r1 hv
          exact ⟨_, _, I1, hr _ H1 r2 (s1'.stp.trans s2)⟩
      | own xs =>
        obtain ⟨a, vs, rfl, ha, hfz, nw⟩ := hv
        have hn : H a = none := hfr a rfl
        unfold setF at hr
        dsimp only at hr
        cases frz with
        | false =>
          cases e : store i (.own .mine xs) g1 with
          | none => rw [if_neg Bool.false_ne_true, e] at hr; exact hr.elim
          | some g2 =>
            rw [if_neg Bool.false_ne_true, e] at hr
            obtain ⟨r2, s2⟩ := store_own e r1 ha hfz nw s1'.stp hn
            exact ⟨_, _, I1, hr _ H1 r2 s2⟩
        | true =>
          cases e : store i (.val (.list xs)) g1 with
          | none => rw [if_pos rfl, e] at hr; exact hr.elim
          | some g2 =>
            rw [if_pos rfl, e] at hr
            obtain ⟨o, I2⟩ := I1.lock ha trivial
            have k2 : Kp H1 (upd H1 a (.frz o (.lst vs))) := Kp.frz ha
            have r1' : Rel X.K (upd H1 a (.frz o (.lst vs))) σ g1 := ⟨r1.len, fun i d e => let ⟨w, h1, h2⟩ := r1.val i d e; ⟨w, h1, h2.mono k2⟩, fun i k ys e => by
              obtain ⟨b, ws, h1, h2, h3⟩ := r1.own i k ys e
              exact ⟨b, ws, h1, by rw [upd_ne (show b ≠ a from fun z => nw ⟨i, k, ys, e, z ▸ h1⟩)]; exact h2, h3.mono k2⟩, r1.inj⟩
            have s1'' : StE σ g H g1 (upd H1 a (.frz o (.lst vs))) := ⟨fun b u e n => by
              rw [upd_ne (show b ≠ a from fun z => by rw [z, hn] at e; cases e)]
              exact s1'.ext b u e n, s1'.kp.trans k2, fun b e => by
              by_cases z : b = a
              · subst z; exact absurd hn e
              · rw [upd_ne z]; exact s1'.dom b e, s1'.shr, s1'.stay, s1'.vals, s1'.lenE⟩
            obtain ⟨r2, s2⟩ := store_val (v := .ref a) e r1' (.lst (.inl ⟨o, upd_same⟩) (hfz.mono k2))
            exact ⟨_, _, I2, hr _ _ r2 (s1''.stp.trans s2)⟩
      | bor j =>
        unfold setF at hr
        dsimp only at hr
        cases e : g1[j]? with
        | none => rw [e] at hr; exact hr.elim
        | some sl =>
          rw [e] at hr
          cases sl with
          | no => exact hr.elim
          | val _ => exact hr.elim
          | own k xs =>
            cases k with
            | loan => exact hr.elim
            | lock => exact hr.elim
            | mine =>
              dsimp only at hr
              cases e2 : store i (.val (.list xs)) (g1.set j (.val (.list xs))) with
              | none => rw [e2] at hr; exact hr.elim
              | some g2 =>
                rw [e2] at hr
                obtain ⟨a, vs, h1, ha, hfz⟩ := r1.own j _ xs e
                have hv' : σ[j]? = some (some v) := hv
                rw [hv'] at h1; cases h1
                obtain ⟨o, I2⟩ := I1.lock ha trivial
                obtain ⟨r3, s3, f3⟩ := frz_slot r1 s1' e hv' ha hfz (o := o)
                obtain ⟨r2, s2⟩ := store_val (v := .ref a) e2 r3 f3
                exact ⟨_, _, I2, hr _ _ r2 (s3.stp.trans s2)⟩
end
end DK
end
section
set_option maxRecDepth 100000
set_option maxHeartbeats 4000000
namespace DK
open PySem L2 PySem.Spec PyProof.Rows
/-! ### targets -/
def tG (K : PySem.W.Frag) (t : Tg) : TG := fun v σ H Q => ∃ g d g', Rel K H σ g ∧ Fz K H v d ∧ assignT t d g = some g' ∧ ∀ σ', Rel K H σ' g' → Stp σ g H σ' g' H → (∀ l, l ∉ tgNames t → σ'[l]? = σ[l]?) → Q σ' H
def tGs (K : PySem.W.Frag) (ts : List Tg) : TGs := fun vs σ H Q => ∃ g ds g', Rel K H σ g ∧ FzA K H vs ds ∧ assignTs ts ds g = some g' ∧ ∀ σ', Rel K H σ' g' → Stp σ g H σ' g' H → (∀ l, l ∉ tgNamesL ts → σ'[l]? = σ[l]?) → Q σ' H
theorem _root_.L2.PG.imp {X : Cx} {tg : Expr} {t t' : TG} (h : PG X tg t) (f : ∀ v σ H Q, t' v σ H Q → t v σ H Q) : PG X tg t' := ⟨fun pins s σ H v u Q I r q => h.run pins s σ H v u Q I r (f v σ H Q q)⟩
theorem _root_.L2.PGs.imp {X : Cx} {tg : List Expr} {t t' : TGs} (h : PGs X tg t) (f : ∀ v σ H Q, t' v σ H Q → t v σ H Q) : PGs X tg t' := ⟨fun pins s σ H v u Q I r q => h.run pins s σ H v u Q I r (f v σ H Q q)⟩
section
variable {X : Cx} {W : Nat → L2.St → Hp → Prop} {e c : Expr} {m : Ev EV} {pos : Pos} {m1 m2 : Gam → Flow}
theorem sg_name {i : Nat} {x : Str} (hN : X.N.Nodup) (hi : X.N[i]? = some x) (hx : Loc X.env.scope x) (hf : X.fn x = true ∨ X.env.scope.names.lookup x = some .local) : PG X (.Name x pos) (tG X.K (.name i)) :=
  (pg_name hN hi hx hf).imp fun v σ H Q h => by
    obtain ⟨g, d, g', r, f, e, q⟩ := h
    obtain ⟨r2, s2⟩ := store_val (v := v) (show store i (.val d) g = some g' from e) r f
    refine q _ r2 s2 fun l hl => ?_
    have : l ≠ i := fun z => hl (by simp [tgNames, z])
    rw [List.getElem?_set_ne (Ne.symm this)]
theorem sgs_nil : PGs X [] (tGs X.K []) := pgs_nil.imp fun vs σ H Q h => by
  obtain ⟨g, ds, g', r, f, e, q⟩ := h
  cases ds with
  | nil =>
    cases f
    cases e
    exact ⟨rfl, q σ r .refl fun _ _ => rfl⟩
  | cons d ds => cases e
theorem sgs_cons {es : List Expr} {t : Tg} {ts : List Tg} (h1 : PG X e (tG X.K t)) (h2 : PGs X es (tGs X.K ts)) (hs : (assignEach (e :: es) X.env).map (·.2) = assign e X.env :: (assignEach es X.env).map (·.2)) : PGs X (e :: es) (tGs X.K (t :: ts)) :=
  (pgs_cons h1 h2 hs).imp fun vs σ H Q h => by
    obtain ⟨g, ds, g', r, f, e, q⟩ := h
    cases ds with
    | nil => cases e
    | cons d ds =>
      cases f with
      | cons f1 f2 =>
        unfold assignTs at e
        cases e1 : assignT t d g with
        | none => rw [e1] at e; cases e
        | some g1 =>
          rw [e1] at e
          refine ⟨_, _, rfl, g, d, g1, r, f1, e1, fun σ1 r1 s1 n1 => ⟨g1, ds, g', r1, f2, e, fun σ2 r2 s2 n2 => q σ2 r2 (s1.trans s2) fun l hl => ?_⟩⟩
          have h1 : l ∉ tgNames t := fun z => hl (by simp [tgNamesL, z])
          have h2 : l ∉ tgNamesL ts := fun z => hl (by simp [tgNamesL, z])
          rw [n2 l h2, n1 l h1]
theorem assignTs_len : ∀ {ts : List Tg} {ds : List D} {g g' : Gam}, assignTs ts ds g = some g' → ts.length = ds.length
  | [], [], _, _, _ => rfl
  | [], _ :: _, _, _, h => by cases h
  | _ :: _, [], _, _, h => by cases h
  | t :: ts, d :: ds, g, g', h => by
    unfold assignTs at h
    cases e1 : assignT t d g with
    | none => rw [e1] at h; cases h
    | some g1 => rw [e1] at h; rw [List.length_cons, List.length_cons, assignTs_len h]
theorem sg_tup {es : List Expr} {k : Nat} {ts : List Tg} (hc : X.calm = true) (h : PGs X es (tGs X.K ts)) (hn : (assignEach es X.env).length = ts.length) (hst : (assignEach es X.env).findIdx? (·.1) = none) : PG X (.Tuple es k pos) (tG X.K (.tup ts)) :=
  (pg_tup hc h hn hst).imp fun v σ H Q h => by
    obtain ⟨g, d, g', r, f, e, q⟩ := h
    cases d <;> try cases e
    rename_i ds
    have e : assignTs ts ds g = some g' := e
    obtain ⟨a, xs, rfl, s, f⟩ := f.tup_inv
    exact ⟨a, xs, rfl, s.sqt, by rw [f.length]; exact (assignTs_len e).symm, g, ds, g', r, f, e, fun σ' r' s' n' => q σ' r' s' fun l hl => n' l (by simpa [tgNames] using hl)⟩
theorem ss_sett {tg : Expr} {t : Tg} (he : PE X e (tM X.K W m)) (hg : PG X tg (tG X.K t)) (hs : swapsWithSole [tg] e pos.line X.env = pure false) (hw : swappedStores [tg] e X.env = pure none) (h1 : (assignEach [tg] X.env).map (·.2) = [assign tg X.env]) :
    PS X (.Assign [tg] e pos) (tS X.K W (runE (bnd m freeze) (setT t))) := (ps_asg (pe_frz he) hg hs hw h1).imp fun D σ H h => by
  obtain ⟨g, r, h⟩ := h
  refine ⟨g, r, h.runE.mono fun d g1 H1 r1 s1 h v f => ?_⟩
  unfold setT at h
  cases e : assignT t d g1 with
  | none => rw [e] at h; exact h.elim
  | some g2 => rw [e] at h; exact ⟨g1, d, g2, r1, f, e, fun σ' r' s' _ => h σ' H1 r' s'⟩
theorem ss_par {i j : Nat} {x y : Str} {a b : Expr} {ma : Ev (List D)} {px py pt : Pos} {kt k2 : Nat} {pt2 : Pos} (hc : X.calm = true) (hN : X.N.Nodup) (hi : X.N[i]? = some x) (hj : X.N[j]? = some y) (hij : i ≠ j)
    (hx : X.env.scope.names.lookup x = some .local) (hy : X.env.scope.names.lookup y = some .local) (ha : PA X [a, b] (tAF X.K W ma))
    (hw : swappedStores [.Tuple [.Name x px, .Name y py] kt pt] (.Tuple [a, b] k2 pt2) X.env = pure (some [x, y])) (hs : swapsWithSole [.Tuple [.Name x px, .Name y py] kt pt] (.Tuple [a, b] k2 pt2) pos.line X.env = pure false) :
    PS X (.Assign [.Tuple [.Name x px, .Name y py] kt pt] (.Tuple [a, b] k2 pt2) pos) (tS X.K W (runE (bnd (bnd ma fun ds => if ds.length ≤ lim then pur (.val (.tuple ds)) else bad) freeze) (setT (.tup [.name i, .name j])))) :=
  (ps_par hc hN hi hj hij hx hy ha hw hs).imp fun D σ H h => by
    obtain ⟨g, r, h⟩ := h
    have h := h.runE
    rw [bnd_assoc] at h
    refine ⟨g, r, h.bnd.mono fun ds g1 H1 r1 s1 h vs f => ?_⟩
    by_cases c : ds.length ≤ lim
    · rw [if_pos c] at h
      have hh : RunS X.K W σ g1 H1 (setT (.tup [.name i, .name j]) (.tuple ds) g1) D := h H1 r1 .refl
      unfold setT at hh
      cases e : assignT (.tup [.name i, .name j]) (.tuple ds) g1 with
      | none => rw [e] at hh; exact hh.elim
      | some g2 =>
        rw [e] at hh
        have e : assignTs [.name i, .name j] ds g1 = some g2 := e
        match ds, f, e with
        | [], _, e => cases e
        | [_], _, e => unfold assignTs at e; split at e <;> cases e
        | [d1, d2], f, e =>
          cases f with
          | cons f1 f2 =>
            cases f2 with
            | cons f2 f3 =>
              cases f3
              unfold assignTs at e
              cases e1 : assignT (.name i) d1 g1 with
              | none => rw [e1] at e; cases e
              | some g3 =>
                rw [e1] at e
                unfold assignTs at e
                dsimp only at e
                cases e2 : assignT (.name j) d2 g3 with
                | none => rw [e2] at e; cases e
                | some g4 =>
                  rw [e2] at e
                  cases e
                  obtain ⟨r3, s3⟩ := store_val (show store i (.val d1) g1 = some g3 from e1) r1 f1
                  obtain ⟨r4, s4⟩ := store_val (show store j (.val d2) g3 = some g2 from e2) r3 f2
                  exact ⟨_, _, rfl, hh _ H1 r4 (s3.trans s4)⟩
        | d1 :: d2 :: d3 :: r, _, e =>
          exfalso
          have := assignTs_len e
          simp at this
    · rw [if_neg c] at h; exact h.elim
/-! ### x op= e -/
theorem aug_ok (o : Bop) : PIp X (bopOf o) (fun v w H Q => ∃ x y d, Cv X.K H v x ∧ Cv X.K H w y ∧ augD o x y = some d ∧ ∀ u, Fz X.K H u d → Q u H) := by
  intro pins s σ H v w vv ww Q I rv rw' h
  obtain ⟨x, y, d, cx, cy, e, q⟩ := h
  have hs : sizeLine = lim := sizeLine_eq
  cases x <;> try cases e
  · rename_i a
    cases y <;> try cases e
    rename_i b
    cases cx.int; cases cy.int
    cases o with
    | add => cases e; exact iop_add pins s σ H _ _ vv ww Q I rv rw' ⟨a, b, rfl, rfl, q _ (.int _)⟩
    | sub => cases e; exact iop_sub pins s σ H _ _ vv ww Q I rv rw' ⟨a, b, rfl, rfl, q _ (.int _)⟩
    | mul =>
      obtain ⟨c, e'⟩ := ifS e
      cases e'
      obtain ⟨t, rfl⟩ := rv
      obtain ⟨t', rfl⟩ := rw'
      exact imul_int ⟨.int _, H, I.tok _, ⟨_, rfl⟩, q _ (.int _)⟩ (CMulW.ok c)
    | div =>
      obtain ⟨c, e'⟩ := ifS e
      cases e'
      exact iop_fdivW pins s σ H _ _ vv ww Q I rv rw' ⟨a, b, rfl, rfl, c, q _ (.int _)⟩
    | mod =>
      obtain ⟨c, e'⟩ := ifS e
      cases e'
      exact iop_mod pins s σ H _ _ vv ww Q I rv rw' ⟨a, b, rfl, rfl, c, q _ (.int _)⟩
    | bor => cases e; exact iop_or pins s σ H _ _ vv ww Q I rv rw' ⟨a, b, rfl, rfl, q _ (.int _)⟩
    | shl => cases e
    | shr => cases e
  · rename_i a
    cases y <;> try cases e
    rename_i b
    cases o <;> try cases e
    obtain ⟨c, e'⟩ := ifS e
    cases e'
    cases cx.str; cases cy.str
    exact iop_add_str pins s σ H _ _ vv ww Q I rv rw' ⟨a, b, rfl, rfl, by rw [hs]; exact c, q _ (.str _)⟩
def mAug (i : Nat) (o : Bop) (m : Ev EV) : Gam → Flow := fun g => match g[i]? with
  | some (.val x) => runE m (fun y => runE (content y) fun y g => match augD o x y with
    | some d => match store i (.val d) g with | some g' => .next g' | none => .bad
    | none => .bad) g
  | _ => .bad
theorem bnd_pur {α : Type} (m : Ev α) : bnd m pur = m := by
  funext g
  unfold bnd pur
  cases m g <;> rfl
theorem ss_aug {i : Nat} {x : Str} {o : Bop} {pos' : Pos} (hN : X.N.Nodup) (hi : X.N[i]? = some x) (hx : Loc X.env.scope x) (hf : X.fn x = true ∨ X.env.scope.names.lookup x = some .local) (he : PE X e (tM X.K W m)) :
    PS X (.AugAssign (.Name x pos') (bopOf o) e pos) (tS X.K W (mAug i o m)) := (ps_aug hN hi hx he (aug_ok o) hf).imp fun D σ H h => by
  obtain ⟨g, r, h⟩ := h
  unfold mAug at h
  cases e : g[i]? with
  | none => rw [e] at h; exact h.elim
  | some sl =>
    rw [e] at h
    cases sl with
    | no => exact h.elim
    | own _ _ => exact h.elim
    | val d =>
      obtain ⟨v, ev, fv⟩ := r.val i d e
      refine ⟨v, ev, g, r, h.runE.mono fun y g1 H1 r1 s1 h w hw _ => ?_⟩
      have h := RunS.runE h
      rw [← bnd_pur (content y)] at h
      obtain ⟨d2, e2, cw, h⟩ := hw.content r1 h
      have h := h.pure r1
      cases e3 : augD o d d2 with
      | none => rw [e3] at h; exact h.elim
      | some d3 =>
        rw [e3] at h
        dsimp only at h
        cases e4 : store i (.val d3) g1 with
        | none => rw [e4] at h; exact h.elim
        | some g2 =>
          rw [e4] at h
          refine ⟨d, d2, d3, .inl (fv.mono s1.kp), cw, e3, fun u fu => ?_⟩
          obtain ⟨r2, s2⟩ := store_val (v := u) e4 r1 fu
          exact h _ H1 r2 s2
end
end DK
end
section
set_option maxRecDepth 100000
set_option maxHeartbeats 4000000
namespace DK
open PySem L2 PySem.Spec PyProof.Rows
section
variable {X : Cx} {W : Nat → L2.St → Hp → Prop} {e c : Expr} {m : Ev EV} {pos : Pos} {m1 m2 : Gam → Flow}
/-! ### xs[i] = e -/
def mSetix (i : Nat) (mx me : Ev EV) : Gam → Flow := runE (bnd me freeze) fun d g => match g[i]? with
    | some (.own _ _) => runE (bnd mx content) (setIx i d) g
    | _ => .bad
theorem pe_cont {m : Ev EV} (h : PE X e (tM X.K W m)) : PE X e (fun σ H Q => ∃ g, Rel X.K H σ g ∧ Run X.K W σ g H (bnd m content g) fun d g' H' => ∀ v, Cv X.K H' v d → Q v H') := h.imp fun σ H Q h => by
  obtain ⟨g, r, h⟩ := h
  refine ⟨g, r, h.bnd.mono fun x g1 H1 r1 s1 h v hv _ => ?_⟩
  rw [← bnd_pur (content x)] at h
  obtain ⟨d2, e2, cw, h⟩ := hv.content r1 h
  exact h.pure r1 v cw
theorem ss_setix {i : Nat} {x : Str} {p p2 : Pos} {ix : Expr} {mx : Ev EV} (hN : X.N[i]? = some x) (hv : Vis X.env.scope x) (hd : (x == ("__debug__" : Str)) = false) (hcd : (x == ("__classdict__" : Str)) = false)
    (he : PE X e (tM X.K W m)) (hx : PE X ix (tM X.K W mx))
    (ha : ∀ v, assign (.Subscript (.Name x p) ix p2) X.env v = (do
      let ov ← holding [v] (eval (.Name x p) X.env)
      let iv ← holding [v, ov] (eval ix X.env)
      standAt p2
      holding [v, ov, iv] (setItem ov iv v)
      release [v, ov, iv] []))
    (hs : swapsWithSole [.Subscript (.Name x p) ix p2] e pos.line X.env = pure false) (hw : swappedStores [.Subscript (.Name x p) ix p2] e X.env = pure none) (h1 : (assignEach [.Subscript (.Name x p) ix p2] X.env).map (·.2) = [assign (.Subscript (.Name x p) ix p2) X.env]) :
    PS X (.Assign [.Subscript (.Name x p) ix p2] e pos) (tS X.K W (mSetix i mx m)) :=
  (ps_asg (pe_frz he) (pg_sub (pe_var (i := i) hN hv hd hcd) (pe_cont hx) set_list ha) hs hw h1).imp fun D σ H h => by
    obtain ⟨g, r, h⟩ := h
    refine ⟨g, r, h.runE.mono fun d g1 H1 r1 s1 h v f => ?_⟩
    cases e0 : g1[i]? with
    | none => rw [e0] at h; exact h.elim
    | some sl =>
      cases sl with
      | no => rw [e0] at h; exact h.elim
      | val _ => rw [e0] at h; exact h.elim
      | own k0 xs0 =>
        rw [e0] at h
        have h : RunS X.K W σ g1 H1 (runE (bnd mx content) (setIx i d) g1) D := h
        obtain ⟨a, us0, y1, y2, y3⟩ := r1.own i k0 xs0 e0
        refine ⟨.ref a, y1, g1, r1, h.runE.mono fun xd g2 H2 r2 s2 h w hw => ?_⟩
        unfold setIx at h
        cases xd <;> try exact h.elim
        rename_i k
        cases e : g2[i]? with
        | none => rw [e] at h; exact h.elim
        | some sl =>
          rw [e] at h
          cases sl with
          | no => exact h.elim
          | val _ => exact h.elim
          | own kd xs =>
            obtain ⟨b, us, z1, z2, z3⟩ := r2.own i kd xs e
            obtain rfl : b = a := by rw [z1] at y1; cases y1; rfl
            have hk : kd ≠ .lock := fun q => by subst q; exact h.elim
            have h' : RunS X.K W σ g2 H2 (match ixOf k xs.length with | some n => .next (g2.set i (.own kd (xs.set n d))) | none => .bad) D := by
              cases kd
              · exact h
              · exact h
              · exact absurd rfl hk
            cases q : ixOf k xs.length with
            | none => rw [q] at h'; exact h'.elim
            | some n =>
              rw [q] at h'
              cases hw.int
              have fw := z3.set n (f.mono s2.kp)
              obtain ⟨r3, kp⟩ := r2.upd e z1 z2 fw
              exact ⟨b, us, k, n, rfl, rfl, z2, by rw [z3.length]; exact ixOf_N q, h' _ _ r3 (StE.upd r2 e hk z1 z2).stp⟩
/-! ### raise -/
theorem ss_raise {cl : Nat → Addr} {k : Nat} (hc : X.calm = true) (tk : Takes X (tw cl W)) (he : PMk X e (fun _ H Q => Q (.ref (cl k)) none H)) : PS X (.Raise (some e) none pos) (tS X.K W fun g => .exc k g) := (ps_raise hc tk he).imp fun D σ H h => by
  obtain ⟨g, r, h⟩ := h
  exact ⟨k, rfl, rfl, h σ H r .refl⟩
/-! ### while -/
theorem ss_while {body : List Stmt} {mt : Ev Bool} {mb : Gam → Flow} (hp : PassesOwn (model X.prog X.w) X.A X.env X.xe) (hc : PT X c (tT X.K W mt)) (hb : PSs X body (tS X.K W mb)) (n : Nat) :
    PS X (.While c body [] pos) (tS X.K W (whileF mt mb n)) := (ps_while hp hc hb).imp fun D σ H h => by
  obtain ⟨g, r, h⟩ := h
  refine ⟨fun k σ' H' => ∃ g', Rel X.K H' σ' g' ∧ RunS X.K W σ' g' H' (whileF mt mb k g') D, ⟨n, g, r, h⟩, fun k σ1 H1 h => ?_⟩
  obtain ⟨g1, r1, h⟩ := h
  cases k with
  | zero => exact h.elim
  | succ k =>
    refine ⟨g1, r1, ?_⟩
    unfold whileF at h
    cases e : mt g1 with
    | bad => rw [e] at h; exact h.elim
    | exc x g2 => rw [e] at h; exact fun H' r s => h σ1 H' r s.stp
    | ok b g2 =>
      rw [e] at h
      cases b with
      | false => exact fun H' r s => h σ1 H' r s.stp
      | true =>
        intro H2 r2 s2
        dsimp only
        rw [if_pos rfl]
        refine ⟨fun σ' H' => ∃ g', Rel X.K H' σ' g' ∧ RunS X.K W σ' g' H' (whileF mt mb k g') D, fun σ' H' q => ⟨k, Nat.lt_succ_self k, q⟩, g2, r2, ?_⟩
        dsimp only at h
        cases e2 : mb g2 with
        | bad => rw [e2] at h; exact h.elim
        | next g3 => rw [e2] at h; exact fun σ' H' r' s' => ⟨g3, r', RunS.from (s2.stp.trans s') h⟩
        | cont g3 => rw [e2] at h; exact fun σ' H' r' s' => ⟨g3, r', RunS.from (s2.stp.trans s') h⟩
        | brk g3 => rw [e2] at h; exact RunS.from s2.stp h
        | ret v g3 => rw [e2] at h; exact RunS.from s2.stp h
        | exc v g3 => rw [e2] at h; exact RunS.from s2.stp h
end
end DK
end
section
set_option maxRecDepth 100000
set_option maxHeartbeats 4000000
namespace DK
open PySem L2 PySem.Spec PyProof.Rows
/-! ### locks -/
section
variable {K : PySem.W.Frag} {H H1 H' : Hp} {σ σ' : L2.St} {g g1 g2 g3 : Gam} {a : Addr} {i : Nat} {k k' : Kd} {xs ys : List DK.D}
theorem Rel.kd (r : Rel K H σ g) (e : g[i]? = some (.own k xs)) (k' : Kd) : Rel K H σ (g.set i (.own k' xs)) := by
  have hi := ix_lt e
  have gg : ∀ {j : Nat}, j ≠ i → (g.set i (.own k' xs))[j]? = g[j]? := fun hj => by rw [List.getElem?_set_ne (Ne.symm hj)]
  have ow : ∀ {j : Nat} {l : Kd} {zs : List DK.D}, (g.set i (.own k' xs))[j]? = some (.own l zs) → ∃ l', g[j]? = some (.own l' zs) := fun {j l zs} ej => by
    by_cases hj : j = i
    · subst hj; rw [List.getElem?_set_self hi] at ej; cases ej; exact ⟨k, e⟩
    · rw [gg hj] at ej; exact ⟨l, ej⟩
  refine ⟨by rw [List.length_set]; exact r.len, fun j d ej => ?_, fun j l zs ej => ?_, fun j l c c' x y b e1 e2 z1 z2 => ?_⟩
  · by_cases hj : j = i
    · subst hj; rw [List.getElem?_set_self hi] at ej; cases ej
    · rw [gg hj] at ej; exact r.val j d ej
  · obtain ⟨l', ej⟩ := ow ej
    exact r.own j l' zs ej
  · obtain ⟨l1, e1⟩ := ow e1
    obtain ⟨l2, e2⟩ := ow e2
    exact r.inj j l l1 l2 x y b e1 e2 z1 z2
theorem mt_lock (e : g[i]? = some (.own k xs)) (h : Mt σ (g.set i (.own .lock xs)) a) : Mt σ g a := by
  obtain ⟨j, l, zs, ej, n, z⟩ := h
  have hi := ix_lt e
  by_cases hj : j = i
  · subst hj; rw [List.getElem?_set_self hi] at ej; cases ej; exact absurd rfl n
  · rw [List.getElem?_set_ne (Ne.symm hj)] at ej; exact ⟨j, l, zs, ej, n, z⟩
theorem mi_lock (e : g[i]? = some (.own k xs)) (h : Mi σ (g.set i (.own .lock xs)) a) : Mi σ g a := by
  obtain ⟨j, zs, ej, z⟩ := h
  have hi := ix_lt e
  by_cases hj : j = i
  · subst hj; rw [List.getElem?_set_self hi] at ej; cases ej
  · rw [List.getElem?_set_ne (Ne.symm hj)] at ej; exact ⟨j, zs, ej, z⟩
theorem ow_lock (e : g[i]? = some (.own k xs)) (h : Ow σ (g.set i (.own .lock xs)) a) : Ow σ g a := by
  obtain ⟨j, l, zs, ej, z⟩ := h
  have hi := ix_lt e
  by_cases hj : j = i
  · subst hj; rw [List.getElem?_set_self hi] at ej; cases ej; exact ⟨j, k, xs, e, z⟩
  · rw [List.getElem?_set_ne (Ne.symm hj)] at ej; exact ⟨j, l, zs, ej, z⟩
theorem stp_unlock (e : g[i]? = some (.own k xs)) (s : Stp σ (g.set i (.own .lock xs)) H σ' g3 H') (r3 : Rel K H' σ' g3) (e3 : g3[i]? = some (.own .lock ys)) : Stp σ g H σ' (g3.set i (.own k ys)) H' := by
  have hi := ix_lt e
  have hi3 := ix_lt e3
  have st := s.stay i .lock xs (List.getElem?_set_self hi) (fun q => by cases q)
  obtain ⟨zs, q1, q2, q3⟩ := st
  rw [e3] at q1; cases q1
  refine ⟨fun b o eb n => s.ext b o eb fun q => n (mt_lock e q), s.kp, s.dom, fun j l zs b ej z => ?_, fun j l zs ej n => ?_⟩
  · by_cases hj : j = i
    · subst hj
      rw [List.getElem?_set_self hi3] at ej; cases ej
      rw [q3] at z
      exact .inr ⟨j, xs, e, z⟩
    · rw [List.getElem?_set_ne (Ne.symm hj)] at ej
      rcases s.sub j l zs b ej z with h | ⟨m, us, h1, h2⟩
      · exact .inl h
      · by_cases hm : m = i
        · exfalso
          subst hm
          rw [List.getElem?_set_self hi] at h1; cases h1
          rw [← q3] at h2
          exact hj (r3.inj j m _ _ zs _ b ej e3 z h2)
        · rw [List.getElem?_set_ne (Ne.symm hm)] at h1
          exact .inr ⟨m, us, h1, h2⟩
  · by_cases hj : j = i
    · subst hj
      rw [e] at ej; cases ej
      exact ⟨ys, List.getElem?_set_self hi3, fun _ => q2 rfl, q3⟩
    · obtain ⟨us, u1, u2, u3⟩ := s.stay j l zs (by rw [List.getElem?_set_ne (Ne.symm hj)]; exact ej) n
      exact ⟨us, by rw [List.getElem?_set_ne (Ne.symm hj)]; exact u1, u2, u3⟩
theorem ste_unlock (e : g[i]? = some (.own k xs)) (s : StE σ (g.set i (.own .lock xs)) H g3 H') (e3 : g3[i]? = some (.own .lock ys)) : StE σ g H (g3.set i (.own k ys)) H' := by
  have hi := ix_lt e
  have hi3 := ix_lt e3
  have st := s.stay i .lock xs (List.getElem?_set_self hi) (fun q => by cases q)
  obtain ⟨zs, q1, q2⟩ := st
  rw [e3] at q1; cases q1
  refine ⟨fun b o eb n => s.ext b o eb fun q => n (mt_lock e q), s.kp, s.dom, fun j l zs ej => ?_, fun j l zs ej n => ?_, fun j d ej => ?_, by rw [List.length_set, s.lenE, List.length_set]⟩
  · by_cases hj : j = i
    · subst hj
      rw [List.getElem?_set_self hi3] at ej; cases ej
      exact ⟨xs, e⟩
    · rw [List.getElem?_set_ne (Ne.symm hj)] at ej
      obtain ⟨us, h⟩ := s.shr j l zs ej
      rw [List.getElem?_set_ne (Ne.symm hj)] at h
      exact ⟨us, h⟩
  · by_cases hj : j = i
    · subst hj
      rw [e] at ej; cases ej
      exact ⟨ys, List.getElem?_set_self hi3, fun _ => q2 rfl⟩
    · obtain ⟨us, u1, u2⟩ := s.stay j l zs (by rw [List.getElem?_set_ne (Ne.symm hj)]; exact ej) n
      exact ⟨us, by rw [List.getElem?_set_ne (Ne.symm hj)]; exact u1, u2⟩
  · have hj : j ≠ i := fun z => by subst z; rw [e] at ej; cases ej
    rw [List.getElem?_set_ne (Ne.symm hj)]
    exact s.vals j d (by rw [List.getElem?_set_ne (Ne.symm hj)]; exact ej)
end
structure LkOk (K : PySem.W.Frag) (H : Hp) (σ : L2.St) (g : Gam) (l : List Nat) (ks : List Kd) (g2 : Gam) : Prop where
  rel : Rel K H σ g2
  mt : ∀ a, Mt σ g2 a → Mt σ g a
  mi : ∀ a, Mi σ g2 a → Mi σ g a
  ow : ∀ a, Ow σ g2 a → Ow σ g a
  at' : ∀ i ∈ l, ∃ xs, g2[i]? = some (.own .lock xs)
  keep : ∀ (i : Nat) (xs : List DK.D), g[i]? = some (.own .lock xs) → g2[i]? = some (.own .lock xs)
  stp : ∀ σ' g3 H' g4, Rel K H' σ' g3 → Stp σ g2 H σ' g3 H' → unlock l ks g3 = some g4 → Rel K H' σ' g4 ∧ Stp σ g H σ' g4 H'
  ste : ∀ g3 H' g4, Rel K H' σ g3 → StE σ g2 H g3 H' → unlock l ks g3 = some g4 → Rel K H' σ g4 ∧ StE σ g H g4 H'
theorem lock_ok {K : PySem.W.Frag} {H : Hp} {σ : L2.St} : ∀ {l : List Nat} {g g2 : Gam} {ks : List Kd}, Rel K H σ g → lockG l g = some (g2, ks) → LkOk K H σ g l ks g2
  | [], g, g2, ks, r, e => by
    cases e
    exact ⟨r, fun _ h => h, fun _ h => h, fun _ h => h, fun i h => by simp at h, fun _ _ h => h, fun σ' g3 H' g4 r3 s e => by cases e; exact ⟨r3, s⟩, fun g3 H' g4 r3 s e => by cases e; exact ⟨r3, s⟩⟩
  | i :: l, g, g2, ks, r, e => by
    unfold lockG at e
    cases e1 : g[i]? with
    | none => rw [e1] at e; cases e
    | some sl =>
      rw [e1] at e
      cases sl with
      | no => cases e
      | val _ => cases e
      | own k xs =>
        dsimp only at e
        cases e2 : lockG l (g.set i (.own .lock xs)) with
        | none => rw [e2] at e; cases e
        | some p =>
          obtain ⟨g', ks'⟩ := p
          rw [e2] at e
          cases e
          have hi := ix_lt e1
          have L := lock_ok (r.kd e1 .lock) e2
          refine ⟨L.rel, fun a h => mt_lock e1 (L.mt a h), fun a h => mi_lock e1 (L.mi a h), fun a h => ow_lock e1 (L.ow a h), fun j hj => ?_, fun j zs ej => ?_, fun σ' g3 H' g4 r3 s e => ?_, fun g3 H' g4 r3 s e => ?_⟩
          · rcases List.mem_cons.mp hj with z | z
            · subst z; exact ⟨xs, L.keep j xs (List.getElem?_set_self hi)⟩
            · exact L.at' j z
          · by_cases hj : j = i
            · subst hj; rw [e1] at ej; cases ej; exact L.keep j xs (List.getElem?_set_self hi)
            · exact L.keep j zs (by rw [List.getElem?_set_ne (Ne.symm hj)]; exact ej)
          · unfold unlock at e
            cases e3 : unlock l ks' g3 with
            | none => rw [e3] at e; cases e
            | some g5 =>
              rw [e3] at e
              obtain ⟨r5, s5⟩ := L.stp σ' g3 H' g5 r3 s e3
              dsimp only at e
              cases e4 : g5[i]? with
              | none => rw [e4] at e; cases e
              | some sl =>
                rw [e4] at e
                cases sl with
                | no => cases e
                | val _ => cases e
                | own k5 ys =>
                  cases k5 <;> try cases e
                  exact ⟨r5.kd e4 k, stp_unlock e1 s5 r5 e4⟩
          · unfold unlock at e
            cases e3 : unlock l ks' g3 with
            | none => rw [e3] at e; cases e
            | some g5 =>
              rw [e3] at e
              obtain ⟨r5, s5⟩ := L.ste g3 H' g5 r3 s e3
              dsimp only at e
              cases e4 : g5[i]? with
              | none => rw [e4] at e; cases e
              | some sl =>
                rw [e4] at e
                cases sl with
                | no => cases e
                | val _ => cases e
                | own k5 ys =>
                  cases k5 <;> try cases e
                  exact ⟨r5.kd e4 k, ste_unlock e1 s5 e4⟩
/-! ### what is walked -/
def KeepL (L : List Addr) (H H' : Hp) : Prop := Kp H H' ∧ ∀ a ∈ L, ∀ o, H a = some o → H' a = some o
def ItOk (K : PySem.W.Frag) (J : It) (H : Hp) (ds : List DK.D) (L : List Addr) : Prop := ∀ H', KeepL L H H' →
  J.stop ds.length H' ∧ ∀ (i : Nat) (d : DK.D), ds[i]? = some d → J.go i H' ∧ ∀ x H2, J.yld i H' x H2 → (H2 = H' ∨ ∃ p o, H' p = none ∧ H2 = upd H' p o) ∧ Fz K H2 x d
def Lks (σ : L2.St) (g : Gam) (l : List Nat) (L : List Addr) : Prop := ∀ g2 ks, lockG l g = some (g2, ks) → ∀ a ∈ L, ¬ Mt σ g2 a
def tI (K : PySem.W.Frag) (W : Nat → L2.St → Hp → Prop) (m : Ev (List DK.D × List Nat)) : TI := fun σ H R => ∃ g, Rel K H σ g ∧ Run K W σ g H (m g) fun w g' H' => ∀ J L, Lks σ g' w.2 L → (∀ a ∈ L, Ow σ g' a ∨ H a = none) → ItOk K J H' w.1 L → R J H'
theorem _root_.L2.PI.imp {X : Cx} {tg e : Expr} {t t' : TI} (h : PI X tg e t) (f : ∀ σ H R, t' σ H R → t σ H R) : PI X tg e t' := ⟨fun pins s σ H R I q => h.run pins s σ H R I (f σ H R q)⟩
section
variable {K : PySem.W.Frag} {H H1 H' : Hp} {σ σ' : L2.St} {g g1 g2 g3 : Gam} {v w : V} {x y : EV} {d : DK.D}
theorem walk_src (hv : RV K H σ g v x) (r : Rel K H σ g) (c : content x g = .ok d g) : ∃ L : List Addr, (∀ l, (∀ i ∈ lockOf x, i ∈ l) → Lks σ g l L) ∧ (∀ H0, Fr H0 v x → ∀ a ∈ L, Ow σ g a ∨ H0 a = none) ∧
    (∀ ds, d = .list ds → ∃ a vs, v = .ref a ∧ ∀ H', KeepL L H H' → SqL K H' a vs ∧ FzA K H' vs ds) ∧ (∀ ds, d = .tuple ds → ∃ a vs, v = .ref a ∧ ∀ H', KeepL L H H' → SqT K H' a vs ∧ FzA K H' vs ds) ∧ (∀ s, d = .str s → v = .str s) := by
  cases x with
  | val d' =>
    cases c
    have hv : Fz K H v d := hv
    refine ⟨[], fun l _ g2 ks _ a ha => by simp at ha, fun H0 _ a ha => by simp at ha, fun ds e => ?_, fun ds e => ?_, fun s e => ?_⟩
    · subst e
      obtain ⟨a, vs, e1, s, f⟩ := hv.lst_inv
      exact ⟨a, vs, e1, fun H' k => ⟨(s.mono k.1).sql, f.mono k.1⟩⟩
    · subst e
      obtain ⟨a, vs, e1, s, f⟩ := hv.tup_inv
      exact ⟨a, vs, e1, fun H' k => ⟨(s.mono k.1).sqt, f.mono k.1⟩⟩
    · subst e; exact hv.str_inv
  | own xs =>
    obtain ⟨a, vs, e1, ha, hf, nw⟩ := hv
    cases c
    refine ⟨[a], fun l _ g2 ks e b hb z => ?_, fun H0 hf b hb => (by simp at hb; subst hb; exact .inr (hf b e1)), fun ds e => ?_, fun ds e => (by cases e), fun s e => (by cases e)⟩
    · simp at hb; subst hb
      exact nw ((lock_ok r e).ow b z.ow)
    · cases e
      exact ⟨a, vs, e1, fun H' k => ⟨.of (k.2 a (by simp) _ ha), hf.mono k.1⟩⟩
  | bor i =>
    have hv : σ[i]? = some (some v) := hv
    unfold content at c
    dsimp only at c
    cases e : g[i]? with
    | none => rw [e] at c; cases c
    | some sl =>
      rw [e] at c
      cases sl with
      | no => cases c
      | val _ => cases c
      | own k xs =>
        cases c
        obtain ⟨a, vs, e1, ha, hf⟩ := r.own i k xs e
        rw [hv] at e1; cases e1
        refine ⟨[a], fun l hl g2 ks e2 b hb z => ?_, fun H0 _ b hb => (by simp at hb; subst hb; exact .inl ⟨i, k, xs, e, hv⟩), fun ds e => ?_, fun ds e => (by cases e), fun s e => (by cases e)⟩
        · simp at hb; subst hb
          have L := lock_ok r e2
          obtain ⟨ys, e3⟩ := L.at' i (hl i (by simp [lockOf]))
          obtain ⟨j, k2, zs, h1, h2, h3⟩ := z
          have := L.rel.inj j i k2 _ zs ys b h1 e3 h3 hv
          subst this
          rw [e3] at h1; cases h1
          exact h2 rfl
        · cases e
          exact ⟨a, vs, rfl, fun H' k => ⟨.of (k.2 a (by simp) _ ha), hf.mono k.1⟩⟩
theorem it_list {a : Addr} {vs : List V} {ds : List DK.D} {L : List Addr} (h : ∀ H', KeepL L H H' → SqL K H' a vs ∧ FzA K H' vs ds) : ItOk K (Itl K a) H ds L := fun H' k => by
  obtain ⟨s, f⟩ := h H' k
  refine ⟨⟨vs, s, by rw [f.length]; exact Nat.le_refl _⟩, fun i d e => ?_⟩
  obtain ⟨v, e1, f1⟩ := f.get e
  refine ⟨⟨vs, v, s, e1⟩, fun x H2 y => ?_⟩
  obtain ⟨rfl, q⟩ := y
  have := q vs s
  rw [e1] at this; cases this
  exact ⟨.inl rfl, f1⟩
theorem it_tup {a : Addr} {vs : List V} {ds : List DK.D} {L : List Addr} (h : ∀ H', KeepL L H H' → SqT K H' a vs ∧ FzA K H' vs ds) : ItOk K (Itt K a) H ds L := fun H' k => by
  obtain ⟨s, f⟩ := h H' k
  refine ⟨⟨vs, s, by rw [f.length]; exact Nat.le_refl _⟩, fun i d e => ?_⟩
  obtain ⟨v, e1, f1⟩ := f.get e
  refine ⟨⟨vs, v, s, e1⟩, fun x H2 y => ?_⟩
  obtain ⟨rfl, q⟩ := y
  have := q vs s
  rw [e1] at this; cases this
  exact ⟨.inl rfl, f1⟩
theorem it_str {s : Str} {L : List Addr} : ItOk K (Its s) H (charsD s) L := fun H' k => by
  refine ⟨by show s.cps.size ≤ _; simp [charsD], fun i d e => ?_⟩
  unfold charsD at e
  rw [List.getElem?_map, Array.getElem?_toList] at e
  cases q : s.cps[i]? with
  | none => rw [q] at e; cases e
  | some c =>
    rw [q] at e; cases e
    obtain ⟨hi, _⟩ := Array.getElem?_eq_some_iff.mp q
    refine ⟨hi, fun x H2 y => ?_⟩
    obtain ⟨rfl, c', q1, rfl⟩ := y
    rw [q] at q1; cases q1
    exact ⟨.inl rfl, .str _⟩
theorem rangeL_get : ∀ {n : Nat} {lo : Int} {i : Nat} {d : DK.D}, (rangeL lo n)[i]? = some d → i < n ∧ d = .int (lo + i)
  | 0, _, _, _, e => by simp [rangeL] at e
  | n + 1, lo, 0, d, e => by simp [rangeL] at e; subst e; exact ⟨Nat.zero_lt_succ _, by simp⟩
  | n + 1, lo, i + 1, d, e => by
    have e : (rangeL (lo + 1) n)[i]? = some d := by simpa [rangeL] using e
    obtain ⟨h, rfl⟩ := rangeL_get e
    exact ⟨by omega, by congr 1; push_cast; omega⟩
theorem rangeL_len : ∀ {n : Nat} {lo : Int}, (rangeL lo n).length = n
  | 0, _ => rfl
  | n + 1, _ => by rw [rangeL, List.length_cons, rangeL_len]
theorem it_range {lo : Int} {n : Nat} {L : List Addr} : ItOk K (Itr lo n) H (rangeL lo n) L := fun H' k => by
  refine ⟨by show n ≤ _; rw [rangeL_len]; exact Nat.le_refl _, fun i d e => ?_⟩
  obtain ⟨h, rfl⟩ := rangeL_get e
  refine ⟨h, fun x H2 y => ?_⟩
  obtain ⟨rfl, rfl⟩ := y
  exact ⟨.inl rfl, .int _⟩
theorem enumL_get : ∀ {xs : List DK.D} {n : Nat} {i : Nat} {d : DK.D}, (enumL (n : Int) xs)[i]? = some d → ∃ x, xs[i]? = some x ∧ d = .tuple [.int ((n + i : Nat) : Int), x]
  | [], _, _, _, e => by simp [enumL] at e
  | x :: xs, n, 0, d, e => by simp [enumL] at e; subst e; exact ⟨x, rfl, by simp⟩
  | x :: xs, n, i + 1, d, e => by
    have e : (enumL ((n + 1 : Nat) : Int) xs)[i]? = some d := by simpa [enumL] using e
    obtain ⟨y, h, rfl⟩ := enumL_get e
    exact ⟨y, by simpa using h, by rw [show n + 1 + i = n + (i + 1) by omega]⟩
theorem enumL_len : ∀ {xs : List DK.D} {n : Int}, (enumL n xs).length = xs.length
  | [], _ => rfl
  | x :: xs, n => by rw [enumL, List.length_cons, List.length_cons, enumL_len]
theorem it_enum {a : Addr} {vs : List V} {ds : List DK.D} {L : List Addr} (h : ∀ H', KeepL L H H' → SqL K H' a vs ∧ FzA K H' vs ds) : ItOk K (Ite K a) H (enumL 0 ds) L := fun H' k => by
  obtain ⟨s, f⟩ := h H' k
  refine ⟨⟨vs, s, by rw [f.length, enumL_len]; exact Nat.le_refl _⟩, fun i d e => ?_⟩
  obtain ⟨x, ex, rfl⟩ := enumL_get (n := 0) e
  obtain ⟨v, e1, f1⟩ := f.get ex
  refine ⟨⟨vs, v, s, e1⟩, fun u H2 y => ?_⟩
  obtain ⟨T, x', rfl, hT, rfl, q⟩ := y
  have := q vs s
  rw [e1] at this; cases this
  refine ⟨.inr ⟨T, _, hT, rfl⟩, .tup (.inl upd_same) (.cons ?_ (.cons (f1.mono (Kp.new hT)) .nil))⟩
  rw [Nat.zero_add]; exact .int _
theorem zipL_get : ∀ {xs ys : List DK.D} {i : Nat} {d : DK.D}, (zipL xs ys)[i]? = some d → ∃ x y, xs[i]? = some x ∧ ys[i]? = some y ∧ d = .tuple [x, y]
  | [], _, _, _, e => by simp [zipL] at e
  | _ :: _, [], _, _, e => by simp [zipL] at e
  | x :: xs, y :: ys, 0, d, e => by simp [zipL] at e; subst e; exact ⟨x, y, rfl, rfl, rfl⟩
  | x :: xs, y :: ys, i + 1, d, e => by
    obtain ⟨a, b, h1, h2, rfl⟩ := zipL_get (xs := xs) (ys := ys) (i := i) (d := d) (by simpa [zipL] using e)
    exact ⟨a, b, by simpa using h1, by simpa using h2, rfl⟩
theorem zipL_len : ∀ {xs ys : List DK.D}, xs.length ≤ (zipL xs ys).length ∨ ys.length ≤ (zipL xs ys).length
  | [], _ => .inl (Nat.zero_le _)
  | _ :: _, [] => .inr (Nat.zero_le _)
  | x :: xs, y :: ys => by
    rcases zipL_len (xs := xs) (ys := ys) with h | h
    · exact .inl (by simp [zipL]; exact h)
    · exact .inr (by simp [zipL]; exact h)
theorem it_zip {a b : Addr} {vs ws : List V} {ds es : List DK.D} {L : List Addr} (h : ∀ H', KeepL L H H' → SqL K H' a vs ∧ FzA K H' vs ds) (h' : ∀ H', KeepL L H H' → SqL K H' b ws ∧ FzA K H' ws es) : ItOk K (Itz K a b) H (zipL ds es) L := fun H' k => by
  obtain ⟨s, f⟩ := h H' k
  obtain ⟨s', f'⟩ := h' H' k
  refine ⟨⟨vs, ws, s, s', by rw [f.length, f'.length]; exact zipL_len⟩, fun i d e => ?_⟩
  obtain ⟨x, y, ex, e', rfl⟩ := zipL_get e
  obtain ⟨v, e1, f1⟩ := f.get ex
  obtain ⟨w, e2, f2⟩ := f'.get e'
  refine ⟨⟨vs, ws, v, w, s, s', e1, e2⟩, fun u H2 y => ?_⟩
  obtain ⟨T, x', y', rfl, hT, rfl, q, q'⟩ := y
  have := q vs s
  rw [e1] at this; cases this
  have := q' ws s'
  rw [e2] at this; cases this
  exact ⟨.inr ⟨T, _, hT, rfl⟩, .tup (.inl upd_same) (.cons (f1.mono (Kp.new hT)) (.cons (f2.mono (Kp.new hT)) .nil))⟩
theorem it_zipT {a b : Addr} {vs ws : List V} {ds es : List DK.D} {L : List Addr} (h : ∀ H', KeepL L H H' → SqT K H' a vs ∧ FzA K H' vs ds) (h' : ∀ H', KeepL L H H' → SqT K H' b ws ∧ FzA K H' ws es) : ItOk K (RZ.ItzT K a b) H (zipL ds es) L := fun H' k => by
  obtain ⟨s, f⟩ := h H' k
  obtain ⟨s', f'⟩ := h' H' k
  refine ⟨⟨vs, ws, s, s', by rw [f.length, f'.length]; exact zipL_len⟩, fun i d e => ?_⟩
  obtain ⟨x, y, ex, e', rfl⟩ := zipL_get e
  obtain ⟨v, e1, f1⟩ := f.get ex
  obtain ⟨w, e2, f2⟩ := f'.get e'
  refine ⟨⟨vs, ws, v, w, s, s', e1, e2⟩, fun u H2 y => ?_⟩
  obtain ⟨T, x', y', rfl, hT, rfl, q, q'⟩ := y
  have := q vs s
  rw [e1] at this; cases this
  have := q' ws s'
  rw [e2] at this; cases this
  exact ⟨.inr ⟨T, _, hT, rfl⟩, .tup (.inl upd_same) (.cons (f1.mono (Kp.new hT)) (.cons (f2.mono (Kp.new hT)) .nil))⟩
theorem KeepL.app {L M : List Addr} (h : KeepL (L ++ M) H H') : KeepL L H H' ∧ KeepL M H H' := ⟨⟨h.1, fun a ha => h.2 a (List.mem_append_left _ ha)⟩, ⟨h.1, fun a ha => h.2 a (List.mem_append_right _ ha)⟩⟩
end
section
variable {X : Cx} {W : Nat → L2.St → Hp → Prop} {tg e a b : Expr} {m ma mb : Ev EV} {es : List Expr} {pos p : Pos}
def iSeq (K : PySem.W.Frag) (te : TE) : TI := fun σ H R => te σ H fun v H1 => (∃ a xs, v = .ref a ∧ SqL K H1 a xs ∧ R (Itl K a) H1) ∨ (∃ a xs, v = .ref a ∧ SqT K H1 a xs ∧ R (Itt K a) H1) ∨ ∃ x, v = .str x ∧ R (Its x) H1
theorem pi_seq {te : TE} (he : PE X e te) : PI X tg e (iSeq X.K te) := by
  refine ⟨fun pins s σ H R I h => ?_⟩
  refine thn (he.run pins s σ H _ I h) fun v s1 ⟨x, H1, I1, r1, q1⟩ => ?_
  rcases q1 with ⟨a, xs, rfl, hq, q⟩ | ⟨a, xs, rfl, hq, q⟩ | ⟨x, rfl, q⟩
  · cases r1
    obtain ⟨its, rv, p, hz⟩ := I1.list hq
    exact wpAny_pyIter_list p.isList (pi_one (tk := s1.toks) I1 _ (turn_list a _) ⟨_, Heap.get?_push_size _ rfl, rfl, rfl⟩ q)
  · cases r1
    obtain ⟨its, rv, p, hz⟩ := I1.tuple hq
    exact wpAny_pyIter_tuple (show s1.heap.IsTuple a its.toArray from p) (pi_one (tk := s1.toks) I1 _ (turn_tuple a _) ⟨_, Heap.get?_push_size _ rfl, rfl, rfl⟩ q)
  · obtain ⟨t, rfl⟩ := r1
    cases ha : x.cps.all (· < 128)
    · exact wpAny_pyIter_wide ha (pi_one (tk := s1.toks) I1 _ (turn_str _ x t "str_iterator" (.inr rfl)) ⟨_, Heap.get?_push_size _ rfl, rfl, rfl⟩ q)
    · exact wpAny_pyIter_ascii ha (pi_one (tk := s1.toks) I1 _ (turn_str _ x t "str_ascii_iterator" (.inl rfl)) ⟨_, Heap.get?_push_size _ rfl, rfl, rfl⟩ q)
theorem content_ok {x : EV} {g g1 : Gam} {d : DK.D} (h : content x g = .ok d g1) : content x g = .ok d g := (content_same h).2
theorem si_e (he : PE X e (tM X.K W m)) : PI X tg e (tI X.K W (bnd m walkOf)) := (pi_seq he).imp fun σ H R h => by
  obtain ⟨g, r, h⟩ := h
  refine ⟨g, r, h.bnd.mono fun x g1 H1 r1 s1 h v hv hx => ?_⟩
  unfold walkOf at h
  obtain ⟨d, c, cw, h⟩ := hv.content r1 h
  obtain ⟨L, hl, ho, h1, h2, h3⟩ := walk_src hv r1 c
  have k0 : KeepL L H1 H1 := ⟨Kp.refl, fun _ _ _ e => e⟩
  cases d with
  | list ds =>
    obtain ⟨a, vs, rfl, q⟩ := h1 ds rfl
    exact .inl ⟨a, vs, rfl, (q H1 k0).1, h.pure r1 _ L (hl _ fun i h => h) (ho H hx) (it_list q)⟩
  | tuple ds =>
    obtain ⟨a, vs, rfl, q⟩ := h2 ds rfl
    exact .inr (.inl ⟨a, vs, rfl, (q H1 k0).1, h.pure r1 _ L (hl _ fun i h => h) (ho H hx) (it_tup q)⟩)
  | str s =>
    cases h3 s rfl
    exact .inr (.inr ⟨s, rfl, h.pure r1 _ L (hl _ fun i h => h) (ho H hx) it_str⟩)
  | none => exact h.elim
  | bool _ => exact h.elim
  | int _ => exact h.elim
  | dict _ => exact h.elim
theorem small_b {n : Int} (h : small n = true) : -(2 ^ 62) ≤ n ∧ n < 2 ^ 62 := by
  simp only [small, Bool.and_eq_true, decide_eq_true_eq] at h
  omega
def mOneE (ma : Ev EV) : Ev (List EV) := bnd ma fun v => bnd (pur []) fun vs => pur (v :: vs)
def mTwoE (ma mb : Ev EV) : Ev (List EV) := bnd ma fun v => bnd (bnd mb fun v => bnd (pur []) fun vs => pur (v :: vs)) fun vs => pur (v :: vs)
def mRange (m : Ev (List EV)) : Ev (List DK.D × List Nat) := bnd m fun vs => bnd (contents vs) fun ds => bnd (opt (rangeD ds)) fun xs => pur (xs, [])
theorem run_oneE {β : Type} {f : List EV → Ev β} {P : β → Gam → Hp → Prop} {σ : L2.St} {H : Hp} {g : Gam} (h : Run X.K W σ g H (bnd (mOneE ma) f g) P) :
    Run X.K W σ g H (ma g) fun x g1 H1 => Run X.K W σ g1 H1 (f [x] g1) P := by
  unfold mOneE at h
  rw [bnd_assoc] at h
  exact h.bnd
theorem run_twoE {β : Type} {f : List EV → Ev β} {P : β → Gam → Hp → Prop} {σ : L2.St} {H : Hp} {g : Gam} (h : Run X.K W σ g H (bnd (mTwoE ma mb) f g) P) :
    Run X.K W σ g H (ma g) fun x g1 H1 => Run X.K W σ g1 H1 (mb g1) fun y g2 H2 => Run X.K W σ g2 H2 (f [x, y] g2) P := by
  unfold mTwoE at h
  rw [bnd_assoc] at h
  refine h.bnd.mono fun x g1 H1 r1 s1 h => ?_
  rw [bnd_assoc, bnd_assoc] at h
  exact h.bnd
theorem si_range1 (hg : Gl X "range") (hm : X.mg "range" = none) (ha : PE X a (tM X.K W ma)) (hs : isStar a = false) : PI X tg (.Call (.Name "range" p) [a] [] pos) (tI X.K W (mRange (mOneE ma))) :=
  (pi_range1 hg hm (pa_cons ha pa_nil (star_no hs)) (star_no hs)).imp fun σ H R h => by
    obtain ⟨g, r, h⟩ := h
    refine ⟨g, r, (run_oneE h).mono fun x g1 H1 r1 s1 h v hv _ => ?_⟩
    obtain ⟨ds, c, h⟩ := RVA.contents r1 (.cons hv .nil) h
    obtain ⟨ys, e, h⟩ := h.opt'
    have h := h.pure r1
    obtain ⟨d, rfl, k1⟩ : ∃ d, ds = [d] ∧ Cv X.K H1 v d := by
      cases c with
      | cons c1 c2 => cases c2; exact ⟨_, rfl, c1⟩
    cases d with
    | int n =>
      obtain ⟨q, e⟩ := ifS e
      cases e
      cases k1.int
      exact ⟨n, rfl, (small_b q).1, (small_b q).2, h _ [] (fun g2 ks _ a ha => by simp at ha) (fun a ha => by simp at ha) it_range⟩
    | _ => cases e
theorem si_range2 (hg : Gl X "range") (hm : X.mg "range" = none) (ha : PE X a (tM X.K W ma)) (hb : PE X b (tM X.K W mb)) (hs : isStar a = false) (hs2 : isStar b = false) : PI X tg (.Call (.Name "range" p) [a, b] [] pos) (tI X.K W (mRange (mTwoE ma mb))) :=
  (pi_range2 hg hm (pa_cons ha (pa_cons hb pa_nil (star_no hs2)) (star_no hs)) (by rw [star_no hs, star_no hs2]; rfl) (by rw [star_no hs2]; rfl)).imp fun σ H R h => by
    obtain ⟨g, r, h⟩ := h
    refine ⟨g, r, (run_twoE h).mono fun x g1 H1 r1 s1 h v hv _ => ?_⟩
    refine ⟨g1, r1, h.mono fun y g2 H2 r2 s2 h w hw _ => ?_⟩
    obtain ⟨ds, c, h⟩ := RVA.contents r2 (.cons (hv.step s2) (.cons hw .nil)) h
    obtain ⟨ys, e, h⟩ := h.opt'
    have h := h.pure r2
    obtain ⟨d, d', rfl, k1, k2⟩ : ∃ d d', ds = [d, d'] ∧ Cv X.K H2 v d ∧ Cv X.K H2 w d' := by
      cases c with
      | cons c1 c2 =>
        cases c2 with
        | cons c2 c3 => cases c3; exact ⟨_, _, rfl, c1, c2⟩
    cases d with
    | int n =>
      cases d' with
      | int k =>
        obtain ⟨q, e⟩ := ifS e
        cases e
        rw [Bool.and_eq_true] at q
        cases k1.int; cases k2.int
        exact ⟨n, k, rfl, ⟨(small_b q.1).1, (small_b q.1).2, (small_b q.2).1, (small_b q.2).2⟩, h _ [] (fun g2 ks _ a ha => by simp at ha) (fun a ha => by simp at ha) it_range⟩
      | _ => cases e
    | _ => cases e
variable {elts : List Expr} {kk : Nat} {tpos : Pos}
theorem si_enum (hg : Gl X "enumerate") (hm : X.mg "enumerate" = none) (ha : PE X a (tM X.K W ma)) (hs : isStar a = false) : PI X (.Tuple elts kk tpos) (.Call (.Name "enumerate" p) [a] [] pos) (tI X.K W (bnd (mOneE ma) enumOf)) :=
  (pi_enum hg hm (pa_cons ha pa_nil (star_no hs)) (star_no hs)).imp fun σ H R h => by
    obtain ⟨g, r, h⟩ := h
    refine ⟨g, r, (run_oneE h).mono fun x g1 H1 r1 s1 h v hv hx => ?_⟩
    unfold enumOf at h
    obtain ⟨d, c, cw, h⟩ := hv.content r1 h
    obtain ⟨L, hl, ho, h1, h2, h3⟩ := walk_src hv r1 c
    have k0 : KeepL L H1 H1 := ⟨Kp.refl, fun _ _ _ e => e⟩
    cases d <;> try exact h.elim
    rename_i ds
    obtain ⟨a, vs, rfl, q⟩ := h1 ds rfl
    exact ⟨a, vs, rfl, (q H1 k0).1, h.pure r1 _ L (hl _ fun i h => h) (ho H hx) (it_enum q)⟩
theorem si_zip (hg : Gl X "zip") (hm : X.mg "zip" = none) (ha : PE X a (tM X.K W ma)) (hb : PE X b (tM X.K W mb)) (hs : isStar a = false) (hs2 : isStar b = false) : PI X (.Tuple elts kk tpos) (.Call (.Name "zip" p) [a, b] [] pos) (tI X.K W (bnd (mTwoE ma mb) zipOf)) :=
  (RZ.pi_zipA hg hm (pa_cons ha (pa_cons hb pa_nil (star_no hs2)) (star_no hs)) (star_no hs) (by rw [star_no hs2]; rfl)).imp fun σ H R h => by
    obtain ⟨g, r, h⟩ := h
    refine ⟨g, r, (run_twoE h).mono fun x g1 H1 r1 s1 h v hv hx => ?_⟩
    refine ⟨g1, r1, h.mono fun y g2 H2 r2 s2 h w hw hy => ?_⟩
    unfold zipOf at h
    have hv := hv.step s2
    obtain ⟨d, c, cv, h⟩ := hv.content r2 h
    obtain ⟨d', c', cw, h⟩ := hw.content r2 h
    obtain ⟨L, hl, ho, h1, h2, h3⟩ := walk_src hv r2 c
    obtain ⟨M, hl', ho', h1', h2', h3'⟩ := walk_src hw r2 c'
    have k0 : KeepL (L ++ M) H2 H2 := ⟨Kp.refl, fun _ _ _ e => e⟩
    have lk : Lks σ g2 (lockOf x ++ lockOf y) (L ++ M) := fun g3 ks e a ha => by
      rcases List.mem_append.mp ha with z | z
      · exact hl (lockOf x ++ lockOf y) (fun i hi => List.mem_append_left _ hi) g3 ks e a z
      · exact hl' (lockOf x ++ lockOf y) (fun i hi => List.mem_append_right _ hi) g3 ks e a z
    have own2 : ∀ a ∈ L ++ M, Ow σ g2 a ∨ H a = none := fun a ha => by
      rcases List.mem_append.mp ha with z | z
      · exact ho H hx a z
      · exact (ho' H1 hy a z).imp id fun q => Classical.byContradiction fun n => s1.dom a n q
    cases d with
    | list ds =>
      cases d' with
      | list es =>
        obtain ⟨a, vs, rfl, q⟩ := h1 ds rfl
        obtain ⟨b, ws, rfl, q'⟩ := h1' es rfl
        have q1 := fun H' (k : KeepL (L ++ M) H2 H') => q H' k.app.1
        have q2 := fun H' (k : KeepL (L ++ M) H2 H') => q' H' k.app.2
        exact ⟨a, b, vs, ws, rfl, .inl ⟨(q1 H2 k0).1, (q2 H2 k0).1, h.pure r2 _ (L ++ M) lk own2 (it_zip q1 q2)⟩⟩
      | _ => exact h.elim
    | tuple ds =>
      cases d' with
      | tuple es =>
        obtain ⟨a, vs, rfl, q⟩ := h2 ds rfl
        obtain ⟨b, ws, rfl, q'⟩ := h2' es rfl
        have q1 := fun H' (k : KeepL (L ++ M) H2 H') => q H' k.app.1
        have q2 := fun H' (k : KeepL (L ++ M) H2 H') => q' H' k.app.2
        exact ⟨a, b, vs, ws, rfl, .inr ⟨(q1 H2 k0).1, (q2 H2 k0).1, h.pure r2 _ (L ++ M) lk own2 (it_zipT q1 q2)⟩⟩
      | _ => exact h.elim
    | _ => exact h.elim
/-! ### for -/
theorem Rt.weak {K : PySem.W.Frag} {σ : L2.St} {g g2 : Gam} {H H' : Hp} {v : V} {ev : EV} (h : Rt K σ g2 H H' v ev) (hm : ∀ a, Mi σ g2 a → Mi σ g a) : Rt K σ g H H' v ev := by
  cases ev with
  | val d => exact h
  | bor i => exact h
  | own xs =>
    obtain ⟨a, vs, e, h1, h2, h3⟩ := h
    exact ⟨a, vs, e, h1, h2, h3.imp id (hm a)⟩
theorem ss_for {iter : Expr} {body : List Stmt} {mi : Ev (List DK.D × List Nat)} {t : Tg} {mb : Gam → Flow} (hp : PassesOwn (model X.prog X.w) X.A X.env X.xe) (hc : X.calm = true) (hi : PI X tg iter (tI X.K W mi)) (hg : PG X tg (tG X.K t)) (hb : PSs X body (tS X.K W mb))
    (hs : ∀ x, foldedSetIterable iter X.env x = pure x) :
    PS X (.For tg iter body [] pos) (tS X.K W (runE mi fun w g => match lockG w.2 g with | some (g1, k) => forF (assignT t) mb (unlock w.2 k) w.1 g1 | none => .bad)) := (ps_for hp hc hi hg hb hs).imp fun D σ H h => by
  obtain ⟨g, r, h⟩ := h
  refine ⟨g, r, h.runE.mono fun w g1 H1 r1 s1 h J L hL _ hJ => ?_⟩
  cases e : lockG w.2 g1 with
  | none => rw [e] at h; exact h.elim
  | some p =>
    obtain ⟨g2, ks⟩ := p
    rw [e] at h
    dsimp only at h
    have lk := lock_ok r1 e
    have hL := hL g2 ks e
    refine ⟨fun i n σ' H' => ∃ g', Rel X.K H' σ' g' ∧ Stp σ g2 H1 σ' g' H' ∧ i + n = w.1.length ∧ RunS X.K W σ g1 H1 (forF (assignT t) mb (unlock w.2 ks) (w.1.drop i) g') D,
      ⟨w.1.length, g2, lk.rel, .refl, Nat.zero_add _, h⟩, fun i n σ3 H3 h => ?_⟩
    obtain ⟨g3, r3, s3, hn, h⟩ := h
    have kl : KeepL L H1 H3 := ⟨s3.kp, fun a ha o eo => s3.ext a o eo (hL a ha)⟩
    obtain ⟨j1, j2⟩ := hJ H3 kl
    cases n with
    | zero =>
      obtain rfl : i = w.1.length := hn
      rw [List.drop_length] at h
      unfold forF at h
      cases e3 : unlock w.2 ks g3 with
      | none => rw [e3] at h; exact h.elim
      | some g4 =>
        rw [e3] at h
        obtain ⟨r4, s4⟩ := lk.stp σ3 g3 H3 g4 r3 s3 e3
        exact .inl ⟨j1, h σ3 H3 r4 s4⟩
    | succ n =>
      have hi : i < w.1.length := by omega
      have ed : w.1.drop i = w.1[i] :: w.1.drop (i + 1) := List.drop_eq_getElem_cons hi
      rw [ed] at h
      obtain ⟨go, yl⟩ := j2 i _ (List.getElem?_eq_getElem hi)
      refine .inr ⟨go, fun σ' H' => ∃ g', Rel X.K H' σ' g' ∧ Stp σ g2 H1 σ' g' H' ∧ (i + 1) + n = w.1.length ∧ RunS X.K W σ g1 H1 (forF (assignT t) mb (unlock w.2 ks) (w.1.drop (i + 1)) g') D,
        fun σ' H' q => ⟨n, Nat.lt_succ_self n, q⟩, fun x H4 y => ?_⟩
      obtain ⟨hnew, fz⟩ := yl x H4 y
      have r4 : Rel X.K H4 σ3 g3 ∧ Stp σ3 g3 H3 σ3 g3 H4 := by
        rcases hnew with rfl | ⟨p, o, hp, rfl⟩
        · exact ⟨r3, .refl⟩
        · exact ⟨r3.new hp, (StE.new hp).stp⟩
      unfold forF at h
      cases e5 : assignT t w.1[i] g3 with
      | none => rw [e5] at h; exact h.elim
      | some g5 =>
        rw [e5] at h
        dsimp only at h
        refine ⟨g3, w.1[i], g5, r4.1, fz, e5, fun σ5 r5 s5 _ => ⟨g5, r5, ?_⟩⟩
        have s5' : Stp σ g2 H1 σ5 g5 H4 := (s3.trans r4.2).trans s5
        cases e6 : mb g5 with
        | bad => rw [e6] at h; exact h.elim
        | next g6 => rw [e6] at h; exact fun σ6 H6 r6 s6 => ⟨g6, r6, s5'.trans s6, by omega, h⟩
        | cont g6 => rw [e6] at h; exact fun σ6 H6 r6 s6 => ⟨g6, r6, s5'.trans s6, by omega, h⟩
        | brk g6 =>
          rw [e6] at h
          intro σ6 H6 r6 s6
          dsimp only at h
          cases e7 : unlock w.2 ks g6 with
          | none => rw [e7] at h; exact h.elim
          | some g7 =>
            rw [e7] at h
            obtain ⟨r7, s7⟩ := lk.stp σ6 g6 H6 g7 r6 (s5'.trans s6) e7
            exact h σ6 H6 r7 s7
        | ret ev g6 =>
          rw [e6] at h
          intro v σ6 H6 r6 s6 rt
          dsimp only at h
          cases e7 : unlock w.2 ks g6 with
          | none => rw [e7] at h; exact h.elim
          | some g7 =>
            rw [e7] at h
            obtain ⟨r7, s7⟩ := lk.stp σ6 g6 H6 g7 r6 (s5'.trans s6) e7
            exact h v σ6 H6 r7 s7 ((Rt.back s5' rt).weak lk.mi)
        | exc c g6 =>
          rw [e6] at h
          intro σ6 H6 r6 s6
          dsimp only at h
          cases e7 : unlock w.2 ks g6 with
          | none => rw [e7] at h; exact h.elim
          | some g7 =>
            rw [e7] at h
            obtain ⟨r7, s7⟩ := lk.stp σ6 g6 H6 g7 r6 (s5'.trans s6) e7
            exact h σ6 H6 r7 s7
end
end DK
end
section
set_option maxRecDepth 100000
set_option maxHeartbeats 4000000
namespace DK
open PySem L2 PySem.Spec PyProof.Rows
/-! ### slots wiped and restored -/
theorem wipe_get {σ : L2.St} : ∀ {vs : List Nat} {j : Nat}, (wipe σ vs)[j]? = if j ∈ vs then (σ[j]?).map (fun _ => none) else σ[j]?
  | [], j => by simp [wipe]
  | v :: vs, j => by
    unfold wipe
    by_cases h : v = j
    · subst h
      rw [if_pos List.mem_cons_self]
      by_cases hv : v < σ.length
      · rw [List.getElem?_set_self (by rw [wipe_length]; exact hv), List.getElem?_eq_getElem hv]; rfl
      · rw [List.getElem?_eq_none (by rw [List.length_set, wipe_length]; omega), List.getElem?_eq_none (by omega)]; rfl
    · rw [List.getElem?_set_ne h, wipe_get]
      simp only [List.mem_cons, show (j = v) = False from by simp; exact fun e => h e.symm, false_or]
theorem wipeG_get {g : Gam} : ∀ {vs : List Nat} {j : Nat}, (wipeG g vs)[j]? = if j ∈ vs then (g[j]?).map (fun _ => Slot.no) else g[j]?
  | [], j => by simp [wipeG]
  | v :: vs, j => by
    have hl : ∀ vs, (wipeG g vs).length = g.length := fun vs => by
      induction vs with
      | nil => rfl
      | cons v vs ih => rw [wipeG, List.length_set, ih]
    unfold wipeG
    by_cases h : v = j
    · subst h
      rw [if_pos List.mem_cons_self]
      by_cases hv : v < g.length
      · rw [List.getElem?_set_self (by rw [hl]; exact hv), List.getElem?_eq_getElem hv]; rfl
      · rw [List.getElem?_eq_none (by rw [List.length_set, hl]; omega), List.getElem?_eq_none (by omega)]; rfl
    · rw [List.getElem?_set_ne h, wipeG_get]
      simp only [List.mem_cons, show (j = v) = False from by simp; exact fun e => h e.symm, false_or]
theorem wipeG_len {g : Gam} : ∀ {vs : List Nat}, (wipeG g vs).length = g.length
  | [] => rfl
  | v :: vs => by rw [wipeG, List.length_set, wipeG_len]
theorem restoreG_len {g0 g : Gam} : ∀ {vs : List Nat}, (restoreG g0 g vs).length = g.length
  | [] => rfl
  | v :: vs => by rw [restoreG, List.length_set, restoreG_len]
theorem restoreG_get {g0 g : Gam} (hl : g0.length = g.length) : ∀ {vs : List Nat} {j : Nat}, (restoreG g0 g vs)[j]? = if j ∈ vs then g0[j]? else g[j]?
  | [], j => by simp [restoreG]
  | v :: vs, j => by
    unfold restoreG
    by_cases h : v = j
    · subst h
      rw [if_pos List.mem_cons_self]
      by_cases hv : v < g.length
      · rw [List.getElem?_set_self (by rw [restoreG_len]; exact hv), List.getElem?_eq_getElem (show v < g0.length by omega)]
      · rw [List.getElem?_eq_none (by rw [List.length_set, restoreG_len]; omega), List.getElem?_eq_none (by omega)]
    · rw [List.getElem?_set_ne h, restoreG_get hl]
      simp only [List.mem_cons, show (j = v) = False from by simp; exact fun e => h e.symm, false_or]
mutual
theorem assignT_get : ∀ {t : Tg} {d : DK.D} {g g' : Gam}, assignT t d g = some g' → g'.length = g.length ∧ ∀ l, (l ∉ tgNames t → g'[l]? = g[l]?) ∧ (l ∈ tgNames t → ∃ d, g'[l]? = some (.val d))
  | .name i, d, g, g', h => by
    have h : store i (.val d) g = some g' := by unfold assignT at h; exact h
    obtain ⟨rfl, hi, _⟩ := store_is h
    refine ⟨List.length_set, fun l => ⟨fun hl => ?_, fun hl => ?_⟩⟩
    · have : l ≠ i := fun z => hl (by simp [tgNames, z])
      rw [List.getElem?_set_ne (Ne.symm this)]
    · have : l = i := by simpa [tgNames] using hl
      subst this
      exact ⟨d, List.getElem?_set_self hi⟩
  | .tup ts, d, g, g', h => by
    cases d with
    | tuple ds =>
      have h : assignTs ts ds g = some g' := by unfold assignT at h; exact h
      obtain ⟨h1, h2⟩ := assignTs_get h
      exact ⟨h1, fun l => by unfold tgNames; exact h2 l⟩
    | _ => unfold assignT at h; cases h
theorem assignTs_get : ∀ {ts : List Tg} {ds : List DK.D} {g g' : Gam}, assignTs ts ds g = some g' → g'.length = g.length ∧ ∀ l, (l ∉ tgNamesL ts → g'[l]? = g[l]?) ∧ (l ∈ tgNamesL ts → ∃ d, g'[l]? = some (.val d))
  | [], [], g, g', h => by
    unfold assignTs at h; cases h
    exact ⟨rfl, fun l => ⟨fun _ => rfl, fun hl => by simp [tgNamesL] at hl⟩⟩
  | [], _ :: _, _, _, h => by unfold assignTs at h; cases h
  | _ :: _, [], _, _, h => by unfold assignTs at h; cases h
  | t :: ts, d :: ds, g, g', h => by
    unfold assignTs at h
    cases e : assignT t d g with
    | none => rw [e] at h; cases h
    | some g1 =>
      rw [e] at h
      obtain ⟨a1, a2⟩ := assignT_get e
      obtain ⟨b1, b2⟩ := assignTs_get h
      refine ⟨b1.trans a1, fun l => ⟨fun hl => ?_, fun hl => ?_⟩⟩
      · have h1 : l ∉ tgNames t := fun z => hl (by simp [tgNamesL, z])
        have h2 : l ∉ tgNamesL ts := fun z => hl (by simp [tgNamesL, z])
        rw [(b2 l).1 h2, (a2 l).1 h1]
      · by_cases h2 : l ∈ tgNamesL ts
        · exact (b2 l).2 h2
        · have h1 : l ∈ tgNames t := by
            simp only [tgNamesL, List.mem_append] at hl
            exact hl.resolve_right h2
          obtain ⟨d', e'⟩ := (a2 l).2 h1
          exact ⟨d', by rw [(b2 l).1 h2]; exact e'⟩
end
section
variable {K : PySem.W.Frag} {H H1 H2 H3 H4 H' : Hp} {σ σ2 : L2.St} {g g0 g1 g2 g3 g4 : Gam} {vs : List Nat} {p : Addr} {xs ys : List V}
theorem wipe_val {j : Nat} {s : Slot} (hs : s ≠ .no) (e : (wipeG g vs)[j]? = some s) : j ∉ vs ∧ g[j]? = some s := by
  rw [wipeG_get] at e
  by_cases h : j ∈ vs
  · rw [if_pos h] at e
    cases q : g[j]? with
    | none => rw [q] at e; cases e
    | some _ => rw [q] at e; cases e; exact absurd rfl hs
  · rw [if_neg h] at e; exact ⟨h, e⟩
theorem wipe_out {j : Nat} (h : j ∉ vs) : (wipe σ vs)[j]? = σ[j]? := by rw [wipe_get, if_neg h]
theorem wipeG_out {j : Nat} (h : j ∉ vs) : (wipeG g vs)[j]? = g[j]? := by rw [wipeG_get, if_neg h]
theorem Rel.wiped (r : Rel K H σ g) (vs : List Nat) : Rel K H (wipe σ vs) (wipeG g vs) := by
  refine ⟨by rw [wipeG_len, wipe_length]; exact r.len, fun i d e => ?_, fun i k zs e => ?_, fun i j k l x y a e1 e2 z1 z2 => ?_⟩
  · obtain ⟨h, e⟩ := wipe_val (fun q => by cases q) e
    rw [wipe_out h]; exact r.val i d e
  · obtain ⟨h, e⟩ := wipe_val (fun q => by cases q) e
    rw [wipe_out h]; exact r.own i k zs e
  · obtain ⟨h1, e1⟩ := wipe_val (fun q => by cases q) e1
    obtain ⟨h2, e2⟩ := wipe_val (fun q => by cases q) e2
    rw [wipe_out h1] at z1; rw [wipe_out h2] at z2
    exact r.inj i j k l x y a e1 e2 z1 z2
theorem mt_wipe {a : Addr} (h : Mt (wipe σ vs) (wipeG g vs) a) : Mt σ g a := by
  obtain ⟨i, k, zs, e, n, z⟩ := h
  obtain ⟨h, e⟩ := wipe_val (fun q => by cases q) e
  rw [wipe_out h] at z
  exact ⟨i, k, zs, e, n, z⟩
theorem turn_end {t : Tg} {d : DK.D} (ht : ∀ l ∈ tgNames t, l ∈ vs) (ea : assignT t d (wipeG g vs) = some g2) (hσ : ∀ l, l ∉ tgNames t → σ2[l]? = (wipe σ vs)[l]?) (r0 : Rel K H (wipe σ vs) (wipeG g vs)) (r2 : Rel K H σ2 g2) :
    wipe σ2 vs = wipe σ vs ∧ ∀ g4 H4, Rel K H4 σ2 g4 → StE σ2 g2 H g4 H4 → Rel K H4 (wipe σ vs) (wipeG g4 vs) ∧ StE (wipe σ vs) (wipeG g vs) H (wipeG g4 vs) H4 := by
  obtain ⟨a1, a2⟩ := assignT_get ea
  have gout : ∀ {j : Nat}, j ∉ vs → g2[j]? = (wipeG g vs)[j]? := fun hj => (a2 _).1 fun z => hj (ht _ z)
  have sout : ∀ {j : Nat}, j ∉ vs → σ2[j]? = (wipe σ vs)[j]? := fun hj => hσ _ fun z => hj (ht _ z)
  have ln : σ2.length = (wipe σ vs).length := by rw [← r2.len, a1, r0.len]
  have hw : wipe σ2 vs = wipe σ vs := List.ext_getElem? fun j => by
    rw [wipe_get]
    by_cases h : j ∈ vs
    · rw [if_pos h, wipe_get, if_pos h]
      rw [wipe_length] at ln
      by_cases hj : j < σ2.length
      · simp only [List.getElem?_eq_getElem hj, List.getElem?_eq_getElem (show j < σ.length by omega), Option.map]
      · simp only [List.getElem?_eq_none (show σ2.length ≤ j by omega), List.getElem?_eq_none (show σ.length ≤ j by omega), Option.map]
    · rw [if_neg h, sout h]
  refine ⟨hw, fun g4 H4 r4 s => ⟨by rw [← hw]; exact r4.wiped vs, fun a o eo n => ?_, s.kp, s.dom, fun i k xs e => ?_, fun i k xs e n => ?_, fun i d e => ?_, by rw [wipeG_len, s.lenE, a1]⟩⟩
  · refine s.ext a o eo fun z => n ?_
    obtain ⟨j, k, zs, ej, nk, z⟩ := z
    by_cases h : j ∈ tgNames t
    · obtain ⟨d', e'⟩ := (a2 j).2 h
      rw [ej] at e'; cases e'
    · exact ⟨j, k, zs, by rw [← (a2 j).1 h]; exact ej, nk, by rw [← hσ j h]; exact z⟩
  · obtain ⟨h, e⟩ := wipe_val (fun q => by cases q) e
    obtain ⟨ys, e⟩ := s.shr i k xs e
    rw [gout h] at e
    exact ⟨ys, e⟩
  · obtain ⟨h, _⟩ := wipe_val (fun q => by cases q) e
    obtain ⟨ys, e1, e2⟩ := s.stay i k xs (by rw [gout h]; exact e) n
    exact ⟨ys, by rw [wipeG_out h]; exact e1, e2⟩
  · obtain ⟨h, _⟩ := wipe_val (fun q => by cases q) e
    rw [wipeG_out h]
    exact s.vals i d (by rw [gout h]; exact e)
theorem restored (r1 : Rel K H1 σ g1) (r : Rel K H (wipe σ vs) (wipeG g vs)) (s : StE (wipe σ vs) (wipeG g1 vs) H1 (wipeG g vs) H) : Rel K H σ (restoreG g1 (wipeG g vs) vs) ∧ StE σ g1 H1 (restoreG g1 (wipeG g vs) vs) H := by
  have hl : g1.length = (wipeG g vs).length := by rw [s.lenE, wipeG_len]
  have gin : ∀ {j : Nat}, j ∈ vs → (restoreG g1 (wipeG g vs) vs)[j]? = g1[j]? := fun h => by rw [restoreG_get hl, if_pos h]
  have gout : ∀ {j : Nat}, j ∉ vs → (restoreG g1 (wipeG g vs) vs)[j]? = (wipeG g vs)[j]? := fun h => by rw [restoreG_get hl, if_neg h]
  have shr : ∀ {j : Nat} {k : Kd} {xs : List DK.D}, (restoreG g1 (wipeG g vs) vs)[j]? = some (.own k xs) → ∃ ys : List DK.D, g1[j]? = some (.own k ys) := fun {j k xs} e => by
    by_cases h : j ∈ vs
    · rw [gin h] at e; exact ⟨xs, e⟩
    · rw [gout h] at e
      obtain ⟨ys, e⟩ := s.shr j k xs e
      rw [wipeG_out h] at e
      exact ⟨ys, e⟩
  refine ⟨⟨by rw [restoreG_len, ← hl]; exact r1.len, fun i d e => ?_, fun i k xs e => ?_, fun i j k l xs ys a e1 e2 z1 z2 => ?_⟩, ⟨fun a o eo n => s.ext a o eo fun z => n (mt_wipe z), s.kp, s.dom, fun i k xs e => shr e, fun i k xs e n => ?_, fun i d e => ?_, by rw [restoreG_len, ← hl]⟩⟩
  · by_cases h : i ∈ vs
    · rw [gin h] at e
      obtain ⟨v, h1, h2⟩ := r1.val i d e
      exact ⟨v, h1, h2.mono s.kp⟩
    · rw [gout h] at e
      have := r.val i d e
      rw [wipe_out h] at this
      exact this
  · by_cases h : i ∈ vs
    · rw [gin h] at e
      obtain ⟨a, ws, h1, h2, h3⟩ := r1.own i k xs e
      refine ⟨a, ws, h1, s.ext a _ h2 fun z => ?_, h3.mono s.kp⟩
      obtain ⟨j, l, zs, ej, _, z⟩ := z
      obtain ⟨hj, ej⟩ := wipe_val (fun q => by cases q) ej
      rw [wipe_out hj] at z
      have := r1.inj i j k l xs zs a e ej h1 z
      subst this
      exact hj h
    · rw [gout h] at e
      have := r.own i k xs e
      rw [wipe_out h] at this
      exact this
  · obtain ⟨_, e1⟩ := shr e1
    obtain ⟨_, e2⟩ := shr e2
    exact r1.inj i j k l _ _ a e1 e2 z1 z2
  · by_cases h : i ∈ vs
    · exact ⟨xs, by rw [gin h]; exact e, fun _ => rfl⟩
    · obtain ⟨ys, e1, e2⟩ := s.stay i k xs (by rw [wipeG_out h]; exact e) n
      exact ⟨ys, by rw [gout h]; exact e1, e2⟩
  · by_cases h : i ∈ vs
    · rw [gin h]; exact e
    · rw [gout h]; exact s.vals i d (by rw [wipeG_out h]; exact e)
theorem Kp.lst (hp : H p = some (.lst xs)) : Kp H (upd H p (.lst ys)) := fun a u e n => by
  by_cases h : a = p
  · subst h; rw [hp] at e; cases e; exact absurd rfl (n xs)
  · rw [upd_ne h]; exact e
theorem rel_free (r : Rel K H σ g) (hp : H p = some (.lst xs)) (n : ¬ Ow σ g p) : Rel K (upd H p (.lst ys)) σ g := by
  have k := Kp.lst (ys := ys) hp
  refine ⟨r.len, fun i d e => let ⟨v, h1, h2⟩ := r.val i d e; ⟨v, h1, h2.mono k⟩, fun i k' xs e => ?_, r.inj⟩
  obtain ⟨a, ws, h1, h2, h3⟩ := r.own i k' xs e
  exact ⟨a, ws, h1, by rw [upd_ne (show a ≠ p from fun z => n ⟨i, k', xs, e, z ▸ h1⟩)]; exact h2, h3.mono k⟩
theorem ste_free (s : StE σ g H1 g1 H) (hp : H1 p = none) : StE σ g H1 g1 (upd H p (.lst ys)) := by
  have ne : ∀ {a : Addr} {o : HO}, H1 a = some o → a ≠ p := fun e z => by subst z; rw [hp] at e; cases e
  refine ⟨fun a o e n => by rw [upd_ne (ne e)]; exact s.ext a o e n, fun a o e n => by rw [upd_ne (ne e)]; exact s.kp a o e n, fun a e => ?_, s.shr, s.stay, s.vals, s.lenE⟩
  by_cases h : a = p
  · subst h; exact absurd hp e
  · rw [upd_ne h]; exact s.dom a e
end
def W0 : Nat → L2.St → Hp → Prop := fun _ _ _ => False
def mComp (mi : Ev (List DK.D × List Nat)) (t : Tg) (mt : Ev Bool) (me : Ev DK.D) (own : List Nat) : Ev EV := bnd mi fun w => fun g => if w.1.length < lim then (match lockG w.2 g with
      | none => .bad
      | some (g1, k) => match compF own (assignT t) mt me w.1 [] (wipeG g1 own) with
        | .ok acc g' => match unlock w.2 k (restoreG g1 g' own) with | some g'' => .ok (.own acc) g'' | none => .bad
        | .exc _ _ => .bad
        | .bad => .bad) else .bad
theorem comp_run {K : PySem.W.Frag} {W : Nat → L2.St → Hp → Prop} {mi : Ev (List DK.D × List Nat)} {t : Tg} {mt : Ev Bool} {me : Ev DK.D} {own : List Nat} {σ : L2.St} {H : Hp} {Q : VK} (ht : ∀ l ∈ tgNames t, l ∈ own)
    (h : tM K W (mComp mi t mt me own) σ H Q) : tLc (tI K W mi) (tG K t) (tT K W0 mt) (tF K W0 me) own σ H Q := by
  obtain ⟨g, r, h⟩ := h
  refine ⟨g, r, h.bnd.mono fun w g0 H1 r0 s0 h J L hL _ hJ D hD => ?_⟩
  by_cases hlen : w.1.length < lim
  · rw [if_pos hlen] at h
    cases e : lockG w.2 g0 with
    | none => rw [e] at h; exact h.elim
    | some p =>
      obtain ⟨g1, ks⟩ := p
      rw [e] at h
      dsimp only at h
      have lk := lock_ok r0 e
      have hL := hL g1 ks e
      cases ec : compF own (assignT t) mt me w.1 [] (wipeG g1 own) with
      | bad => rw [ec] at h; exact h.elim
      | exc _ _ => rw [ec] at h; exact h.elim
      | ok accE gE =>
        rw [ec] at h
        dsimp only at h
        cases eu : unlock w.2 ks (restoreG g1 gE own) with
        | none => rw [eu] at h; exact h.elim
        | some gF =>
          rw [eu] at h
          have rw1 : Rel K H1 (wipe σ own) (wipeG g1 own) := lk.rel.wiped own
          have nOw : ∀ {g' : Gam} {H' : Hp}, StE (wipe σ own) (wipeG g1 own) H1 g' H' → ¬ Ow (wipe σ own) g' D := fun s z => by
            obtain ⟨_, q⟩ := rw1.ow_lst (s.ow z)
            rw [hD] at q; cases q
          refine ⟨fun i n H' => ∃ gx acc accV, Rel K H' (wipe σ own) (wipeG gx own) ∧ StE (wipe σ own) (wipeG g1 own) H1 (wipeG gx own) H' ∧ i + n = w.1.length ∧ acc.length ≤ i ∧ H' D = some (.lst accV) ∧ FzA K H' accV acc ∧
              compF own (assignT t) mt me (w.1.drop i) acc (wipeG gx own) = .ok accE gE,
            ⟨w.1.length, g1, [], [], rw1.new hD, .new hD, Nat.zero_add _, Nat.le_refl _, upd_same, .nil, ec⟩, fun i n H3 hw => ?_⟩
          obtain ⟨gx, acc, accV, r3, s3, hn, hacc, hDv, fa, ec⟩ := hw
          have kl : KeepL L H1 H3 := ⟨s3.kp, fun a ha o eo => s3.ext a o eo fun z => hL a ha (mt_wipe z)⟩
          obtain ⟨j1, j2⟩ := hJ H3 kl
          cases n with
          | zero =>
            obtain rfl : i = w.1.length := hn
            rw [List.drop_length] at ec
            cases ec
            obtain ⟨r4, s4⟩ := restored lk.rel r3 s3
            obtain ⟨r5, s5⟩ := lk.ste _ _ _ r4 s4 eu
            refine .inl ⟨j1, h H3 r5 s5 (.ref D) ⟨D, accV, rfl, hDv, fa, fun z => ?_⟩ fun a ea => ?_⟩
            · obtain ⟨_, q⟩ := r0.ow_lst (s5.ow z)
              rw [hD] at q; cases q
            · cases ea
              exact Classical.byContradiction fun z => s0.dom D z hD
          | succ n =>
            have hi : i < w.1.length := by omega
            have ed : w.1.drop i = w.1[i] :: w.1.drop (i + 1) := List.drop_eq_getElem_cons hi
            rw [ed] at ec
            obtain ⟨go, yl⟩ := j2 i _ (List.getElem?_eq_getElem hi)
            refine .inr ⟨go, fun H' => ∃ gx acc accV, Rel K H' (wipe σ own) (wipeG gx own) ∧ StE (wipe σ own) (wipeG g1 own) H1 (wipeG gx own) H' ∧ (i + 1) + n = w.1.length ∧ acc.length ≤ i + 1 ∧ H' D = some (.lst accV) ∧ FzA K H' accV acc ∧
              compF own (assignT t) mt me (w.1.drop (i + 1)) acc (wipeG gx own) = .ok accE gE, fun H' q => ⟨n, Nat.lt_succ_self n, q⟩, fun x H4 y => ?_⟩
            obtain ⟨hnew, fz⟩ := yl x H4 y
            have r4 : Rel K H4 (wipe σ own) (wipeG gx own) ∧ StE (wipe σ own) (wipeG gx own) H3 (wipeG gx own) H4 := by
              rcases hnew with rfl | ⟨p, o, hp, rfl⟩
              · exact ⟨r3, .refl⟩
              · exact ⟨r3.new hp, .new hp⟩
            obtain ⟨r4, s34⟩ := r4
            unfold compF at ec
            cases e5 : assignT t w.1[i] (wipeG gx own) with
            | none => rw [e5] at ec; cases ec
            | some g5 =>
              rw [e5] at ec
              dsimp only at ec
              refine ⟨wipeG gx own, w.1[i], g5, r4, fz, e5, fun σ5 r5 s5 o5 => ?_⟩
              obtain ⟨hw, fin⟩ := turn_end ht e5 o5 r4 r5
              refine ⟨hw, g5, r5, ?_⟩
              cases e6 : mt g5 with
              | bad => rw [e6] at ec; cases ec
              | exc _ _ => rw [e6] at ec; cases ec
              | ok b g6 =>
                rw [e6] at ec
                intro H6 r6 s6
                cases b with
                | false =>
                  dsimp only at ec ⊢
                  rw [if_neg Bool.false_ne_true]
                  obtain ⟨r7, s7⟩ := fin g6 H6 r6 s6
                  have s7' := s34.trans s7
                  exact ⟨g6, acc, accV, r7, s3.trans s7', by omega, by omega, s7'.ext D _ hDv fun z => nOw s3 z.ow, fa.mono s7'.kp, ec⟩
                | true =>
                  dsimp only at ec ⊢
                  rw [if_pos rfl]
                  refine ⟨g6, r6, ?_⟩
                  cases e7 : me g6 with
                  | bad => rw [e7] at ec; cases ec
                  | exc _ _ => rw [e7] at ec; cases ec
                  | ok d g7 =>
                    rw [e7] at ec
                    intro H7 r7 s7 v fv
                    obtain ⟨r8, s8⟩ := fin g7 H7 r7 (s6.trans s7)
                    have s8' := s34.trans s8
                    have hD7 : H7 D = some (.lst accV) := s8'.ext D _ hDv fun z => nOw s3 z.ow
                    have k9 := Kp.lst (ys := accV ++ [v]) hD7
                    refine ⟨accV, hD7, by rw [fa.length, lim_eq]; omega, g7, acc ++ [d], accV ++ [v], rel_free r8 hD7 (nOw (s3.trans s8')), ste_free (s3.trans s8') hD, by omega, by rw [List.length_append]; simp; omega, upd_same, ((fa.mono s8'.kp).mono k9).append (.cons (fv.mono k9) .nil), ec⟩
  · rw [if_neg hlen] at h; exact h.elim
section
variable {X : Cx} {W : Nat → L2.St → Hp → Prop} {elt tg iter : Expr} {ifs : List Expr} {scope : Scope} {own : List (Str × Nat)} {pos spos : Pos} {mi : Ev (List DK.D × List Nat)} {t : Tg} {mt : Ev Bool} {me : Ev EV}
theorem sts_nil : PTs X [] (tT X.K W0 (pur true)) := ⟨fun pins s σ H Q I h => by
  obtain ⟨g, r, h⟩ := h
  exact pts_nil.run pins s σ H Q I (h H r .refl)⟩
theorem sts_one {c : Expr} {m : Ev Bool} (h : PT X c (tT X.K W0 m)) : PTs X [c] (tT X.K W0 m) := pts_one h
theorem se_comp (hc : X.calm = true) (hN : X.N.Nodup) (hi : PI X tg iter (tI X.K W mi)) (ok : BlkOk X.N X.env.scope scope own) (hto : ∀ l ∈ tgNames t, l ∈ own.map (·.2))
    (hg : ∀ (s : Shared) (H : Hp) (C : Addr) (cl : List (Str × Addr)) (fp : List Addr), PG (X.blk s H scope (compEnvC scope cl C X.env) fp) tg (tG X.K t)) (ht : ∀ (s : Shared) (H : Hp) (C : Addr) (cl : List (Str × Addr)) (fp : List Addr), PTs (X.blk s H scope (compEnvC scope cl C X.env) fp) ifs (tT X.K W0 mt))
    (he : ∀ (s : Shared) (H : Hp) (C : Addr) (cl : List (Str × Addr)) (fp : List Addr), PE (X.blk s H scope (compEnvC scope cl C X.env) fp) elt (tM X.K W0 me)) (hs : ∀ x, foldedSetIterable iter X.env x = pure x) :
    PE X (.ListComp elt [⟨tg, iter, ifs, 0⟩] scope pos) (tM X.K W (mComp mi t mt (bnd me freeze) (own.map (·.2)))) :=
  (pe_lc hc hN hi ok hg ht (fun s H C cl fp => pe_frz (he s H C cl fp)) hs).imp fun σ H Q h => comp_run hto h
theorem ss_setLc {i : Nat} {y : Str} {py : Pos} (frz : Bool) (hc : X.calm = true) (hN : X.N.Nodup) (hy : X.N[i]? = some y) (hyl : X.env.scope.names.lookup y = some .local)
    (hsw : swapsWith (.ListComp elt [⟨tg, iter, ifs, 0⟩] scope pos) (some (.Name y py)) spos.line X.env = pure true) (hi : PI X tg iter (tI X.K W mi)) (ok : BlkOk X.N X.env.scope scope own) (hto : ∀ l ∈ tgNames t, l ∈ own.map (·.2))
    (hg : ∀ (s : Shared) (H : Hp) (C : Addr) (cl : List (Str × Addr)) (fp : List Addr), PG (X.blk s H scope (compEnvC scope cl C X.env) fp) tg (tG X.K t)) (ht : ∀ (s : Shared) (H : Hp) (C : Addr) (cl : List (Str × Addr)) (fp : List Addr), PTs (X.blk s H scope (compEnvC scope cl C X.env) fp) ifs (tT X.K W0 mt))
    (he : ∀ (s : Shared) (H : Hp) (C : Addr) (cl : List (Str × Addr)) (fp : List Addr), PE (X.blk s H scope (compEnvC scope cl C X.env) fp) elt (tM X.K W0 me)) (hs : ∀ x, foldedSetIterable iter X.env x = pure x) :
    PS X (.Assign [.Name y py] (.ListComp elt [⟨tg, iter, ifs, 0⟩] scope pos) spos) (tS X.K W (runE (mComp mi t mt (bnd me freeze) (own.map (·.2))) (setF i frz))) :=
  ss_set frz ((ps_setLc hc hN hy hyl hsw hi ok hg ht (fun s H C cl fp => pe_frz (he s H C cl fp)) hs).imp fun D σ H h => comp_run hto h)
end
end DK
end
section
set_option maxRecDepth 100000
set_option maxHeartbeats 4000000
namespace DK
open PySem L2 PySem.Spec PyProof.Rows
theorem fnG_of {P : Program} {w : World} {K : PySem.W.Frag} {mg : Str → Option Value} {base : Heap} {k : Nat} {f : Addr} {name qual : Str} {params : Arguments} {body : List Stmt} {scope : Scope} {dV kV doc pm cdv ct oc : Value} {an od : Option Addr}
    {osl : Array (Option Value)} {N ps : List Str} {sp : Sp} (lk : K.lookup f = some ⟨oc, od, .func (PySem.W.fnOf name qual params body scope dV kV doc pm an cdv ct), osl⟩) (hcd : PySem.W.codeIn K cdv qual = true) (S : FnScope N ps scope)
    (len : ∀ vs H Q E, sp vs H Q E → vs.length = ps.length)
    (hbody : ∀ (A : Around) (outer : List Env) (s : Shared) (H : Hp) (vs : List V) (Q : VK) (E : XK), Room k (A.deeper (envOfC qual scope s.heap.objs.size f cdv)) → A.guards = some [] → sp vs H Q E →
      ∃ t, PSs (cxOf (L2.CX P w) P w K mg base N qual scope f cdv A outer s H E) body t ∧ t { nx := fun _ H' => Q .non H', rt := Q } (start N vs) H) :
    FnG P w K mg base (k + 1) f (PySem.W.fnOf name qual params body scope dV kV doc pm an cdv ct) ps sp := by
  refine ⟨len, fun A outer s H args us vs Q E hr hgd e0 hb r hsp => ?_⟩
  have hl := len _ _ _ _ hsp
  have KX : K.In s.heap := e0.mod.kin.keeps fun b o e => (e0.bs b o e).1
  have lim : s.heap.NoLimit := e0.mod.nolimit.keeps fun b o e => (e0.bs b o e).1
  have kinds : ∀ y ∈ ps.zip us, scope.names.lookup y.1 = some .local ∨ (scope.names.lookup y.1 = some .cell ∧ ((cellsFrom (s.heap.objs.size + 1) scope.names []).lookup y.1).isSome = true) := fun ⟨n, v⟩ hy =>
    (S.par n (List.of_mem_zip hy).1).imp id fun q => ⟨q, PySem.W.cellsFrom_some _ _ _ (.inl q)⟩
  refine codeAny_call_function hr.depth (KX _ _ lk) rfl S.co S.gen rfl (PySem.W.codeRec_of KX hcd) (hb _ _ _ _ ?_)
  refine wpAny_newFunctionEnv_cells S.kind kinds fun env he s1 x => ?_
  subst he
  refine ⟨lim.keeps x.toInCall.keep, codeAny_func ?_⟩
  obtain ⟨t, ht, hq⟩ := hbody A outer s H vs Q E (hr.deeper _) hgd hsp
  have I : L2.Inv (cxOf (L2.CX P w) P w K mg base N qual scope f cdv A outer s H E) [] (start N vs) H s1 := inv_start S hr.hd e0 hl r x
  refine wpAny_mono (ht.run [] s1 (start N vs) H _ I hq) (fun fl s' hs => ?_) fun e s' hs => hs
  cases fl with
  | ret u =>
    obtain ⟨v, σ', H', J, rv, q⟩ := hs
    exact ⟨v, H', J.os, J.bare, J.base, J.hok, rv, q⟩
  | next =>
    obtain ⟨σ', H', J, q⟩ := hs
    exact ⟨.non, H', J.os, J.bare, J.base, J.hok, rfl, q⟩
  | brk => exact hs.choose_spec.choose_spec.2.elim
  | cont => exact hs.choose_spec.choose_spec.2.elim
/-! ### the entry and the end -/
section
variable {K : PySem.W.Frag} {H H' : Hp} {σ' : L2.St} {g' : Gam} {vs : List V} {as : List Slot} {n : Nat} {N : List Str}
def entry (as : List Slot) (ns : Nat) : Gam := as ++ List.replicate (ns - as.length) .no
theorem entry_own {i : Nat} {k : Kd} {xs : List DK.D} {m : Nat} : (as ++ List.replicate m Slot.no)[i]? = some (.own k xs) ↔ as[i]? = some (.own k xs) := by
  by_cases h : i < as.length
  · rw [List.getElem?_append_left h]
  · rw [List.getElem?_append_right (by omega), List.getElem?_replicate, List.getElem?_eq_none (show as.length ≤ i by omega)]
    constructor
    · intro e; split at e <;> cases e
    · intro e; cases e
theorem start_at {i : Nat} (h : i < vs.length) : (start N vs)[i]? = (vs.map some)[i]? := by
  unfold L2.start
  rw [List.getElem?_append_left (by simpa using h)]
theorem rel_start (r : Rel K H (vs.map some) as) : Rel K H (start N vs) (as ++ List.replicate (N.length - vs.length) .no) := by
  have hl : as.length = vs.length := by rw [r.len, List.length_map]
  have lt : ∀ {i : Nat} {s : Slot}, (as ++ List.replicate (N.length - vs.length) Slot.no)[i]? = some s → s ≠ .no → i < vs.length ∧ as[i]? = some s := fun {i s} e n => by
    by_cases h : i < as.length
    · rw [List.getElem?_append_left h] at e; exact ⟨by omega, e⟩
    · rw [List.getElem?_append_right (by omega), List.getElem?_replicate] at e
      split at e <;> cases e
      exact absurd rfl n
  refine ⟨by simp [L2.start, hl], fun i d e => ?_, fun i k xs e => ?_, fun i j k l xs ys a e1 e2 z1 z2 => ?_⟩
  · obtain ⟨h, e⟩ := lt e (fun q => by cases q)
    rw [start_at h]; exact r.val i d e
  · obtain ⟨h, e⟩ := lt e (fun q => by cases q)
    rw [start_at h]; exact r.own i k xs e
  · obtain ⟨h1, e1⟩ := lt e1 (fun q => by cases q)
    obtain ⟨h2, e2⟩ := lt e2 (fun q => by cases q)
    rw [start_at h1] at z1; rw [start_at h2] at z2
    exact r.inj i j k l xs ys a e1 e2 z1 z2
theorem cut_len : ∀ {as : List Slot} {g : Gam}, (cut as g).length = as.length
  | [], _ => rfl
  | .no :: r, [] => by simp [cut, cut_len (as := r) (g := [])]
  | .val _ :: r, [] => by simp [cut, cut_len (as := r) (g := [])]
  | .own k _ :: r, [] => by cases k <;> simp [cut, cut_len (as := r) (g := [])]
  | .no :: r, x :: g => by simp [cut, cut_len (as := r) (g := g)]
  | .val _ :: r, x :: g => by simp [cut, cut_len (as := r) (g := g)]
  | .own k _ :: r, x :: g => by cases k <;> simp [cut, cut_len (as := r) (g := g)]
theorem cut_step {a x : Slot} {r : List Slot} {g : Gam} {i : Nat} : (cut (a :: r) (x :: g))[i + 1]? = (cut r g)[i]? := by
  cases a with
  | no => simp [cut]
  | val _ => simp [cut]
  | own k _ => cases k <;> simp [cut]
theorem cut_stepN {a : Slot} {r : List Slot} {i : Nat} : (cut (a :: r) [])[i + 1]? = (cut r [])[i]? := by
  cases a with
  | no => simp [cut]
  | val _ => simp [cut]
  | own k _ => cases k <;> simp [cut]
theorem cut_headN {a : Slot} {r : List Slot} : (cut (a :: r) [])[0]? = some .no := by
  cases a with
  | no => simp [cut]
  | val _ => simp [cut]
  | own k _ => cases k <;> simp [cut]
theorem cut_at : ∀ {as : List Slot} {g : Gam} {i : Nat} {k : Kd} {xs : List DK.D}, as[i]? = some (.own k xs) → k ≠ .mine → i < g.length → (cut as g)[i]? = g[i]?
  | [], _, _, _, _, e, _, _ => by simp at e
  | _ :: _, [], _, _, _, _, _, h => by simp at h
  | s :: r, x :: g, 0, k, xs, e, n, _ => by
    simp at e; subst e
    cases k <;> first | rfl | exact absurd rfl n
  | s :: r, x :: g, i + 1, k, xs, e, n, h => by
    rw [cut_step, cut_at (as := r) (g := g) (i := i) (k := k) (xs := xs) (by simpa using e) n (by simpa using h)]
    simp
theorem cut_some : ∀ {as : List Slot} {g : Gam} {i : Nat} {s : Slot}, (cut as g)[i]? = some s → s ≠ .no → g[i]? = some s ∧ ∃ k xs, as[i]? = some (.own k xs) ∧ k ≠ .mine
  | [], _, _, _, e, _ => by simp [cut] at e
  | a :: r, [], 0, s, e, n => by
    rw [cut_headN] at e; cases e; exact absurd rfl n
  | a :: r, [], i + 1, s, e, n => by
    rw [cut_stepN] at e
    obtain ⟨h, _⟩ := cut_some e n
    simp at h
  | a :: r, x :: g, 0, s, e, n => by
    cases a with
    | no => simp [cut] at e; exact absurd e.symm n
    | val d => simp [cut] at e; exact absurd e.symm n
    | own k xs =>
      cases k with
      | mine => simp [cut] at e; exact absurd e.symm n
      | loan => simp [cut] at e; subst e; exact ⟨rfl, .loan, xs, rfl, fun q => by cases q⟩
      | lock => simp [cut] at e; subst e; exact ⟨rfl, .lock, xs, rfl, fun q => by cases q⟩
  | a :: r, x :: g, i + 1, s, e, n => by
    rw [cut_step] at e
    obtain ⟨h1, h2⟩ := cut_some e n
    exact ⟨by simpa using h1, by simpa using h2⟩
theorem noMine_at (h : noMine as = true) {i : Nat} {xs : List DK.D} (e : as[i]? = some (.own .mine xs)) : False := by
  unfold noMine at h
  rw [List.all_eq_true] at h
  have := h _ (List.mem_of_getElem? e)
  cases this
theorem end_ok (nm : noMine as = true) (r : Rel K H (vs.map some) as) (r' : Rel K H' σ' g') (s : Stp (start N vs) (as ++ List.replicate (N.length - vs.length) .no) H σ' g' H') :
    Rel K H' (vs.map some) (cut as g') ∧ (∀ a o, H a = some o → ¬ Mt (vs.map some) as a → H' a = some o) ∧ Kp H H' ∧ (∀ a, H a ≠ none → H' a ≠ none) ∧
    ∀ (i : Nat) (k : Kd) (xs : List DK.D), as[i]? = some (.own k xs) → ∃ ys, (cut as g')[i]? = some (.own k ys) ∧ (k = .lock → ys = xs) := by
  have hl : as.length = vs.length := by rw [r.len, List.length_map]
  have back : ∀ {i : Nat} {k : Kd} {xs : List DK.D}, as[i]? = some (.own k xs) → k ≠ .mine → ∃ ys : List DK.D, g'[i]? = some (.own k ys) ∧ (k = .lock → ys = xs) ∧ σ'[i]? = (vs.map some)[i]? := fun {i k xs} e n => by
    obtain ⟨ys, h1, h2, h3⟩ := s.stay i k xs (entry_own.mpr e) n
    exact ⟨ys, h1, h2, by rw [h3, start_at]; have := ix_lt e; omega⟩
  refine ⟨⟨by rw [cut_len]; exact r.len, fun i d e => ?_, fun i k xs e => ?_, fun i j k l xs ys a e1 e2 z1 z2 => ?_⟩, fun a o e n => s.ext a o e fun z => n ?_, s.kp, s.dom, fun i k xs e => ?_⟩
  · obtain ⟨e1, k, xs, e2, n⟩ := cut_some e (fun q => by cases q)
    obtain ⟨ys, e3, _⟩ := back e2 n
    rw [e1] at e3; cases e3
  · obtain ⟨e1, k', xs', e2, n⟩ := cut_some e (fun q => by cases q)
    obtain ⟨ys, e3, _, z⟩ := back e2 n
    rw [← z]; exact r'.own i k xs e1
  · obtain ⟨e1, k', xs', q1, n1⟩ := cut_some e1 (fun q => by cases q)
    obtain ⟨e2, l', ys', q2, n2⟩ := cut_some e2 (fun q => by cases q)
    obtain ⟨_, _, _, y1⟩ := back q1 n1
    obtain ⟨_, _, _, y2⟩ := back q2 n2
    rw [← y1] at z1; rw [← y2] at z2
    exact r'.inj i j k l xs ys a e1 e2 z1 z2
  · obtain ⟨i, k, xs, e, nk, z⟩ := z
    have e := entry_own.mp e
    rw [start_at (by have := ix_lt e; omega)] at z
    exact ⟨i, k, xs, e, nk, z⟩
  · have n : k ≠ .mine := fun q => by subst q; exact noMine_at nm e
    obtain ⟨ys, h1, h2, h3⟩ := back e n
    exact ⟨ys, by rw [cut_at e n (ix_lt h1)]; exact h1, h2⟩
end
def WC (cl : Nat → Addr) (E : XK) : Nat → L2.St → Hp → Prop := fun c _ H => E (.ref (cl c)) none H
theorem body_run {K : PySem.W.Frag} {cl : Nat → Addr} {N : List Str} {n : Nat} {m : Gam → Flow} {cr : List Slot → CRes} {vs : List V} {H : Hp} {Q : VK} {E : XK} (hcr : ∀ as, as.length = n → cr as = finish as (m (as ++ List.replicate (N.length - n) .no))) (h : spC K cl n cr vs H Q E) :
    tS K (WC cl E) m { nx := fun _ H' => Q .non H', rt := Q } (start N vs) H := by
  obtain ⟨hn, as, nm, r, h⟩ := h
  have hl : as.length = vs.length := by rw [r.len, List.length_map]
  refine ⟨as ++ List.replicate (N.length - vs.length) .no, rel_start r, ?_⟩
  rw [hcr as (by omega), ← hn] at h
  cases e : m (as ++ List.replicate (N.length - vs.length) .no) with
  | bad => rw [e] at h; exact h.elim
  | brk g' => rw [e] at h; exact h.elim
  | cont g' => rw [e] at h; exact h.elim
  | next g' =>
    rw [e] at h
    exact fun σ' H' r' s => h .non H' (end_ok nm r r' s) .non
  | exc c g' =>
    rw [e] at h
    exact fun σ' H' r' s => h H' (end_ok nm r r' s)
  | ret ev g' =>
    rw [e] at h
    intro v σ' H' r' s rt
    cases ev with
    | bor i => exact rt.elim
    | val d => exact h v H' (end_ok nm r r' s) rt
    | own xs =>
      obtain ⟨a, ws, rfl, h1, h2, h3⟩ := rt
      refine h a ws H' (end_ok nm r r' s) h1 h2 (h3.resolve_right fun z => ?_)
      obtain ⟨i, ys, q, _⟩ := z
      exact noMine_at nm (entry_own.mp q)
end DK
end
section
set_option maxRecDepth 100000
set_option maxHeartbeats 4000000
namespace DK
open PySem L2 PySem.Spec PyProof.Rows
section
variable {X : Cx} {W : Nat → L2.St → Hp → Prop} {a b c e : Expr} {ma mb mc : Ev EV} {pos : Pos} {es : List Expr}
/-! ### slices -/
def rSlc (K : PySem.W.Frag) : V → Option Int → Option Int → Hp → VK → Prop := fun v lo hi H Q => ∃ d ev, Cv K H v d ∧ sliceD d lo hi = some ev ∧ ResV K H Q ev
theorem cut_fz {K : PySem.W.Frag} {H : Hp} {vs : List V} {ds : List DK.D} (f : FzA K H vs ds) (lo hi : Option Int) : FzA K H (cutV vs lo hi) (cutD ds lo hi) := by
  unfold cutV cutD
  rw [f.length]
  exact (f.drop _).take _
theorem slice_ok : SlR X (rSlc X.K) := by
  intro pins s σ H x v vl vu lo hi sl Q I rx hs pl pu h
  obtain ⟨d, ev, cx, e, q⟩ := h
  cases d with
  | list ds =>
    cases e
    obtain ⟨a, ws, rfl, l, f⟩ := cx.lst
    exact sl_list pins s σ H _ v vl vu lo hi sl Q I rx hs pl pu ⟨a, ws, rfl, l, fun p hp => q p _ hp (cut_fz f lo hi)⟩
  | tuple ds =>
    cases e
    obtain ⟨a, ws, rfl, l, f⟩ := cx.tup
    refine sl_tupA pins s σ H _ v vl vu lo hi sl Q I rx hs pl pu ⟨a, ws, rfl, l.sqt, fun hw => q H _ .refl (.tup l ?_), fun _ p hp => q _ _ (.upd hp) (.tup (.inl upd_same) ((cut_fz f lo hi).mono (Nw.upd hp).kp))⟩
    have := cut_fz f lo hi
    unfold cutV at this
    rw [hw.1, hw.2, List.drop_zero, Nat.sub_zero, List.take_length] at this
    exact this
  | str z =>
    obtain ⟨c, e'⟩ := ifS e
    cases e'
    cases cx.str
    exact sl_str pins s σ H _ v vl vu lo hi sl Q I rx hs pl pu ⟨z, rfl, by rw [sizeLine_eq]; exact c, q H _ .refl (.str _)⟩
  | _ => cases e
theorem sliceD_nb {d : DK.D} {lo hi : Option Int} {ev : EV} (h : sliceD d lo hi = some ev) : ∀ i, ev ≠ .bor i := by
  intro i z
  subst z
  unfold sliceD at h
  split at h <;> first | cases h | (split at h <;> cases h)
def mSlc (k : SlK) (ma mb : Ev EV) : Ev EV := bnd ma fun x => bnd mb fun y => bnd (opt (intV y)) fun i => bnd (content x) fun d => opt (slcD k d i)
def mSlc2 (ma mb mc : Ev EV) : Ev EV := bnd ma fun x => bnd mb fun y => bnd (opt (intV y)) fun i => bnd mc fun z => bnd (opt (intV z)) fun j => bnd (content x) fun d => opt (sliceD d (some i) (some j))
theorem intV_ok {y : EV} {i : Int} (h : intV y = some i) : y = .val (.int i) := by
  unfold intV at h
  split at h <;> cases h
  rfl
theorem up_fr {H H1 : Hp} {σ : L2.St} {g g1 : Gam} (s : StE σ g H g1 H1) {v : V} {ev : EV} (h : Fr H1 v ev) : Fr H v ev := by
  cases ev with
  | own xs => exact fun a ea => Classical.byContradiction fun z => s.dom a z (h a ea)
  | val _ => trivial
  | bor _ => trivial
theorem slc_fin {lo hi : Option Int} {σ : L2.St} {H H2 : Hp} {g g2 : Gam} {x : EV} {v : V} {Q : VK} (r2 : Rel X.K H2 σ g2) (s : StE σ g H g2 H2) (hv : RV X.K H2 σ g2 v x)
    (h : Run X.K W σ g2 H2 (bnd (content x) (fun d => opt (sliceD d lo hi)) g2) fun ev g' H' => ∀ u, RV X.K H' σ g' u ev → Fr H u ev → Q u H') : rSlc X.K v lo hi H2 Q := by
  obtain ⟨d, _, cx, h⟩ := hv.content r2 h
  cases q : sliceD d lo hi with
  | none => rw [q] at h; exact h.elim
  | some ev =>
    rw [q] at h
    exact ⟨d, ev, cx, q, fin_res r2 (h.mono fun ev g' H' _ _ q u hu hf => q u hu (up_fr s hf)) ⟨rfl, sliceD_nb q⟩⟩
theorem se_slcLo {p2 : Pos} (ha : PE X a (tM X.K W ma)) (hb : PE X b (tM X.K W mb)) : PE X (.Subscript a (.Slice (some b) none none p2) pos) (tM X.K W (mSlc .lo ma mb)) :=
  (pe_slice slice_ok ha (po_some hb) po_none).imp fun σ H Q h => by
    obtain ⟨g, r, h⟩ := h
    refine ⟨g, r, h.bnd.mono fun x g1 H1 r1 s1 h v hv _ => ⟨g1, r1, h.bnd.mono fun y g2 H2 r2 s2 h w hw _ => ?_⟩⟩
    obtain ⟨i, q, h⟩ := h.opt'
    have hw : RV X.K H2 σ g2 w (.val (.int i)) := intV_ok q ▸ hw
    exact ⟨i, Fz.int_inv hw, slc_fin r2 (s1.trans s2) (hv.step s2) h⟩
theorem se_slcHi {p2 : Pos} (ha : PE X a (tM X.K W ma)) (hb : PE X b (tM X.K W mb)) : PE X (.Subscript a (.Slice none (some b) none p2) pos) (tM X.K W (mSlc .hi ma mb)) :=
  (pe_slice slice_ok ha po_none (po_some hb)).imp fun σ H Q h => by
    obtain ⟨g, r, h⟩ := h
    refine ⟨g, r, h.bnd.mono fun x g1 H1 r1 s1 h v hv _ => ⟨g1, r1, h.bnd.mono fun y g2 H2 r2 s2 h w hw _ => ?_⟩⟩
    obtain ⟨i, q, h⟩ := h.opt'
    have hw : RV X.K H2 σ g2 w (.val (.int i)) := intV_ok q ▸ hw
    exact ⟨i, Fz.int_inv hw, slc_fin r2 (s1.trans s2) (hv.step s2) h⟩
theorem se_slcBoth {p2 : Pos} (ha : PE X a (tM X.K W ma)) (hb : PE X b (tM X.K W mb)) (hc : PE X c (tM X.K W mc)) : PE X (.Subscript a (.Slice (some b) (some c) none p2) pos) (tM X.K W (mSlc2 ma mb mc)) :=
  (pe_slice slice_ok ha (po_some hb) (po_some hc)).imp fun σ H Q h => by
    obtain ⟨g, r, h⟩ := h
    refine ⟨g, r, h.bnd.mono fun x g1 H1 r1 s1 h v hv _ => ⟨g1, r1, h.bnd.mono fun y g2 H2 r2 s2 h w hw _ => ?_⟩⟩
    obtain ⟨i, q, h⟩ := h.opt'
    have hw : RV X.K H2 σ g2 w (.val (.int i)) := intV_ok q ▸ hw
    refine ⟨i, Fz.int_inv hw, g2, r2, h.bnd.mono fun z g3 H3 r3 s3 h u hu _ => ?_⟩
    obtain ⟨j, q, h⟩ := h.opt'
    have hu : RV X.K H3 σ g3 u (.val (.int j)) := intV_ok q ▸ hu
    exact ⟨j, Fz.int_inv hu, slc_fin r3 ((s1.trans s2).trans s3) ((hv.step s2).step s3) h⟩
/-! ### methods that change nothing -/
def mMeth (m : Meth) (ma : Ev EV) (md : Ev (List EV)) : Ev EV := bnd ma fun x => bnd (tyM m x) fun _ => bnd md fun vs => bnd (content x) fun d => bnd (contents vs) fun ds => opt (methD m d ds)
def methNm : Meth → Str | .index => "index" | .count => "count" | .join => "join" | .split => "split"
def isLst : DK.D → Bool | .list _ => true | _ => false
def rMethK (K : PySem.W.Frag) (m : Meth) (isL : Bool) : V → List V → Hp → VK → Prop := fun v vs H Q => ∃ d ds ev, Cv K H v d ∧ CvA K H vs ds ∧ isLst d = isL ∧ methD m d ds = some ev ∧ ResV K H Q ev
theorem methD_nb {m : Meth} {d : DK.D} {ds : List DK.D} {ev : EV} (h : methD m d ds = some ev) : ∀ i, ev ≠ .bor i := by
  intro i z
  subst z
  unfold methD at h
  split at h
  · obtain ⟨_, h⟩ := ifS' h
    obtain ⟨_, _, h⟩ := Option.map_eq_some_iff.mp h
    cases h
  · cases h
  · obtain ⟨_, h⟩ := ifS h
    cases h
  · obtain ⟨_, _, h⟩ := Option.bind_eq_some_iff.mp h
    obtain ⟨_, h⟩ := ifS h
    cases h
  · obtain ⟨_, _, h⟩ := Option.bind_eq_some_iff.mp h
    obtain ⟨_, h⟩ := ifS h
    cases h
  · obtain ⟨_, h⟩ := ifS h
    cases h
  · cases h
theorem placeD_ok {d : DK.D} : ∀ {xs : List DK.D} {i k : Nat}, placeD d xs i = some k → i ≤ k ∧ ∃ z, xs[k - i]? = some z ∧ PyData.eqv z d = true ∧ ∀ (m : Nat) (z' : DK.D), m < k - i → xs[m]? = some z' → PyData.eqv z' d = false
  | [], _, _, h => by cases h
  | x :: r, i, k, h => by
    unfold placeD at h
    cases q : PyData.eqv x d with
    | true =>
      rw [q, if_pos rfl] at h; cases h
      exact ⟨Nat.le_refl _, x, by simp, q, fun m z' hm _ => by omega⟩
    | false =>
      rw [q, if_neg Bool.false_ne_true] at h
      obtain ⟨h1, z, h2, h3, h4⟩ := placeD_ok h
      refine ⟨by omega, z, by rw [show k - i = (k - (i + 1)) + 1 by omega, List.getElem?_cons_succ]; exact h2, h3, fun m z' hm e => ?_⟩
      cases m with
      | zero => simp at e; subst e; exact q
      | succ m => exact h4 m z' (by omega) (by simpa using e)
theorem strL_fz {K : PySem.W.Frag} {H : Hp} : ∀ {vs : List V} {ds : List DK.D} {zs : List Str}, FzA K H vs ds → strL ds = some zs → vs = zs.map V.str
  | _, _, _, .nil, e => by cases e; rfl
  | _, _, zs, .cons (d := d) a t, e => by
    cases a <;> simp only [strL] at e <;> try cases e
    rename_i vs ds i
    cases q : strL ds with
    | none => rw [q] at e; cases e
    | some ms => rw [q] at e; cases e; rw [strL_fz t q]; rfl
theorem strs_fz {K : PySem.W.Frag} {H : Hp} : ∀ ys : List Str, FzA K H (ys.map V.str) (ys.map PyData.str)
  | [] => .nil
  | y :: ys => .cons (.str y) (strs_fz ys)
theorem index_ok (hu : X.A.units + 65 < cLine) : MtR X "list.index" (rMethK X.K .index true) := by
  intro pins s σ H x xs v us Q I rx rxs h
  obtain ⟨d, ds, ev, cx, cs, kd, e, q⟩ := h
  clear kd
  match d, ds, cs, e with
  | .list l, [y], cs, e =>
    obtain ⟨c, e⟩ := ifS' e
    obtain ⟨k, hk, e⟩ := Option.map_eq_some_iff.mp e
    cases e
    rw [Bool.and_eq_true] at c
    obtain ⟨w, rfl, cy⟩ := cs.one
    obtain ⟨a, ws, rfl, sl, f⟩ := cx.lst
    obtain ⟨_, z, h2, h3, h4⟩ := placeD_ok hk
    exact mt_indexD hu pins s σ H _ _ v us Q I rx rxs ⟨a, w, y, l, k, z, rfl, rfl, cx.dp, cy.dp, c.1, c.2, by simpa using h2, h3, (fun m z' hm e => h4 m z' (by omega) e), q H _ .refl (.int _)⟩
  | .none, _, _, e => cases e
  | .bool _, _, _, e => cases e
  | .int _, _, _, e => cases e
  | .str _, _, _, e => cases e
  | .tuple _, _, _, e => cases e
  | .dict _, _, _, e => cases e
  | .list _, [], _, e => cases e
  | .list _, _ :: _ :: _, _, e => cases e
theorem mt_countD (hu : X.A.units + 65 < cLine) : MtR X "list.count" (fun v vs H Q => ∃ (y : V) (d : PyData) (ds : List PyData), vs = [y] ∧ Cv X.K H v (.list ds) ∧ Cv X.K H y d ∧ SeqAt.shaped (.list ds) = true ∧ SeqAt.shaped d = true ∧ Q (.int ((ds.countP fun z => PyData.eqv z d : Nat) : Int)) H) := by
  intro pins s σ H x xs v us Q I rx rxs h
  obtain ⟨y, d, ds, rfl, hl, hy, sl, sd, q⟩ := h
  obtain ⟨u, rfl, ru⟩ := rxs.one
  obtain ⟨bs, r1⟩ := Dp.reads I d y u hy.dp ru
  have lay : PyData.canLayAll0 ds = true := SeqAt.canLay_of_shaped sl
  obtain ⟨a, ws, rfl, hs, f⟩ := hl.lst
  cases rx
  obtain ⟨its, rv, ⟨⟨cls, dd, data, sls⟩, n, ho, hc, hdn, hdt⟩, hlen⟩ := I.list hs
  simp only at hc hdt
  subst hc hdt
  obtain ⟨as, h4⟩ := Dp.readsAll I ds _ its f.dp rv
  have hm : its.map (SeqAt.readOf s.heap) = ds := SeqAt.readsAll_map ds its as lay h4
  refine call_meets PySem.F.slot_list_count ⟨_, ho, rfl⟩ PySem.F.entry_list_count (PySem.F.args_list_count_2 _ _)
    (SeqAt.list_countAt a its.toArray n dd sls u fun w => PyData.eqv (SeqAt.readOf s.heap w) d) ⟨ho, SeqAt.items_eqAt (vs := its.toArray) (show ReadsAll s.heap its.toArray.toList ds as from h4) r1 lay (SeqAt.canLay_of_shaped sd) (room65 hu sd), ?_⟩
  refine ⟨.int ((ds.countP fun z => PyData.eqv z d : Nat) : Int), H, I.tok _, ⟨s.toks, ?_⟩, q⟩
  rw [← hm, List.countP_map]
  rfl
theorem count_ok (isL : Bool) (hu : X.A.units + 65 < cLine) : MtR X (if isL then "list.count" else "str.count") (rMethK X.K .count isL) := by
  intro pins s σ H x xs v us Q I rx rxs h
  obtain ⟨d, ds, ev, cx, cs, kd, e, q⟩ := h
  match d, ds, cs, kd, e with
  | .str a, [.str b], cs, kd, e =>
    cases kd
    cases e
    obtain ⟨w, rfl, cy⟩ := cs.one
    cases cx.str; cases cy.str
    exact mt_count pins s σ H _ _ v us Q I rx rxs ⟨a, b, rfl, rfl, q H _ .refl (.int _)⟩
  | .list l, [y], cs, kd, e =>
    cases kd
    obtain ⟨c, e⟩ := ifS e
    cases e
    rw [Bool.and_eq_true] at c
    obtain ⟨w, rfl, cy⟩ := cs.one
    exact mt_countD hu pins s σ H _ _ v us Q I rx rxs ⟨w, y, l, rfl, cx, cy, c.1, c.2, q H _ .refl (.int _)⟩
  | .none, _, _, _, e => cases e
  | .bool _, _, _, _, e => cases e
  | .int _, _, _, _, e => cases e
  | .tuple _, _, _, _, e => cases e
  | .dict _, _, _, _, e => cases e
  | .list _, [], _, _, e => cases e
  | .list _, _ :: _ :: _, _, _, e => cases e
theorem join_ok : MtR X "str.join" (rMethK X.K .join false) := by
  intro pins s σ H x xs v us Q I rx rxs h
  obtain ⟨d, ds, ev, cx, cs, kd, e, q⟩ := h
  clear kd
  match d, ds, cs, e with
  | .str a, [.list ys], cs, e =>
    obtain ⟨zs, hz, e⟩ := Option.bind_eq_some_iff.mp e
    obtain ⟨c, e⟩ := ifS e
    cases e
    obtain ⟨w, rfl, cy⟩ := cs.one
    cases cx.str
    obtain ⟨b, ws, rfl, sl, f⟩ := cy.lst
    cases strL_fz f hz
    exact mt_join pins s σ H _ _ v us Q I rx rxs ⟨a, b, zs, rfl, rfl, .inl sl, c, q H _ .refl (.str _)⟩
  | .str a, [.tuple ys], cs, e =>
    obtain ⟨zs, hz, e⟩ := Option.bind_eq_some_iff.mp e
    obtain ⟨c, e⟩ := ifS e
    cases e
    obtain ⟨w, rfl, cy⟩ := cs.one
    cases cx.str
    obtain ⟨b, ws, rfl, sl, f⟩ := cy.tup
    cases strL_fz f hz
    exact mt_join pins s σ H _ _ v us Q I rx rxs ⟨a, b, zs, rfl, rfl, .inr sl.sqt, c, q H _ .refl (.str _)⟩
theorem split_ok : MtR X "str.split" (rMethK X.K .split false) := by
  intro pins s σ H x xs v us Q I rx rxs h
  obtain ⟨d, ds, ev, cx, cs, kd, e, q⟩ := h
  clear kd
  match d, ds, cs, e with
  | .str a, [.str b], cs, e =>
    obtain ⟨c, e⟩ := ifS e
    cases e
    obtain ⟨w, rfl, cy⟩ := cs.one
    cases cx.str; cases cy.str
    exact mt_split pins s σ H _ _ v us Q I rx rxs ⟨a, b, rfl, rfl, c.1, by rw [sizeLine_eq]; exact c.2, fun p hp => q p _ hp (strs_fz _)⟩
def methTy (m : Meth) (isL : Bool) : String := match m with | .index => "list" | .count => if isL then "list" else "str" | _ => "str"
def methId (m : Meth) (isL : Bool) : String := match m with | .index => "list.index" | .count => (if isL then "list.count" else "str.count") | .join => "str.join" | .split => "str.split"
structure MethOk (X : Cx) (m : Meth) (isL : Bool) : Prop where
  rule : MtR X (methId m isL) (rMethK X.K m isL)
  slot : PySem.Slot (methTy m isL) (methNm m) (methId m isL)
  ty : typeOf (.builtin (methId m isL)) = pure (.type "method_descriptor")
  pa : PlainAttrs (methTy m isL)
theorem meth_ok (hu : X.A.units + 65 < cLine) {m : Meth} {d : DK.D} (h : tyD m d = true) : MethOk X m (isLst d) := by
  cases m with
  | index =>
    cases d with
    | list _ => exact ⟨index_ok hu, PySem.F.slot_list_index, PySem.F.type_list_index, PySem.F.plainAttrs_list⟩
    | _ => cases h
  | count =>
    cases d with
    | list _ => exact ⟨count_ok true hu, PySem.F.slot_list_count, PySem.F.type_list_count, PySem.F.plainAttrs_list⟩
    | str _ => exact ⟨count_ok false hu, PySem.F.slot_str_count, PySem.F.type_str_count, PySem.F.plainAttrs_str⟩
    | _ => cases h
  | join =>
    cases d with
    | str _ => exact ⟨join_ok, PySem.F.slot_str_join, PySem.F.type_str_join, PySem.F.plainAttrs_str⟩
    | _ => cases h
  | split =>
    cases d with
    | str _ => exact ⟨split_ok, PySem.F.slot_str_split, PySem.F.type_str_split, PySem.F.plainAttrs_str⟩
    | _ => cases h
theorem ty_ok {K : PySem.W.Frag} {H : Hp} {v : V} {m : Meth} {d : DK.D} (h : tyD m d = true) (c : Cv K H v d) : tyV K (methTy m (isLst d)) v H := by
  cases m <;> cases d <;> first
    | (cases h; done)
    | (cases c.str; rfl)
    | (obtain ⟨a, ws, rfl, s, f⟩ := c.lst; exact .inl ⟨rfl, _, s⟩)
theorem same_kind {x : EV} {g g2 : Gam} {d d2 : DK.D} (h : content x g = .ok d g) (h2 : content x g2 = .ok d2 g2) : isLst d2 = isLst d := by
  cases x with
  | val d' => cases h; cases h2; rfl
  | own xs => cases h; cases h2; rfl
  | bor i =>
    have lst : ∀ {g : Gam} {d : DK.D}, content (.bor i) g = .ok d g → isLst d = true := fun {g d} h => by
      unfold content at h
      dsimp only at h
      split at h <;> cases h
      rfl
    rw [lst h, lst h2]
theorem pe_bmD {o : Expr} {name : Str} {apos : Pos} {to : TE} {t : TA} (ho : PE X o to) (ha : PA X [e] t) (hbase : attributeBase o name X.env (eval o X.env) = eval o X.env) (hline : (apos.endLine == pos.line) = true) (hs : isStar e = false) :
    PE X (.Call (.Attribute o name apos) [e] [] pos) (fun σ H Q => to σ H fun x H1 => ∃ (T id : String) (r : V → List V → Hp → VK → Prop), PlainAttrs T ∧ PySem.Slot T name id ∧ typeOf (.builtin id) = pure (.type "method_descriptor") ∧ MtR X id r ∧ tyV X.K T x H1 ∧ t σ H1 fun xs H2 => r x xs H2 Q) := by
  refine ⟨fun pins s σ H Q I h => ?_⟩
  have few := keepOne (env := X.env) (pos := pos) hs
  refine wpAny_Call_method_late hbase few hline rfl (thn (ho.run pins s σ H _ I h) fun v s1 ⟨x, H1, I1, r1, T, id, r, pa, slot, hty, hm, ty, q1⟩ => ?_)
  obtain ⟨h1, h2⟩ := tyV_is I1 r1 ty
  refine ⟨T, id, pa, slot, hty, h1, h2, ?_⟩
  have hA := ha.run pos pins s1 σ H1 _ I1 q1
  rw [star_no hs] at hA ⊢
  exact Calls.callWith_builtin rfl (Calls.evalArgs_plain (thn hA fun us s2 ⟨vs, H2, I2, r2, q2⟩ => hm pins s2 σ H2 x vs v us Q I2 r1 r2 q2))
theorem tyM_ok {K : PySem.W.Frag} {m : Meth} {x : EV} {σ : L2.St} {H : Hp} {g : Gam} {v : V} (hv : RV K H σ g v x) (r : Rel K H σ g) {β : Type} {f : Unit → Ev β} {P : β → Gam → Hp → Prop} (h : Run K W σ g H (bnd (tyM m x) f g) P) : ∃ d, content x g = .ok d g ∧ tyD m d = true ∧ Cv K H v d ∧ Run K W σ g H (f () g) P := by
  unfold tyM at h
  rw [bnd_assoc] at h
  obtain ⟨d, hc, c, h⟩ := hv.content r h
  by_cases e : tyD m d = true
  · rw [if_pos e] at h
    exact ⟨d, hc, e, c, h⟩
  · rw [if_neg e] at h; exact h.elim
def attrB : Expr → Bool | .Name .. => true | .Constant .. => true | _ => false
theorem attr_base {o : Expr} {nm : Str} {env : Env} (h : attrB o = true) : attributeBase o nm env (eval o env) = eval o env := by
  cases o <;> first | (cases h; done) | rfl
theorem se_meth (hu : X.A.units + 65 < cLine) (m : Meth) {apos : Pos} (ho : attrB a = true) (hl : (apos.endLine == pos.line) = true) (ha : PE X a (tM X.K W ma)) (he : PE X e (tM X.K W mb)) (hs : isStar e = false) :
    PE X (.Call (.Attribute a (methNm m) apos) [e] [] pos) (tM X.K W (mMeth m ma (mOneE mb))) :=
  (pe_bmD ha (pa_cons he pa_nil (star_no hs)) (attr_base ho) hl hs).imp fun σ H Q h => by
    obtain ⟨g, r, h⟩ := h
    refine ⟨g, r, h.bnd.mono fun x g1 H1 r1 s1 h v hv _ => ?_⟩
    obtain ⟨d1, hc1, td, c1, h⟩ := tyM_ok hv r1 h
    have M := meth_ok hu td
    refine ⟨_, _, _, M.pa, M.slot, M.ty, M.rule, ty_ok td c1, g1, r1, (run_oneE h).mono fun y g2 H2 r2 s2 h w hw _ => ?_⟩
    obtain ⟨d, hc2, cx, h⟩ := (hv.step s2).content r2 h
    obtain ⟨ds, cs, h⟩ := RVA.contents r2 (.cons hw .nil) h
    cases q : methD m d ds with
    | none => rw [q] at h; exact h.elim
    | some ev =>
      rw [q] at h
      exact ⟨d, ds, ev, cx, cs, same_kind hc1 hc2, q, fin_res r2 (h.mono fun ev g' H' _ _ q u hu hf => q u hu (up_fr (s1.trans s2) hf)) ⟨rfl, methD_nb q⟩⟩
end
end DK
end
section
set_option maxRecDepth 100000
set_option maxHeartbeats 4000000
namespace DK
open PySem L2 PySem.Spec PyProof.Rows
/-! ### [f, g, ..][i](..) -/
structure FnAt (X : Cx) (cl : Nat → Addr) (C : Nat → List Slot → CRes) (k n f : Nat) (x : Str) (a : Addr) : Prop where
  gl : Gl X x
  db : (x == ("__debug__" : Str)) = false
  mg : X.mg x = some (.ref a)
  kp : PySem.W.keepIn X.K (.ref a) = true
  fn : ∃ fd ps, Binds X.K fd ps [] ∧ FnG X.prog X.w X.K X.mg X.base k a fd ps (spC X.K cl n (C f))
  len : ∀ ss, C f ss ≠ .bad → ss.length = n
inductive FnsAt (X : Cx) (cl : Nat → Addr) (C : Nat → List Slot → CRes) (k n : Nat) : List Expr → List Nat → List Addr → Prop
  | nil : FnsAt X cl C k n [] [] []
  | cons {x : Str} {p : Pos} {f : Nat} {a : Addr} {es : List Expr} {fs : List Nat} {as : List Addr} : FnAt X cl C k n f x a → FnsAt X cl C k n es fs as → FnsAt X cl C k n (.Name x p :: es) (f :: fs) (a :: as)
section
variable {X : Cx} {cl : Nat → Addr} {C : Nat → List Slot → CRes} {k n : Nat} {W : Nat → L2.St → Hp → Prop} {ix e : Expr} {es args : List Expr} {fs : List Nat} {as : List Addr} {mi : Ev EV} {mas : Ev (List Arg)}
theorem FnsAt.len : ∀ {es : List Expr} {fs : List Nat} {as : List Addr}, FnsAt X cl C k n es fs as → fs.length = as.length
  | _, _, _, .nil => rfl
  | _, _, _, .cons _ t => by rw [List.length_cons, List.length_cons, FnsAt.len t]
theorem FnsAt.get : ∀ {es : List Expr} {fs : List Nat} {as : List Addr} {i f : Nat}, FnsAt X cl C k n es fs as → fs[i]? = some f → ∃ x a, as[i]? = some a ∧ FnAt X cl C k n f x a
  | _, _, _, _, _, .nil, h => by simp at h
  | _, _, _, 0, f, .cons h _, e => by simp at e; subst e; exact ⟨_, _, rfl, h⟩
  | _, _, _, i + 1, f, .cons _ t, e => by
    obtain ⟨x, a, h1, h2⟩ := FnsAt.get (i := i) (f := f) t (by simpa using e)
    exact ⟨x, a, by simpa using h1, h2⟩
theorem FnsAt.pa : ∀ {es : List Expr} {fs : List Nat} {as : List Addr}, FnsAt X cl C k n es fs as → PA X es (fun σ H Q => Q (as.map V.ref) H)
  | _, _, _, .nil => pa_nil.imp fun σ H Q h => h
  | _, _, _, .cons h t => (pa_cons (pe_glob (v := .ref _) h.gl h.mg rfl h.db) (FnsAt.pa t) rfl).imp fun σ H Q h => h
def mCallix (C : Nat → List Slot → CRes) (fs : List Nat) (mi : Ev EV) (mas : Ev (List Arg)) : Ev EV := bnd mi fun i => bnd (content i) fun i => match i with
    | .int i => match ixOf i fs.length with
      | some k => match fs[k]? with
        | some f => bnd mas fun as => doCall C f as
        | none => bad
      | none => bad
    | _ => bad
theorem se_callix {lp sp pos : Pos} (F : FnsAt X cl C k n es fs as) (hl : fs.length ≤ lim) (hr : Room k X.A) (hg : X.A.guards = some []) (tk : Takes X (tw cl W)) (hi : PE X ix (tM X.K W mi)) (hx : PlainIx ix) (ha : PA X (e :: args) (tAA X.K W mas)) (hst : (e :: args).all (fun e => !isStar e) = true) :
    PE X (.Call (.Subscript (.List es lp) ix sp) (e :: args) [] pos) (tM X.K W (mCallix C fs mi mas)) := by
  refine ⟨fun pins s σ H Q I h => ?_⟩
  obtain ⟨g, r, h⟩ := h
  refine PyProof.Rows.Call_ (thn ((pe_ix ix_list (pe_lst F.pa) hi hx).run pins s σ H (fun v H2 => ∃ f a x, v = .ref a ∧ FnAt X cl C k n f x a ∧ tAA X.K W mas σ H2 fun vs H3 => spC X.K cl n (C f) vs H3 Q (WE (tw cl W) σ)) I ?_) fun u s1 hu => ?_)
  · show (as.map V.ref).length ≤ sizeLine ∧ ∀ p, H p = none → _
    refine ⟨by rw [List.length_map, ← F.len, lim_eq]; exact hl, fun p hp => ?_⟩
    have s1 : StE σ g H g (upd H p (.lst (as.map V.ref))) := .new hp
    refine ⟨g, r.new hp, ?_⟩
    have h1 : Run X.K W σ g (upd H p (.lst (as.map V.ref))) (mCallix C fs mi mas g) fun ev g' H' => ∀ v, RV X.K H' σ g' v ev → Fr H v ev → Q v H' := by
      cases q : mCallix C fs mi mas g with
      | bad => rw [q] at h; exact h
      | exc c g' => rw [q] at h; exact fun H' r' s' => h H' r' (s1.trans s')
      | ok ev g' => rw [q] at h; exact fun H' r' s' => h H' r' (s1.trans s')
    refine h1.bnd.mono fun x g2 H2 r2 s2 h w hw _ => ?_
    obtain ⟨d, _, cx, h⟩ := hw.content r2 h
    cases d with
    | int i =>
      cases q : ixOf i fs.length with
      | none => dsimp only at h; rw [q] at h; exact h.elim
      | some j =>
        dsimp only at h
        rw [q] at h
        dsimp only at h
        cases q2 : fs[j]? with
        | none => rw [q2] at h; exact h.elim
        | some f =>
          rw [q2] at h
          obtain ⟨x', a, e1, hf⟩ := F.get q2
          have nO : ¬ Ow σ g p := fun z => by
            obtain ⟨_, e⟩ := r.ow_lst z
            rw [hp] at e; cases e
          have hp2 : H2 p = some (.lst (as.map V.ref)) := s2.ext p _ upd_same fun z => nO z.ow
          refine ⟨p, as.map V.ref, i, .ref a, rfl, cx.int, .of hp2, ?_, f, a, x', rfl, hf, ?_⟩
          · unfold atI
            rw [List.length_map, ← F.len, ixOf_N q]
            show (as.map V.ref)[j]? = _
            rw [List.getElem?_map, e1]; rfl
          · refine call_run hf.len ⟨g2, r2, h.mono fun ev g' H' _ s' q v hv hfr => q v hv ?_⟩
            exact up_fr (s1.trans s2) hfr
    | _ => exact h.elim
  · obtain ⟨v, H1, I1, rv, f, a, x', rfl, hf, q⟩ := hu
    cases rv
    obtain ⟨fd, ps, hb, FG⟩ := hf.fn
    rw [List.all_cons, Bool.and_eq_true] at hst
    refine PySem.W.callWith_K (h₀ := X.base) I1.ok.mod.kin hf.kp (thn (ha.run pos pins s1 σ H1 _ I1 q) fun us s2 ⟨vs, H2, I2, r2, q2⟩ => ⟨I2.kIn, ?_⟩) (star_no (by simpa using hst.1)) (noStars hst.2)
    exact run_fnG FG hr hg hb tk I2 r2 q2
end
end DK
end
section
set_option maxRecDepth 100000
set_option maxHeartbeats 4000000
namespace DK
open PySem L2 PySem.Spec PyProof.Rows
/-! ### a dict of the module with text keys: x in d, x not in d, d[x](..) -/
structure DicAt (K : PySem.W.Frag) (w : World) (d : Addr) (ks : List Str) : Prop where
  at_ : ∃ es n, KDict K w d es n
  no : ∀ z, kpos ks z 0 = none → PySem.W.nsIn K d z = some none
  yes : ∀ z i, kpos ks z 0 = some i → ∃ u, PySem.W.nsIn K d z = some (some u)
section
variable {X : Cx} {cl : Nat → Addr} {C : Nat → List Slot → CRes} {k n : Nat} {W : Nat → L2.St → Hp → Prop} {a : Expr} {x : Str} {d : Addr} {ks : List Str} {ma : Ev EV}
theorem DicAt.says {K : PySem.W.Frag} {w : World} (D : DicAt K w d ks) (z : Str) : ∃ r, PySem.W.nsIn K d z = some r ∧ r.isSome = (kpos ks z 0).isSome := by
  cases q : kpos ks z 0 with
  | none => exact ⟨none, D.no z q, rfl⟩
  | some i =>
    obtain ⟨u, e⟩ := D.yes z i q
    exact ⟨some u, e, rfl⟩
def dop (ng : Bool) : CmpOp := if ng then .NotIn else .In
def mDin (ng : Bool) (ks : List Str) (ma : Ev EV) : Ev EV := bnd ma fun x => bnd (content x) fun x => dinD ng ks x
theorem op_din (D : DicAt X.K X.w d ks) (ng : Bool) : OpR X (compareOp (dop ng)) (fun x y H Q => ∃ z : Str, x = .str z ∧ y = .ref d ∧ Q (.bl ((kpos ks z 0).isSome != ng)) H) := by
  obtain ⟨es, n, KD⟩ := D.at_
  intro pins s σ H x y v u Q I rx ry h
  obtain ⟨z, rfl, rfl, q⟩ := h
  obtain ⟨r, e1, e2⟩ := D.says z
  cases ng with
  | false => exact op_in_kd KD pins s σ H _ _ v u Q I rx ry ⟨z, r, rfl, rfl, e1, by rw [e2]; simpa using q⟩
  | true => exact op_notIn_kd KD pins s σ H _ _ v u Q I rx ry ⟨z, r, rfl, rfl, e1, by rw [e2]; simpa using q⟩
theorem se_din (D : DicAt X.K X.w d ks) (ng : Bool) {p pos : Pos} (hg : Gl X x) (hm : X.mg x = some (.ref d)) (hdb : (x == ("__debug__" : Str)) = false) (ha : PE X a (tM X.K W ma)) (hb : behindInMarks (dop ng) (.Name x p) = false) :
    PE X (.Compare a [dop ng] [.Name x p] pos) (tM X.K W (mDin ng ks ma)) := by
  refine (pe_cmpR (op_din D ng) ha (pe_glob (v := .ref d) hg hm rfl hdb) hb).imp fun σ H Q h => tM_one (r := fun v H1 Q => ∃ z : Str, v = .str z ∧ V.ref d = .ref d ∧ Q (.bl ((kpos ks z 0).isSome != ng)) H1) h fun g2 H2 x v r hx _ h => ?_
  obtain ⟨d1, _, c1, h⟩ := hx.content r h
  cases d1 with
  | str z => cases c1.str; exact ⟨z, rfl, rfl, h H2 r .refl _ (.bl _) (.inl trivial)⟩
  | _ => exact h.elim
theorem st_din (D : DicAt X.K X.w d ks) (ng : Bool) {p pos : Pos} (hg : Gl X x) (hm : X.mg x = some (.ref d)) (hdb : (x == ("__debug__" : Str)) = false) (ha : PE X a (tM X.K W ma)) (hb : behindInMarks (dop ng) (.Name x p) = false) :
    PT X (.Compare a [dop ng] [.Name x p] pos) (tT X.K W (tst (mDin ng ks ma))) := by
  refine (pt_cmpR (op_din D ng) ha (pe_glob (v := .ref d) hg hm rfl hdb) hb).imp fun σ H Q h => ?_
  obtain ⟨g, r, h⟩ := h
  unfold mDin at h
  simp only [tst_bnd] at h
  refine run_one (R := fun v H1 => ∃ z : Str, v = .str z ∧ V.ref d = .ref d ∧ ∃ k, V.bl ((kpos ks z 0).isSome != ng) = .bl k ∧ Q k H1) r h fun g2 H2 x v r hx _ h => ?_
  obtain ⟨d1, _, c1, h⟩ := hx.content r h
  cases d1 with
  | str z =>
    cases c1.str
    exact ⟨z, rfl, rfl, _, rfl, h H2 r .refl⟩
  | _ => exact h.elim
/-! the functions it holds -/
structure FnsD (X : Cx) (cl : Nat → Addr) (C : Nat → List Slot → CRes) (k n : Nat) (d : Addr) (ks : List Str) (fs : List Nat) : Prop where
  dic : DicAt X.K X.w d ks
  fn : ∀ (z : Str) (i f : Nat), kpos ks z 0 = some i → fs[i]? = some f → ∃ a fd ps, PySem.W.nsIn X.K d z = some (some (.ref a)) ∧ PySem.W.keepIn X.K (.ref a) = true ∧ Binds X.K fd ps [] ∧ FnG X.prog X.w X.K X.mg X.base k a fd ps (spC X.K cl n (C f)) ∧ ∀ ss, C f ss ≠ .bad → ss.length = n
variable {ix e : Expr} {args : List Expr} {fs : List Nat} {mi : Ev EV} {mas : Ev (List Arg)}
def mDcall (C : Nat → List Slot → CRes) (ks : List Str) (fs : List Nat) (mi : Ev EV) (mas : Ev (List Arg)) : Ev EV := bnd mi fun i => bnd (content i) fun i => match dposD ks fs i with
    | some f => bnd mas fun as => doCall C f as
    | none => bad
theorem se_dcall {lp sp pos : Pos} (F : FnsD X cl C k n d ks fs) (hgx : Gl X x) (hm : X.mg x = some (.ref d)) (hdb : (x == ("__debug__" : Str)) = false) (hr : Room k X.A) (hg : X.A.guards = some []) (tk : Takes X (tw cl W)) (hi : PE X ix (tM X.K W mi)) (hx : PlainIx ix) (ha : PA X (e :: args) (tAA X.K W mas)) (hst : (e :: args).all (fun e => !isStar e) = true) :
    PE X (.Call (.Subscript (.Name x lp) ix sp) (e :: args) [] pos) (tM X.K W (mDcall C ks fs mi mas)) := by
  refine ⟨fun pins s σ H Q I h => ?_⟩
  obtain ⟨g, r, h⟩ := h
  obtain ⟨es, nn, KD⟩ := F.dic.at_
  refine PyProof.Rows.Call_ (thn ((pe_ix ix_kdict (pe_glob (v := .ref d) hgx hm rfl hdb) hi hx).run pins s σ H (fun v H2 => ∃ f a, v = .ref a ∧ (∃ fd ps, PySem.W.keepIn X.K (.ref a) = true ∧ Binds X.K fd ps [] ∧ FnG X.prog X.w X.K X.mg X.base k a fd ps (spC X.K cl n (C f))) ∧ tAA X.K W mas σ H2 fun vs H3 => spC X.K cl n (C f) vs H3 Q (WE (tw cl W) σ)) I ?_) fun u s1 hu => ?_)
  · refine ⟨g, r, h.bnd.mono fun x' g2 H2 r2 s2 h w hw _ => ?_⟩
    obtain ⟨dd, _, cx, h⟩ := hw.content r2 h
    cases q : dposD ks fs dd with
    | none => rw [q] at h; exact h.elim
    | some f =>
      rw [q] at h
      dsimp only at h
      cases dd with
      | str z =>
        cases cx.str
        unfold dposD at q
        obtain ⟨i, q1, q2⟩ := Option.bind_eq_some_iff.mp q
        obtain ⟨a, fd, ps, e1, e2, e3, e4, e5⟩ := F.fn z i f q1 q2
        refine ⟨d, z, .ref a, rfl, rfl, ⟨es, nn, .ref a, KD.at_, KD.lit, e1, rfl⟩, f, a, rfl, ⟨fd, ps, e2, e3, e4⟩, ?_⟩
        refine call_run e5 ⟨g2, r2, h.mono fun ev g' H' _ s' q v hv hfr => q v hv ?_⟩
        exact up_fr s2 hfr
      | _ => cases q
  · obtain ⟨v, H1, I1, rv, f, a, rfl, ⟨fd, ps, kp, hb, FG⟩, q⟩ := hu
    cases rv
    rw [List.all_cons, Bool.and_eq_true] at hst
    refine PySem.W.callWith_K (h₀ := X.base) I1.ok.mod.kin kp (thn (ha.run pos pins s1 σ H1 _ I1 q) fun us s2 ⟨vs, H2, I2, r2, q2⟩ => ⟨I2.kIn, ?_⟩) (star_no (by simpa using hst.1)) (noStars hst.2)
    exact run_fnG FG hr hg hb tk I2 r2 q2
end
end DK
end
section
set_option maxRecDepth 100000
set_option maxHeartbeats 4000000
namespace DK
open PySem L2 PySem.Spec PyProof.Rows
/-! ### t[::-1] of a tuple -/
section
variable {prog : Program} {w : World} {A : Around} {E : Value → Shared → Prop} {s : Shared}
theorem adjust_rev (n : Nat) : Builtin.Slice.sliceAdjust none none (-1) (n : Int) = ((n : Int) - 1, -1) := by
  unfold Builtin.Slice.sliceAdjust
  simp
theorem places_rev (n : Nat) : Builtin.Slice.slicePlaces ((n : Int) - 1) (-1) (-1) = n := by
  unfold Builtin.Slice.slicePlaces
  simp
  omega
theorem pick_rev (xs : Array Value) : ((List.range xs.size).filterMap fun (m : Nat) => xs[(((xs.size : Int) - 1) + (m : Int) * (-1)).toNat]?) = xs.toList.reverse := by
  have : ∀ (l : List Value) (k : Nat), k ≤ l.length → ((List.range k).filterMap fun (m : Nat) => l[(((l.length : Int) - 1) + (m : Int) * (-1)).toNat]?) = l.reverse.take k := by
    intro l k
    induction k with
    | zero => intro _; simp
    | succ k ih =>
      intro h
      rw [List.range_succ, List.filterMap_append, ih (by omega)]
      have e : (((l.length : Int) - 1) + (k : Int) * (-1)).toNat = l.length - 1 - k := by omega
      have hk : k < l.reverse.length := by simp; omega
      rw [List.take_succ, List.getElem?_eq_getElem hk, List.getElem_reverse]
      simp only [List.filterMap_cons, List.filterMap_nil, e]
      rw [List.getElem?_eq_getElem (show l.length - 1 - k < l.length by omega)]
      rfl
  have h := this xs.toList xs.toList.length (Nat.le_refl _)
  rw [show xs.toList.reverse.take xs.toList.length = xs.toList.reverse by rw [← List.length_reverse, List.take_length]] at h
  simpa using h
theorem rev_applied {sl : Addr} {n : Nat} {t : Tok} {Q : Int × Int × Nat → Shared → Prop} (hs : s.heap.IsSliceOf sl .none .none (.int (-1) t)) (h : Q ((n : Int) - 1, -1, n) s) : wpAny (model prog w) A (Builtin.Slice.sliceApplied (.ref sl) (pure (n : Int))) Q E s := by
  obtain ⟨os, hos, hcs, hds⟩ := id hs
  unfold Builtin.Slice.sliceApplied Builtin.Slice.sliceFields
  refine wpAny_bind (wpAny_bind (wpAny_field hos hds (x := .none) rfl (wpAny_bind (wpAny_field hos hds (x := .none) rfl (wpAny_bind (wpAny_field hos hds (x := .int (-1) t) rfl (wpAny_pure ?_)))))))
  refine wpAny_bind (slicePart_int ?_)
  show wpAny _ _ (if ((-1 : Int) == 0) = true then _ else _) _ _ s
  rw [if_neg (show ¬ (((-1 : Int) == 0) = true) by decide)]
  refine wpAny_bind (slicePart_none (wpAny_bind (slicePart_none (wpAny_bind (wpAny_pure ?_)))))
  show wpAny _ _ (match Builtin.Slice.sliceAdjust none none (-1) (n : Int) with | (lo, hi) => pure (lo, (-1 : Int), Builtin.Slice.slicePlaces lo hi (-1))) _ _ s
  rw [adjust_rev]
  show wpAny _ _ (pure ((n : Int) - 1, (-1 : Int), Builtin.Slice.slicePlaces ((n : Int) - 1) (-1) (-1))) _ _ s
  rw [places_rev]
  exact wpAny_pure h
theorem tuple_rev {t sl : Addr} {items : Array Value} {k : Tok} {Q : Value → Shared → Prop} (ht : IsTup s.heap t items) (hs : s.heap.IsSliceOf sl .none .none (.int (-1) k))
    (h : Q (.ref s.heap.objs.size) { s with heap := s.heap.push { cls := .type "tuple", data := .seq items.toList.reverse.toArray } }) (hsz : items.size ≤ sizeLine) : wpAny (model prog w) A (getItem (.ref t) (.ref sl)) Q E s := by
  have hz : sizeOk (.seq items.toList.reverse.toArray) := by
    show items.toList.reverse.toArray.size ≤ sizeLine
    rw [List.size_toArray, List.length_reverse, Array.length_toList]; exact hsz
  obtain ⟨os, hos, hcs, hds⟩ := id hs
  have isSlice : s.TypeIs (.ref sl) "slice" := ⟨os, hos, hcs⟩
  unfold getItem
  try with_reducible refine wpAny_holding ?_
  first | refine wpAny_bind (wpAny_pure ?_) | skip
  refine wpAny_bind (wpAny_sequenceKey ht.typeIs (by decide) ?_)
  refine wpAny_bind (wpAny_callSpecial?_slot (name := Str.ofString "__getitem__") ht.typeIs PyProof.Rows.slot_tuple_getitem (wpAny_call_entry PyProof.Rows.slot_tuple_getitem ht.typeIs entry_tuple_getitem ?_ (args_tuple_getitem _ _)))
  show wpAny _ _ (Builtin.Tuple.tupleItemsOf (.ref t) >>= _) _ _ s
  refine wpAny_bind (tupleItemsOf_ ht (wpAny_bind (wpAny_typeOf isSlice ?_)))
  rw [if_pos (by decide)]
  refine wpAny_bind (rev_applied hs ?_)
  show wpAny _ _ (if (((items.size : Int) - 1) == 0 && (-1 : Int) == 1 && items.size == items.size) = true then _ else _) _ _ s
  rw [if_neg (by simp), pick_rev]
  first
    | exact wpAny_bind (m := Builtin.Tuple.tupleExact _) (wpAny_newObj_type (wpAny_pure ⟨_, rfl, wpAny_pure h⟩) hz)
    | exact wpAny_bind (m := Builtin.Tuple.tupleExact _) (wpAny_newObj_type (wpAny_bind (wpAny_pure (wpAny_pure ⟨_, rfl, wpAny_pure h⟩))) hz)
    | exact wpAny_bind (wpAny_bind (m := Builtin.Tuple.tupleExact _) (wpAny_newObj_type (wpAny_pure (wpAny_pure ⟨_, rfl, wpAny_pure h⟩)) hz))
    | exact wpAny_bind (wpAny_bind (m := Builtin.Tuple.tupleExact _) (wpAny_newObj_type (wpAny_pure ⟨_, rfl, wpAny_pure h⟩) hz))
end
section
variable {X : Cx} {W : Nat → L2.St → Hp → Prop} {a b c e : Expr} {ma mb mc : Ev EV} {pos : Pos} {es : List Expr}
def mRev (ma : Ev EV) : Ev EV := bnd ma fun x => bnd (content x) fun d => opt (revD d)
theorem revD_nb {d : DK.D} {ev : EV} (h : revD d = some ev) : ∀ i, ev ≠ .bor i := by
  intro i z
  subst z
  cases d <;> cases h
theorem pe_revD {e : Expr} {te : TE} {k : Nat} {p1 p2 p3 pos : Pos} (he : PE X e te) : PE X (.Subscript e (.Slice none none (some (.UnaryOp .USub (.Constant (.int 1) k p1) p2)) p3) pos) (fun σ H Q => te σ H fun v H1 => ∃ d ev, Cv X.K H1 v d ∧ revD d = some ev ∧ ResV X.K H1 Q ev) := by
  refine ⟨fun pins s σ H Q I h => ?_⟩
  refine Subscript_ (thn (he.run pins s σ H _ I h) fun v s1 ⟨x, H1, I1, r1, d, ev, cx, er, q⟩ => ?_)
  have step : PO X (some (.UnaryOp .USub (.Constant (.int 1) k p1) p2)) (tPart (tUn (rU fun i => .int (-i)) (tC (.int 1)))) := po_some (pe_un un_neg pe_int)
  refine wpAny_Slice (thn (po_none.run pins s1 σ H1 (fun o H2 => o = none ∧ H2 = H1) I1 ⟨rfl, rfl⟩) fun vl s2 ⟨l, H2, I2, pl, el, e2⟩ => ?_)
  subst el e2
  refine thn (po_none.run pins s2 σ H2 (fun o H3 => o = none ∧ H3 = H2) I2 ⟨rfl, rfl⟩) fun vu s3 ⟨u, H3, I3, pu, eu, e3⟩ => ?_
  subst eu e3
  refine thn (step.run pins s3 σ H3 (fun o H4 => o = some (-1) ∧ H4 = H3) I3 ⟨1, rfl, -1, rfl, rfl, rfl⟩) fun vs s4 ⟨o, H4, I4, ps, eo, e4⟩ => ?_
  subst eo e4
  have I5 : L2.Inv X pins σ H4 { s4 with heap := s4.heap.push { cls := .type "slice", data := .fields #[vl, vu, vs] } } := I4.kept (t' := s4.toks) fun b ob q => Heap.get?_push_of_some _ q
  show wpAny (model X.prog X.w) X.A (subscriptTail e (.Slice none none (some (.UnaryOp .USub (.Constant (.int 1) k p1) p2)) p3) v (.ref s4.heap.objs.size)) (EP X pins σ Q) X.xe { s4 with heap := s4.heap.push { cls := .type "slice", data := .fields #[vl, vu, vs] } }
  cases d with
  | list ds =>
    cases er
    obtain ⟨a, xs, rfl, hx, f⟩ := cx.lst
    cases r1
    obtain ⟨its, r, ht, hz⟩ := I5.list hx
    have hlen := r.length
    refine tail_any (ops := [.ref a, .ref s4.heap.objs.size]) ht.isList.typeIs (PySem.slot_list_getitem.lookup) ?_ (by with_unfolding_all rfl)
    refine wpAny_getItem_list_slice ht.isList (Heap.IsSliceOf.new _ vl vu vs) pl pu ps (by decide) ?_ (by rw [List.size_toArray]; omega)
    rw [PySem.W.krv_pick]
    refine ⟨.ref _, _, I5.laid (t' := s4.toks) (o := .lst xs.reverse) (fun b ob q => Heap.get?_push_of_some _ q) (Nat.le_refl _) ?_, rfl, q _ _ (I5.hok.fresh (Nat.le_refl _)) f.reverse⟩
    exact ⟨by rw [List.length_reverse]; exact hz, _, 0, r.reverse, Heap.get?_push_size _ rfl⟩
  | tuple ds =>
    cases er
    obtain ⟨a, xs, rfl, hx, f⟩ := cx.tup
    cases r1
    obtain ⟨its, r, ht, hz⟩ := I5.tuple hx.sqt
    cases pl
    cases pu
    cases ps
    have hn : H4 (s4.heap.push { cls := .type "slice", data := .fields #[.none, .none, .int (-1) _] }).objs.size = none := I5.hok.fresh (Nat.le_refl _)
    refine tail_any (ops := [.ref a, .ref s4.heap.objs.size]) ht.typeIs PyProof.Rows.slot_tuple_getitem.lookup ?_ (by with_unfolding_all rfl)
    refine tuple_rev ht (Heap.IsSliceOf.new _ .none .none (.int (-1) _)) ?_ (by rw [List.size_toArray, ← r.length]; exact hz)
    refine ⟨.ref _, _, I5.laid (t' := s4.toks) (o := .tup xs.reverse) (fun b ob q => Heap.get?_push_of_some _ q) (Nat.le_refl _) ?_, rfl, q _ _ (.upd hn) (.tup (.inl upd_same) (f.reverse.mono (Nw.upd hn).kp))⟩
    exact ⟨by rw [List.length_reverse]; exact hz, _, r.reverse, IsTup.new _ _⟩
  | _ => cases er
theorem se_rev {k : Nat} {p1 p2 p3 : Pos} (ha : PE X a (tM X.K W ma)) : PE X (.Subscript a (.Slice none none (some (.UnaryOp .USub (.Constant (.int 1) k p1) p2)) p3) pos) (tM X.K W (mRev ma)) :=
  (pe_revD ha).imp fun σ H Q h => by
    obtain ⟨g, r, h⟩ := h
    refine ⟨g, r, h.bnd.mono fun x g1 H1 r1 s1 h v hv _ => ?_⟩
    obtain ⟨d, _, cx, h⟩ := hv.content r1 h
    cases q : revD d with
    | none => rw [q] at h; exact h.elim
    | some ev =>
      rw [q] at h
      exact ⟨d, ev, cx, q, fin_res r1 (h.mono fun ev g' H' _ _ q u hu hf => q u hu (up_fr s1 hf)) ⟨rfl, revD_nb q⟩⟩
theorem ss_par3 {i j l : Nat} {x y z : Str} {ml : Ev (List DK.D)} {px py pz pt : Pos} {kt k2 : Nat} {pt2 : Pos} (hc : X.calm = true) (hN : X.N.Nodup) (hi : X.N[i]? = some x) (hj : X.N[j]? = some y) (hl : X.N[l]? = some z) (hij : i ≠ j) (hil : i ≠ l) (hjl : j ≠ l)
    (hx : X.env.scope.names.lookup x = some .local) (hy : X.env.scope.names.lookup y = some .local) (hz : X.env.scope.names.lookup z = some .local) (ha : PA X [a, b, c] (tAF X.K W ml))
    (hw : swappedStores [.Tuple [.Name x px, .Name y py, .Name z pz] kt pt] (.Tuple [a, b, c] k2 pt2) X.env = pure (some [x, y, z])) (hs : swapsWithSole [.Tuple [.Name x px, .Name y py, .Name z pz] kt pt] (.Tuple [a, b, c] k2 pt2) pos.line X.env = pure false) :
    PS X (.Assign [.Tuple [.Name x px, .Name y py, .Name z pz] kt pt] (.Tuple [a, b, c] k2 pt2) pos) (tS X.K W (runE (bnd (bnd ml fun ds => if ds.length ≤ lim then pur (.val (.tuple ds)) else bad) freeze) (setT (.tup [.name i, .name j, .name l])))) :=
  (ps_par3 hc hN hi hj hl hij hil hjl hx hy hz ha hw hs).imp fun D σ H h => by
    obtain ⟨g, r, h⟩ := h
    have h := h.runE
    rw [bnd_assoc] at h
    refine ⟨g, r, h.bnd.mono fun ds g1 H1 r1 s1 h vs f => ?_⟩
    by_cases c : ds.length ≤ lim
    · rw [if_pos c] at h
      have hh : RunS X.K W σ g1 H1 (setT (.tup [.name i, .name j, .name l]) (.tuple ds) g1) D := h H1 r1 .refl
      clear h
      unfold setT at hh
      cases e : assignT (.tup [.name i, .name j, .name l]) (.tuple ds) g1 with
      | none => rw [e] at hh; exact hh.elim
      | some g2 =>
        rw [e] at hh
        have e : assignTs [.name i, .name j, .name l] ds g1 = some g2 := e
        have hn := assignTs_len e
        obtain ⟨d1, d2, d3, rfl⟩ : ∃ d1 d2 d3, ds = [d1, d2, d3] := by
          match ds, hn with
          | [d1, d2, d3], _ => exact ⟨d1, d2, d3, rfl⟩
        cases f with
        | cons f1 f2 =>
          cases f2 with
          | cons f2 f3 =>
            cases f3 with
            | cons f3 f4 =>
              cases f4
              unfold assignTs at e
              cases e1 : assignT (.name i) d1 g1 with
              | none => rw [e1] at e; cases e
              | some g3 =>
                rw [e1] at e
                dsimp only at e
                unfold assignTs at e
                cases e2 : assignT (.name j) d2 g3 with
                | none => rw [e2] at e; cases e
                | some g4 =>
                  rw [e2] at e
                  dsimp only at e
                  unfold assignTs at e
                  cases e3 : assignT (.name l) d3 g4 with
                  | none => rw [e3] at e; cases e
                  | some g5 =>
                    rw [e3] at e
                    cases e
                    obtain ⟨r3, s3⟩ := store_val (show store i (.val d1) g1 = some g3 from e1) r1 f1
                    obtain ⟨r4, s4⟩ := store_val (show store j (.val d2) g3 = some g4 from e2) r3 f2
                    obtain ⟨r5, s5⟩ := store_val (show store l (.val d3) g4 = some g2 from e3) r4 f3
                    exact ⟨_, _, _, rfl, hh _ H1 r5 ((s3.trans s4).trans s5)⟩
    · rw [if_neg c] at h; exact h.elim
end
end DK
end
section
set_option maxRecDepth 100000
set_option maxHeartbeats 4000000
namespace DK
open PySem L2 PySem.Spec PyProof.Rows
/-! ### the loop of a comprehension's clause, the list at D made so far -/
def mns (D : Addr) (H : Hp) : Hp := fun b => if b = D then none else H b
section
variable {K : PySem.W.Frag} {H H0 H1 H2 : Hp} {σ : L2.St} {g g1 g2 : Gam} {D a : Addr} {o : HO} {xs : List V}
theorem mns_at (h : a ≠ D) : mns D H a = H a := if_neg h
theorem mns_D : mns D H D = none := if_pos rfl
theorem mns_some (h : mns D H a = some o) : a ≠ D ∧ H a = some o := by
  by_cases q : a = D
  · subst q; rw [mns_D] at h; cases h
  · rw [mns_at q] at h; exact ⟨q, h⟩
theorem mns_kp (h : H D = some (.lst xs)) : Kp H (mns D H) := fun a o e n => by
  rw [mns_at (fun q => by subst q; rw [h] at e; cases e; exact n xs rfl)]
  exact e
theorem mns_nw : Nw (mns D H) H := fun a o e => (mns_some e).2
theorem ste_sub (s : StE σ g H g1 H1) (n : Nw H0 H) : StE σ g H0 g1 H1 :=
  ⟨fun a o e m => s.ext a o (n a o e) m, fun a o e m => s.kp a o (n a o e) m, fun a e => s.dom a (by
    cases q : H0 a with
    | none => exact absurd q e
    | some o => rw [n a o q]; exact fun z => nomatch z), s.shr, s.stay, s.vals, s.lenE⟩
theorem rel_mns (r : Rel K H σ g) (h : H D = some (.lst xs)) (n : ¬ Ow σ g D) : Rel K (mns D H) σ g := by
  have k := mns_kp (D := D) h
  refine ⟨r.len, fun i d e => let ⟨v, h1, h2⟩ := r.val i d e; ⟨v, h1, h2.mono k⟩, fun i kd ys e => ?_, r.inj⟩
  obtain ⟨b, ws, h1, h2, h3⟩ := r.own i kd ys e
  exact ⟨b, ws, h1, by rw [mns_at (fun q => n ⟨i, kd, ys, e, by rw [← q]; exact h1⟩)]; exact h2, h3.mono k⟩
end
theorem comp_loop {K : PySem.W.Frag} {t : Tg} {mt : Ev Bool} {me : Ev DK.D} {own : List Nat} {σ : L2.St} {H1 : Hp} {g1 gE : Gam} {ds acc0 accE : List DK.D} {accV0 : List V} {J : It} {L : List Addr} {D : Addr} {Fin : Hp → Prop} (ht : ∀ l ∈ tgNames t, l ∈ own) (hds : ds.length < lim) (h0 : acc0.length + ds.length < lim)
    (r1 : Rel K H1 (wipe σ own) (wipeG g1 own)) (hL : ∀ a ∈ L, ¬ Mt (wipe σ own) (wipeG g1 own) a ∧ a ≠ D) (hJ : ItOk K J H1 ds L) (hD : H1 D = some (.lst accV0)) (hf : FzA K H1 accV0 acc0) (nO : ¬ Ow (wipe σ own) (wipeG g1 own) D)
    (ec : compF own (assignT t) mt me ds acc0 (wipeG g1 own) = .ok accE gE)
    (fin : ∀ H' gx accV, gE = wipeG gx own → Rel K H' (wipe σ own) (wipeG gx own) → StE (wipe σ own) (wipeG g1 own) (mns D H1) (wipeG gx own) H' → H' D = some (.lst accV) → FzA K H' accV accE → Fin H') :
    ∃ W : Nat → Nat → Hp → Prop, (∃ m, W 0 m H1) ∧ ∀ i m H, W i m H →
      (J.stop i H ∧ Fin H) ∨ (J.go i H ∧ ∃ Nx : Hp → Prop, (∀ H', Nx H' → ∃ m', m' < m ∧ W (i + 1) m' H') ∧ ∀ x H', J.yld i H x H' → tG K t x (wipe σ own) H' fun σ2 H2 => wipe σ2 own = wipe σ own ∧ tT K W0 mt σ2 H2 fun b H3 =>
        if b = true then tF K W0 me σ2 H3 fun y H4 => ∃ acc, H4 D = some (.lst acc) ∧ acc.length < sizeLine ∧ Nx (upd H4 D (.lst (acc ++ [y]))) else Nx H3) := by
  have nOw : ∀ {g' : Gam} {H' : Hp}, StE (wipe σ own) (wipeG g1 own) (mns D H1) g' H' → ¬ Ow (wipe σ own) g' D := fun s z => nO (s.ow z)
  have r0 : Rel K (mns D H1) (wipe σ own) (wipeG g1 own) := rel_mns r1 hD nO
  refine ⟨fun i n H' => ∃ gx acc accV, Rel K H' (wipe σ own) (wipeG gx own) ∧ StE (wipe σ own) (wipeG g1 own) (mns D H1) (wipeG gx own) H' ∧ i + n = ds.length ∧ acc.length ≤ acc0.length + i ∧ H' D = some (.lst accV) ∧ FzA K H' accV acc ∧
      compF own (assignT t) mt me (ds.drop i) acc (wipeG gx own) = .ok accE gE,
    ⟨ds.length, g1, acc0, accV0, r1, ste_sub .refl mns_nw, Nat.zero_add _, Nat.le_refl _, hD, hf, ec⟩, fun i n H3 hw => ?_⟩
  obtain ⟨gx, acc, accV, r3, s3, hn, hacc, hDv, fa, ec⟩ := hw
  have kl : KeepL L H1 H3 := ⟨fun a o eo nl => s3.kp a o (by rw [mns_at (fun q => by subst q; rw [hD] at eo; cases eo; exact nl _ rfl)]; exact eo) nl, fun a ha o eo => s3.ext a o (by rw [mns_at (hL a ha).2]; exact eo) (hL a ha).1⟩
  obtain ⟨j1, j2⟩ := hJ H3 kl
  cases n with
  | zero =>
    obtain rfl : i = ds.length := hn
    rw [List.drop_length] at ec
    have ec : Res.ok acc (wipeG gx own) = Res.ok accE gE := ec
    cases ec
    exact .inl ⟨j1, fin H3 gx accV rfl r3 s3 hDv fa⟩
  | succ n =>
    have hi : i < ds.length := by omega
    have ed : ds.drop i = ds[i] :: ds.drop (i + 1) := List.drop_eq_getElem_cons hi
    rw [ed] at ec
    obtain ⟨go, yl⟩ := j2 i _ (List.getElem?_eq_getElem hi)
    refine .inr ⟨go, fun H' => ∃ gx acc accV, Rel K H' (wipe σ own) (wipeG gx own) ∧ StE (wipe σ own) (wipeG g1 own) (mns D H1) (wipeG gx own) H' ∧ (i + 1) + n = ds.length ∧ acc.length ≤ acc0.length + (i + 1) ∧ H' D = some (.lst accV) ∧ FzA K H' accV acc ∧
      compF own (assignT t) mt me (ds.drop (i + 1)) acc (wipeG gx own) = .ok accE gE, fun H' q => ⟨n, Nat.lt_succ_self n, q⟩, fun x H4 y => ?_⟩
    obtain ⟨hnew, fz⟩ := yl x H4 y
    have r4 : Rel K H4 (wipe σ own) (wipeG gx own) ∧ StE (wipe σ own) (wipeG gx own) H3 (wipeG gx own) H4 := by
      rcases hnew with rfl | ⟨p, o, hp, rfl⟩
      · exact ⟨r3, .refl⟩
      · exact ⟨r3.new hp, .new hp⟩
    obtain ⟨r4, s34⟩ := r4
    unfold compF at ec
    cases e5 : assignT t ds[i] (wipeG gx own) with
    | none => rw [e5] at ec; cases ec
    | some g5 =>
      rw [e5] at ec
      dsimp only at ec
      refine ⟨wipeG gx own, ds[i], g5, r4, fz, e5, fun σ5 r5 s5 o5 => ?_⟩
      obtain ⟨hw, fin'⟩ := turn_end ht e5 o5 r4 r5
      refine ⟨hw, g5, r5, ?_⟩
      cases e6 : mt g5 with
      | bad => rw [e6] at ec; cases ec
      | exc _ _ => rw [e6] at ec; cases ec
      | ok b g6 =>
        rw [e6] at ec
        intro H6 r6 s6
        cases b with
        | false =>
          dsimp only at ec ⊢
          rw [if_neg Bool.false_ne_true]
          obtain ⟨r7, s7⟩ := fin' g6 H6 r6 s6
          have s7' := s34.trans s7
          exact ⟨g6, acc, accV, r7, s3.trans s7', by omega, by omega, s7'.ext D _ hDv fun z => nOw s3 z.ow, fa.mono s7'.kp, ec⟩
        | true =>
          dsimp only at ec ⊢
          rw [if_pos rfl]
          refine ⟨g6, r6, ?_⟩
          cases e7 : me g6 with
          | bad => rw [e7] at ec; cases ec
          | exc _ _ => rw [e7] at ec; cases ec
          | ok d g7 =>
            rw [e7] at ec
            intro H7 r7 s7 v fv
            obtain ⟨r8, s8⟩ := fin' g7 H7 r7 (s6.trans s7)
            have s8' := s34.trans s8
            have hD7 : H7 D = some (.lst accV) := s8'.ext D _ hDv fun z => nOw s3 z.ow
            have k9 := Kp.lst (ys := accV ++ [v]) hD7
            refine ⟨accV, hD7, by rw [fa.length, lim_eq]; omega, g7, acc ++ [d], accV ++ [v], rel_free r8 hD7 (nOw (s3.trans s8')), ste_free (s3.trans s8') mns_D, by omega, by rw [List.length_append]; simp; omega, upd_same, ((fa.mono s8'.kp).mono k9).append (.cons (fv.mono k9) .nil), ec⟩
def mComp2 (mi : Ev (List DK.D × List Nat)) (t : Tg) (mi2 : Ev (List DK.D × List Nat)) (t2 : Tg) (mt : Ev Bool) (me : Ev DK.D) (own own2 : List Nat) : Ev EV := bnd mi fun w => fun g => if w.1.length < lim then (match lockG w.2 g with
      | none => .bad
      | some (g1, k) => match compF2 own (assignT t) (fun acc => bnd mi2 (innerF own2 (assignT t2) mt me acc)) w.1 [] (wipeG g1 own) with
        | .ok acc g' => match unlock w.2 k (restoreG g1 g' own) with | some g'' => .ok (.own acc) g'' | none => .bad
        | .exc _ _ => .bad
        | .bad => .bad) else .bad
theorem comp2_run {K : PySem.W.Frag} {W : Nat → L2.St → Hp → Prop} {mi mi2 : Ev (List DK.D × List Nat)} {t t2 : Tg} {mt : Ev Bool} {me : Ev DK.D} {own own2 : List Nat} {σ : L2.St} {H : Hp} {Q : VK} (ht : ∀ l ∈ tgNames t, l ∈ own) (ht2 : ∀ l ∈ tgNames t2, l ∈ own2)
    (h : tM K W (mComp2 mi t mi2 t2 mt me own own2) σ H Q) : tLc2 (tI K W mi) (tG K t) (tT K W0 (pur true)) (tI K W0 mi2) (tG K t2) (tT K W0 mt) (tF K W0 me) own own2 σ H Q := by
  obtain ⟨g, r, h⟩ := h
  refine ⟨g, r, h.bnd.mono fun w g0 H1 r0 s0 h J L hL _ hJ D hD => ?_⟩
  by_cases hlen : w.1.length < lim
  case neg => rw [if_neg hlen] at h; exact h.elim
  rw [if_pos hlen] at h
  cases e : lockG w.2 g0 with
  | none => rw [e] at h; exact h.elim
  | some p =>
    obtain ⟨g1, ks⟩ := p
    rw [e] at h
    dsimp only at h
    have lk := lock_ok r0 e
    have hL := hL g1 ks e
    cases ec : compF2 own (assignT t) (fun acc => bnd mi2 (innerF own2 (assignT t2) mt me acc)) w.1 [] (wipeG g1 own) with
    | bad => rw [ec] at h; exact h.elim
    | exc _ _ => rw [ec] at h; exact h.elim
    | ok accE gE =>
      rw [ec] at h
      dsimp only at h
      cases eu : unlock w.2 ks (restoreG g1 gE own) with
      | none => rw [eu] at h; exact h.elim
      | some gF =>
        rw [eu] at h
        have rw1 : Rel K H1 (wipe σ own) (wipeG g1 own) := lk.rel.wiped own
        have nOw : ∀ {g' : Gam} {H' : Hp}, StE (wipe σ own) (wipeG g1 own) H1 g' H' → ¬ Ow (wipe σ own) g' D := fun s z => by
          obtain ⟨_, q⟩ := rw1.ow_lst (s.ow z)
          rw [hD] at q; cases q
        refine ⟨fun i n H' => ∃ gx acc accV, Rel K H' (wipe σ own) (wipeG gx own) ∧ StE (wipe σ own) (wipeG g1 own) H1 (wipeG gx own) H' ∧ i + n = w.1.length ∧ H' D = some (.lst accV) ∧ FzA K H' accV acc ∧
            compF2 own (assignT t) (fun acc => bnd mi2 (innerF own2 (assignT t2) mt me acc)) (w.1.drop i) acc (wipeG gx own) = .ok accE gE,
          ⟨w.1.length, g1, [], [], rw1.new hD, .new hD, Nat.zero_add _, upd_same, .nil, ec⟩, fun i n H3 hw => ?_⟩
        obtain ⟨gx, acc, accV, r3, s3, hn, hDv, fa, ec⟩ := hw
        have kl : KeepL L H1 H3 := ⟨s3.kp, fun a ha o eo => s3.ext a o eo fun z => hL a ha (mt_wipe z)⟩
        obtain ⟨j1, j2⟩ := hJ H3 kl
        cases n with
        | zero =>
          obtain rfl : i = w.1.length := hn
          rw [List.drop_length] at ec
          have ec : Res.ok acc (wipeG gx own) = Res.ok accE gE := ec
          cases ec
          obtain ⟨r4, s4⟩ := restored lk.rel r3 s3
          obtain ⟨r5, s5⟩ := lk.ste _ _ _ r4 s4 eu
          refine .inl ⟨j1, h H3 r5 s5 (.ref D) ⟨D, accV, rfl, hDv, fa, fun z => ?_⟩ fun a ea => ?_⟩
          · obtain ⟨_, q⟩ := r0.ow_lst (s5.ow z)
            rw [hD] at q; cases q
          · cases ea
            exact Classical.byContradiction fun z => s0.dom D z hD
        | succ n =>
          have hi : i < w.1.length := by omega
          have ed : w.1.drop i = w.1[i] :: w.1.drop (i + 1) := List.drop_eq_getElem_cons hi
          rw [ed] at ec
          obtain ⟨go, yl⟩ := j2 i _ (List.getElem?_eq_getElem hi)
          refine .inr ⟨go, fun H' => ∃ gx acc accV, Rel K H' (wipe σ own) (wipeG gx own) ∧ StE (wipe σ own) (wipeG g1 own) H1 (wipeG gx own) H' ∧ (i + 1) + n = w.1.length ∧ H' D = some (.lst accV) ∧ FzA K H' accV acc ∧
            compF2 own (assignT t) (fun acc => bnd mi2 (innerF own2 (assignT t2) mt me acc)) (w.1.drop (i + 1)) acc (wipeG gx own) = .ok accE gE, fun H' q => ⟨n, Nat.lt_succ_self n, q⟩, fun x H4 y => ?_⟩
          obtain ⟨hnew, fz⟩ := yl x H4 y
          have r4 : Rel K H4 (wipe σ own) (wipeG gx own) ∧ StE (wipe σ own) (wipeG gx own) H3 (wipeG gx own) H4 := by
            rcases hnew with rfl | ⟨p, o, hp, rfl⟩
            · exact ⟨r3, .refl⟩
            · exact ⟨r3.new hp, .new hp⟩
          obtain ⟨r4, s34⟩ := r4
          unfold compF2 at ec
          cases e5 : assignT t w.1[i] (wipeG gx own) with
          | none => rw [e5] at ec; cases ec
          | some g5 =>
            rw [e5] at ec
            dsimp only at ec
            refine ⟨wipeG gx own, w.1[i], g5, r4, fz, e5, fun σ5 r5 s5 o5 => ?_⟩
            obtain ⟨hw, fin'⟩ := turn_end ht e5 o5 r4 r5
            refine ⟨hw, g5, r5, fun H6 r6 s6 => ?_⟩
            dsimp only
            rw [if_pos rfl]
            refine ⟨g5, r6, ?_⟩
            cases e7 : bnd mi2 (innerF own2 (assignT t2) mt me acc) g5 with
            | bad => rw [e7] at ec; cases ec
            | exc _ _ => rw [e7] at ec; cases ec
            | ok acc' g6 =>
              rw [e7] at ec
              dsimp only at ec
              unfold DK.bnd at e7
              cases e8 : mi2 g5 with
              | bad => rw [e8] at e7; cases e7
              | exc _ _ => rw [e8] at e7; cases e7
              | ok w2 g7 =>
                rw [e8] at e7
                have e7 : innerF own2 (assignT t2) mt me acc w2 g7 = .ok acc' g6 := e7
                unfold innerF at e7
                by_cases hc : (w2.2.isEmpty && decide (acc.length + w2.1.length < lim)) = true
                case neg => rw [if_neg hc] at e7; cases e7
                rw [if_pos hc, ] at e7
                rw [Bool.and_eq_true] at hc
                have hemp : w2.2 = [] := List.isEmpty_iff.mp hc.1
                have hlim : acc.length + w2.1.length < lim := of_decide_eq_true hc.2
                cases e9 : compF own2 (assignT t2) mt me w2.1 acc (wipeG g7 own2) with
                | bad => rw [e9] at e7; cases e7
                | exc _ _ => rw [e9] at e7; cases e7
                | ok acc2 gI =>
                  rw [e9] at e7
                  cases e7
                  intro H7 r7 s7 J1 L1 hL1 hO1 hJ1
                  have s47 : StE σ5 g5 H4 g7 H7 := s6.trans s7
                  -- the list that is made is nobody's
                  have nO5 : ¬ Ow σ5 g5 D := fun z => by
                    obtain ⟨j, k, zs, q1, q2⟩ := z
                    obtain ⟨a1, a2⟩ := assignT_get e5
                    by_cases hj : j ∈ tgNames t
                    · obtain ⟨d', q⟩ := (a2 j).2 hj
                      rw [q1] at q; cases q
                    · exact nOw s3 ⟨j, k, zs, by rw [← (a2 j).1 hj]; exact q1, by rw [← o5 j hj]; exact q2⟩
                  have nO7 : ¬ Ow σ5 g7 D := fun z => nO5 (s47.ow z)
                  have hD4 : H4 D = some (.lst accV) := s34.ext D _ hDv fun z => nOw s3 z.ow
                  have hD7 : H7 D = some (.lst accV) := s47.ext D _ hD4 fun z => nO5 z.ow
                  refine comp_loop (own := own2) (g1 := g7) (acc0 := acc) (accV0 := accV) (D := D) (accE := acc') (gE := gI) (L := L1) (ds := w2.1) ht2 (by omega) hlim (r7.wiped own2) (fun a ha => ⟨fun z => hL1 g7 [] (by rw [hemp]; rfl) a ha (mt_wipe z), fun q => ?_⟩) hJ1 hD7 ((fa.mono s34.kp).mono s47.kp) (fun z => nO7 ?_) e9 fun H8 gy accV' eg r8 s8 hD8 f8 => ?_
                  · rcases hO1 a ha with z | z
                    · rw [q] at z; exact nO7 z
                    · rw [q, s6.ext D _ hD4 fun z => nO5 z.ow] at z; cases z
                  · obtain ⟨j, k, zs, q1, q2⟩ := z
                    obtain ⟨hj, q1⟩ := wipe_val (fun q => by cases q) q1
                    rw [wipe_out hj] at q2
                    exact ⟨j, k, zs, q1, q2⟩
                  · subst eg
                    have r7' : Rel K (mns D H7) σ5 g7 := rel_mns r7 hD7 nO7
                    obtain ⟨r9, s9⟩ := restored r7' r8 s8
                    have s59 : StE σ5 g5 (mns D H4) (restoreG g7 (wipeG gy own2) own2) H8 := by
                      refine StE.trans (g1 := g7) (H1 := mns D H7) ⟨fun b o eb m => ?_, fun b o eb m => ?_, fun b eb => ?_, s47.shr, s47.stay, s47.vals, s47.lenE⟩ s9
                      · obtain ⟨nb, eb⟩ := mns_some eb
                        rw [mns_at nb]; exact s47.ext b o eb m
                      · obtain ⟨nb, eb⟩ := mns_some eb
                        rw [mns_at nb]; exact s47.kp b o eb m
                      · by_cases nb : b = D
                        · subst nb; exact absurd mns_D eb
                        · rw [mns_at nb] at eb ⊢
                          exact s47.dom b eb
                    have r4' : Rel K (mns D H4) (wipe σ own) (wipeG gx own) := rel_mns r4 hD4 (nOw s3)
                    have r5' : Rel K (mns D H4) σ5 g5 := rel_mns r5 hD4 nO5
                    obtain ⟨_, fin2⟩ := turn_end ht e5 o5 r4' r5'
                    obtain ⟨ra, sa⟩ := fin2 _ H8 r9 s59
                    refine ⟨restoreG g7 (wipeG gy own2) own2, acc', accV', ra, ?_, by omega, hD8, f8, ec⟩
                    refine (s3.trans s34 |> fun z => ?_)
                    refine StE.trans (g1 := wipeG gx own) (H1 := mns D H4) ⟨fun b o eb m => ?_, fun b o eb m => ?_, fun b eb => ?_, z.shr, z.stay, z.vals, z.lenE⟩ sa
                    · rw [mns_at (fun q => by subst q; rw [hD] at eb; cases eb)]; exact z.ext b o eb m
                    · rw [mns_at (fun q => by subst q; rw [hD] at eb; cases eb)]; exact z.kp b o eb m
                    · rw [mns_at (fun q => by subst q; exact eb hD)]; exact z.dom b eb
section
variable {X : Cx} {W : Nat → L2.St → Hp → Prop} {elt tg iter tg1 iter1 : Expr} {ifs ifs1 : List Expr} {scope : Scope} {own : List (Str × Nat)} {pos spos : Pos} {mi mi2 : Ev (List DK.D × List Nat)} {t t2 : Tg} {mt : Ev Bool} {me : Ev EV}
theorem se_comp2 (hc : X.calm = true) (hN : X.N.Nodup) (hi : PI X tg iter (tI X.K W mi)) (ok : BlkOk X.N X.env.scope scope own) (hto : ∀ l ∈ tgNames t, l ∈ own.map (·.2)) (hto2 : ∀ l ∈ tgNames t2, l ∈ own.map (·.2))
    (hg : ∀ (s : Shared) (H : Hp) (C : Addr) (cl : List (Str × Addr)) (fp : List Addr), PG (X.blk s H scope (compEnvC scope cl C X.env) fp) tg (tG X.K t)) (hi1 : ∀ (s : Shared) (H : Hp) (C : Addr) (cl : List (Str × Addr)) (fp : List Addr), PI (X.blk s H scope (compEnvC scope cl C X.env) fp) tg1 iter1 (tI X.K W0 mi2))
    (hg1 : ∀ (s : Shared) (H : Hp) (C : Addr) (cl : List (Str × Addr)) (fp : List Addr), PG (X.blk s H scope (compEnvC scope cl C X.env) fp) tg1 (tG X.K t2)) (ht : ∀ (s : Shared) (H : Hp) (C : Addr) (cl : List (Str × Addr)) (fp : List Addr), PTs (X.blk s H scope (compEnvC scope cl C X.env) fp) ifs1 (tT X.K W0 mt))
    (he : ∀ (s : Shared) (H : Hp) (C : Addr) (cl : List (Str × Addr)) (fp : List Addr), PE (X.blk s H scope (compEnvC scope cl C X.env) fp) elt (tM X.K W0 me)) (hs : ∀ x, foldedSetIterable iter X.env x = pure x) (hs1 : ∀ env x, foldedSetIterable iter1 env x = pure x) :
    PE X (.ListComp elt [⟨tg, iter, [], 0⟩, ⟨tg1, iter1, ifs1, 0⟩] scope pos) (tM X.K W (mComp2 mi t mi2 t2 mt (bnd me freeze) (own.map (·.2)) (tgNames t2))) :=
  (pe_lc2 hc hN hi ok hto2 hg (fun s H C cl fp => sts_nil) hi1 hg1 ht (fun s H C cl fp => pe_frz (he s H C cl fp)) hs hs1).imp fun σ H Q h => comp2_run hto (fun _ h => h) h
theorem ss_setLc2 {i : Nat} {y : Str} {py : Pos} (frz : Bool) (hc : X.calm = true) (hN : X.N.Nodup) (hy : X.N[i]? = some y) (hyl : X.env.scope.names.lookup y = some .local)
    (hsw : swapsWith (.ListComp elt [⟨tg, iter, [], 0⟩, ⟨tg1, iter1, ifs1, 0⟩] scope pos) (some (.Name y py)) spos.line X.env = pure true) (hi : PI X tg iter (tI X.K W mi)) (ok : BlkOk X.N X.env.scope scope own) (hto : ∀ l ∈ tgNames t, l ∈ own.map (·.2)) (hto2 : ∀ l ∈ tgNames t2, l ∈ own.map (·.2))
    (hg : ∀ (s : Shared) (H : Hp) (C : Addr) (cl : List (Str × Addr)) (fp : List Addr), PG (X.blk s H scope (compEnvC scope cl C X.env) fp) tg (tG X.K t)) (hi1 : ∀ (s : Shared) (H : Hp) (C : Addr) (cl : List (Str × Addr)) (fp : List Addr), PI (X.blk s H scope (compEnvC scope cl C X.env) fp) tg1 iter1 (tI X.K W0 mi2))
    (hg1 : ∀ (s : Shared) (H : Hp) (C : Addr) (cl : List (Str × Addr)) (fp : List Addr), PG (X.blk s H scope (compEnvC scope cl C X.env) fp) tg1 (tG X.K t2)) (ht : ∀ (s : Shared) (H : Hp) (C : Addr) (cl : List (Str × Addr)) (fp : List Addr), PTs (X.blk s H scope (compEnvC scope cl C X.env) fp) ifs1 (tT X.K W0 mt))
    (he : ∀ (s : Shared) (H : Hp) (C : Addr) (cl : List (Str × Addr)) (fp : List Addr), PE (X.blk s H scope (compEnvC scope cl C X.env) fp) elt (tM X.K W0 me)) (hs : ∀ x, foldedSetIterable iter X.env x = pure x) (hs1 : ∀ env x, foldedSetIterable iter1 env x = pure x) :
    PS X (.Assign [.Name y py] (.ListComp elt [⟨tg, iter, [], 0⟩, ⟨tg1, iter1, ifs1, 0⟩] scope pos) spos) (tS X.K W (runE (mComp2 mi t mi2 t2 mt (bnd me freeze) (own.map (·.2)) (tgNames t2)) (setF i frz))) :=
  ss_set frz ((ps_setLc2 hc hN hy hyl hsw hi ok hto2 hg (fun s H C cl fp => sts_nil) hi1 hg1 ht (fun s H C cl fp => pe_frz (he s H C cl fp)) hs hs1).imp fun D σ H h => comp2_run hto (fun _ h => h) h)
end
end DK
end
section
set_option maxRecDepth 100000
set_option maxHeartbeats 4000000
namespace DK
open PySem L2 PySem.Spec PyProof.Rows
def KindRun (prog : Program) (w : World) (K : PySem.W.Frag) (mg : Str → Option Value) (base : Heap) (f : Addr) (fd : FuncData) (err : Str) (C : Addr) (k : Str) : Prop :=
  ∀ (A : Around) (outer : List Env) (s : Shared) (H : Hp) (args : Args) (Q : VK) (a : Addr) (oe : Obj), A.depth < recursionLimit → A.units + 160 < cLine → A.guards = some [] → L2H.PinOk outer H s (a, oe) → Zc (.ref C) none oe → (∃ vs, oe.data = .fields vs) →
    Env0 prog w K mg base A outer s H → BindsTo s fd args ([err].zip [.ref a]) → (∀ H', Nw H H' → Q (.str k) H') →
    codeAny (model prog w) A (.call (.ref f) args) (CR (L2.CX prog w) outer prog w H s Q (fun _ _ _ => False)) s
structure KindOk (prog : Program) (w : World) (K : PySem.W.Frag) (mg : Str → Option Value) (base : Heap) (kname : Str) (cl : Nat → Addr) (ks : List Str) : Prop where
  ex : ∃ f fd err, mg kname = some (.ref f) ∧ PySem.W.keepIn K (.ref f) = true ∧ Binds K fd [err] [] ∧ ∀ (c : Nat) (k : Str), ks[c]? = some k → KindRun prog w K mg base f fd err (cl c) k
section
variable {X : Cx} {cl : Nat → Addr} {ks : List Str} {kn err : Str} {i : Nat} {W : Nat → L2.St → Hp → Prop}
def kR (cl : Nat → Addr) (ks : List Str) (cls : Value) (d : Option Addr) (i : Nat) (a : Addr) : TE := fun σ H Q => ∃ c k, cls = .ref (cl c) ∧ d = none ∧ ks[c]? = some k ∧ σ[i]? = some (some (.ref a)) ∧ ∀ H', Nw H H' → Q (.str k) H'
theorem pe_kind {a : Addr} {oe : Obj} {cls : Value} {d : Option Addr} {pn : List (Addr × Obj)} {p1 p2 pos : Pos} (O : KindOk X.prog X.w X.K X.mg X.base kn cl ks) (hz : Zc cls d oe) (hf : ∃ vs, oe.data = .fields vs) (hg : X.A.guards = some []) (hd : X.A.depth < recursionLimit) (hu : X.A.units + 160 < cLine)
    (hgl : Gl X kn) (hdb : (kn == ("__debug__" : Str)) = false) (hN : X.N[i]? = some err) (hv : Vis X.env.scope err) (h1 : (err == ("__debug__" : Str)) = false) (h2 : (err == ("__classdict__" : Str)) = false) :
    PE (X.suite a ((a, oe) :: pn)) (.Call (.Name kn p1) [.Name err p2] [] pos) (kR cl ks cls d i a) := by
  refine ⟨fun pins s σ H Q I h => ?_⟩
  obtain ⟨c, k, rfl, rfl, hk, hσ, hQ⟩ := h
  obtain ⟨f, fd, er, gm, kp, hb, run⟩ := O.ex
  refine wpAny_Call_Name_kw (ld_glob (X := X.suite a ((a, oe) :: pn)) I hgl gm ?_ hdb)
  have ha : PA (X.suite a ((a, oe) :: pn)) [.Name err p2] (tCons (tVar i) tNil) := pa_cons (pe_var hN hv h1 h2) pa_nil rfl
  refine PySem.W.callWith_K (h₀ := X.base) I.ok.mod.kin kp (thn (ha.run pos pins s σ H (fun vs H1 => vs = [.ref a] ∧ H1 = H) I ⟨_, hσ, rfl, rfl⟩) fun us s1 ⟨vs, H1, I1, r, ev, eH⟩ => ⟨I1.kIn, ?_⟩)
  subst ev eH
  cases r with
  | cons r rr =>
    cases rr
    cases r
    have b := hb s1 [Value.ref a] I1.kIn rfl
    have P1 := I1.pin (a, oe) (List.mem_append_left _ List.mem_cons_self)
    have hpin : L2H.PinOk X.stack H1 s1 (a, oe) := ⟨P1.1, P1.2.1, fun hm => (List.mem_cons.mp (I1.stkSub a hm)).elim P1.2.2.1 P1.2.2.2.1, P1.2.2.2.2⟩
    refine wpAny_call (codeAny_mono (run c k hk (X.A.mark (some (.ref a))) X.stack s1 H1 ⟨[.ref a], []⟩ Q a oe hd hu hg hpin hz hf I1.env0 b hQ) fun r s' hq => ?_)
    cases r with
    | error e =>
      obtain ⟨_, _, _, _, _, _, _, _, _, _, _, _, z⟩ := hq
      exact z.elim
    | ok fl =>
      cases fl with
      | ret u => exact I1.after hq
      | next => exact False.elim hq
      | brk => exact False.elim hq
      | cont => exact False.elim hq
theorem store_no {K : PySem.W.Frag} {H : Hp} {σ : L2.St} {g g1 : Gam} (h : store i .no g = some g1) (r : Rel K H σ g) : Rel K H (σ.set i none) g1 ∧ Stp σ g H (σ.set i none) g1 H := by
  obtain ⟨rfl, hi, hm⟩ := store_is h
  have ow : ∀ {j : Nat} {s : Slot}, s ≠ .no → (g.set i .no)[j]? = some s → j ≠ i ∧ g[j]? = some s := fun {j s} n e => by
    by_cases hj : j = i
    · subst hj; rw [List.getElem?_set_self hi] at e; cases e; exact absurd rfl n
    · rw [List.getElem?_set_ne (Ne.symm hj)] at e; exact ⟨hj, e⟩
  have sg : ∀ {j : Nat}, j ≠ i → (σ.set i none)[j]? = σ[j]? := fun hj => by rw [List.getElem?_set_ne (Ne.symm hj)]
  refine ⟨⟨by rw [List.length_set, List.length_set]; exact r.len, fun j d e => ?_, fun j k xs e => ?_, fun j l k k' xs ys a e1 e2 z1 z2 => ?_⟩, ⟨fun _ _ e _ => e, .refl, fun _ e => e, fun j k xs a e z => ?_, fun j k xs e n => ?_⟩⟩
  · obtain ⟨hj, e⟩ := ow (fun q => by cases q) e
    rw [sg hj]; exact r.val j d e
  · obtain ⟨hj, e⟩ := ow (fun q => by cases q) e
    rw [sg hj]; exact r.own j k xs e
  · obtain ⟨h1, e1⟩ := ow (fun q => by cases q) e1
    obtain ⟨h2, e2⟩ := ow (fun q => by cases q) e2
    rw [sg h1] at z1; rw [sg h2] at z2
    exact r.inj j l k k' xs ys a e1 e2 z1 z2
  · obtain ⟨hj, e⟩ := ow (fun q => by cases q) e
    rw [sg hj] at z
    exact .inr ⟨j, xs, e, z⟩
  · have hj : j ≠ i := fun q => by subst q; exact n (hm k xs e)
    exact ⟨xs, by rw [List.getElem?_set_ne (Ne.symm hj)]; exact e, fun _ => rfl, sg hj⟩
def kTs (cl : Nat → Addr) (ks : List Str) (i : Nat) : Option (Str × Bool) → Addr → Value → Option Addr → TS
  | none => fun a cls d D σ H => kR cl ks cls d i a σ H D.rt
  | some (s, b) => fun a cls d D σ H => kR cl ks cls d i a σ H fun v H1 => ∃ k t, v = .str k ∧ cmpD .ne (.str k) (.str s) = some t ∧ if t = true then D.rt (.bl b) H1 else D.nx σ H1
def kSuite (kn err : Str) (h : Option (Str × Bool)) (su : List Stmt) : Prop := match h with
  | none => ∃ p1 p2 p3 p4, su = [.Return (some (.Call (.Name kn p1) [.Name err p2] [] p3)) p4]
  | some (s, b) => ∃ p1 p2 p3 p4 p5 p6 p7 p8 j1 j2, su = [.If (.Compare (.Call (.Name kn p1) [.Name err p2] [] p3) [.NotEq] [.Constant (.str s) j1 p4] p5) [.Return (some (.Constant (.bool b) j2 p6)) p7] [] p8]
theorem kind_suite {h : Option (Str × Bool)} {su : List Stmt} {a : Addr} {oe : Obj} {cls : Value} {d : Option Addr} {pn : List (Addr × Obj)} (O : KindOk X.prog X.w X.K X.mg X.base kn cl ks) (hz : Zc cls d oe) (hf : ∃ vs, oe.data = .fields vs) (hg : X.A.guards = some []) (hd : X.A.depth < recursionLimit) (hu : X.A.units + 160 < cLine)
    (hgl : Gl X kn) (hdb : (kn == ("__debug__" : Str)) = false) (hN : X.N[i]? = some err) (hv : Vis X.env.scope err) (h1 : (err == ("__debug__" : Str)) = false) (h2 : (err == ("__classdict__" : Str)) = false) (hs : kSuite kn err h su) :
    PSs (X.suite a ((a, oe) :: pn)) su (kTs cl ks i h a cls d) := by
  have P := fun p1 p2 pos => pe_kind (X := X) (pn := pn) (a := a) (p1 := p1) (p2 := p2) (pos := pos) O hz hf hg hd hu hgl hdb hN hv h1 h2
  cases h with
  | none =>
    obtain ⟨p1, p2, p3, p4, rfl⟩ := hs
    exact pss_one (ps_ret (P p1 p2 p3))
  | some sb =>
    obtain ⟨s, b⟩ := sb
    obtain ⟨p1, p2, p3, p4, p5, p6, p7, p8, j1, j2, rfl⟩ := hs
    have u65 : (X.suite a ((a, oe) :: pn)).A.units + 65 < cLine := by
      show X.A.units + 65 < cLine
      omega
    have tst := pt_cmpR (pos := p5) (cmp_ok u65 .ne) (P p1 p2 p3) (pe_str (x := s) (j := j1) (pos := p4)) (nobehind _ (by decide) (by decide))
    refine pss_one ((ps_if tst (pss_one (ps_ret (pe_bl (b := b) (j := j2) (pos := p6)))) pss_nil).imp fun D σ H h => ?_)
    obtain ⟨c, k, e1, e2, hk, hσ, hQ⟩ := h
    refine ⟨c, k, e1, e2, hk, hσ, fun H' n => ?_⟩
    obtain ⟨k', t, e3, ec, q⟩ := hQ H' n
    cases e3
    refine ⟨.str k, .str s, t, .inl (.str k), .inl (.str s), ec, t, rfl, ?_⟩
    cases t with
    | true => exact q
    | false => exact q
theorem ss_tryk {body su : List Stmt} {bn : Str} {m : Gam → Flow} {h : Option (Str × Bool)} {C : Addr} {np pos pos' : Pos} (hs : X.stack = X.env :: X.outer) (hf : X.env.frame = some X.env.locals) (hNd : X.N.Nodup) (hN : X.N[i]? = some err) (hln : X.env.scope.names.lookup err = some .local)
    (hb : Gl X bn) (hbd : (bn == ("__debug__" : Str)) = false) (hbm : X.mg bn = some (.ref C)) (tk : Takes X (tw cl W)) (O : KindOk X.prog X.w X.K X.mg X.base kn cl ks) (hx : ∀ (c : Nat) (k : Str), ks[c]? = some k → PySem.W.exmOne X.K (.ref (cl c)) (.ref C) = some true)
    (hg : X.A.guards = some []) (hd : X.A.depth < recursionLimit) (hu : X.A.units + 160 < cLine) (hgl : Gl X kn) (hdb : (kn == ("__debug__" : Str)) = false) (h1 : (err == ("__debug__" : Str)) = false) (h2 : (err == ("__classdict__" : Str)) = false) (hsu : kSuite kn err h su)
    (hbody : ∀ (W' : Nat → L2.St → Hp → Prop) (pn : List (Addr × Obj)) (xe : Value → Shared → Prop), Takes (X.tr pn xe) (tw cl W') → PassesOwn (model X.prog X.w) X.A X.env xe → PSs (X.tr pn xe) body (tS X.K W' m)) :
    PS X (.Try body [.ExceptHandler (some (.Name bn np)) (some err) su pos'] [] [] pos) (tS X.K W (tryF m i ks h)) := by
  obtain ⟨b0, r0, rfl⟩ : ∃ b0 r0, su = b0 :: r0 := by
    cases h with
    | none => obtain ⟨_, _, _, _, rfl⟩ := hsu; exact ⟨_, _, rfl⟩
    | some sb => obtain ⟨_, _, _, _, _, _, _, _, _, _, rfl⟩ := hsu; exact ⟨_, _, rfl⟩
  refine (ps_try_as (Wout := tw cl W) (tb := fun W' => tS X.K (fun c σ H => W' (.ref (cl c)) none σ H) m) (ts := kTs cl ks i h) hs hf hNd hN hln ⟨hb, hbd, .inl hbm⟩ tk (fun W' pn xe tk' pp => hbody _ pn xe (tk'.imp fun cls d σ H q => ?_) pp) (fun a oe cls d pn hz hfl => kind_suite O hz hfl hg hd hu hgl hdb hN (.inl hln) h1 h2 hsu)).imp fun D σ H hh => ?_
  · obtain ⟨c, rfl, rfl, q⟩ := q
    exact q
  · obtain ⟨g, r, hh⟩ := hh
    refine ⟨g, r, ?_⟩
    unfold tryF at hh
    cases q : m g with
    | bad => rw [q] at hh; exact hh
    | next g' => rw [q] at hh; exact hh
    | ret ev g' => rw [q] at hh; exact hh
    | brk g' => rw [q] at hh; exact hh
    | cont g' => rw [q] at hh; exact hh
    | exc c g' =>
      rw [q] at hh
      dsimp only at hh
      intro σ' H' r' s'
      cases qk : ks[c]? with
      | none => rw [qk] at hh; exact hh.elim
      | some k =>
        rw [qk] at hh
        dsimp only at hh
        by_cases hi : i < g'.length
        case neg => rw [if_neg hi] at hh; exact hh.elim
        rw [if_pos hi] at hh
        rw [r'.len] at hi
        refine ⟨true, hx c k qk, fun _ a ha => ?_, fun z => by cases z⟩
        cases h with
        | none => exact ⟨c, k, rfl, rfl, qk, List.getElem?_set_self hi, fun H'' n => hh (.str k) σ' H'' (r'.nw n) (s'.trans (StE.nw n).stp) (.str k)⟩
        | some sb =>
          obtain ⟨s, b⟩ := sb
          refine ⟨c, k, rfl, rfl, qk, List.getElem?_set_self hi, fun H'' n => ?_⟩
          dsimp only at hh
          cases qe : cmpD .ne (.str k) (.str s) with
          | none => rw [qe] at hh; exact hh.elim
          | some t =>
            rw [qe] at hh
            refine ⟨k, t, rfl, qe, ?_⟩
            cases t with
            | true => exact hh (.bl b) σ' H'' (r'.nw n) (s'.trans (StE.nw n).stp) (.bl b)
            | false =>
              dsimp only at hh
              cases qs : store i .no g' with
              | none => rw [qs] at hh; exact hh.elim
              | some g'' =>
                rw [qs] at hh
                obtain ⟨r3, s3⟩ := store_no qs (r'.nw n)
                rw [if_neg Bool.false_ne_true]
                show D.nx ((σ'.set i (some (V.ref a))).set i none) H''
                rw [List.set_set]
                exact hh _ H'' r3 ((s'.trans (StE.nw n).stp).trans s3)
end
end DK
end
section
set_option maxRecDepth 100000
set_option maxHeartbeats 4000000
namespace DK
open PySem L2 PySem.Spec PyProof.Rows
/-! ### from the text to the small syntax -/
structure Tab where
  fns : List (Str × List Mode)
  gls : List Str
  fre : List Str
  cls : List Str
  tr : Option (Str × Str × List Str)
  dcs : List (Str × List (Str × Str))
structure Ck where
  sc : Scope
  raw : Scope
  N : List Str
  mu : List Nat
  cool : Bool
def idx : List Str → Str → Nat → Option Nat
  | [], _, _ => none
  | x :: r, y, i => if x = y then some i else idx r y (i + 1)
def idxF : List (Str × List Mode) → Str → Nat → Option (Nat × List Mode)
  | [], _, _ => none
  | x :: r, y, i => if x.1 = y then some (i, x.2) else idxF r y (i + 1)
def kindIs (sc : Scope) (x : Str) (k : NameKind) : Bool := decide (sc.names.lookup x = some k)
def visB (sc : Scope) (x : Str) : Bool := kindIs sc x .local || kindIs sc x .cell || kindIs sc x .free
def glB (sc : Scope) (x : Str) : Bool := kindIs sc x .globalImplicit && decide ((x == ("__debug__" : Str)) = false)
def slotB (ck : Ck) (x : Str) : Option Nat := if visB ck.sc x && decide ((x == ("__debug__" : Str)) = false) && decide ((x == ("__classdict__" : Str)) = false) then idx ck.N x 0 else none
def stoB (ck : Ck) (x : Str) : Option Nat := if kindIs ck.raw x .local || kindIs ck.raw x .cell then idx ck.N x 0 else none
def freB (T : Tab) (ck : Ck) (x : Str) : Bool := glB ck.sc x && decide (x ∈ T.fre)
def bopB : Operator → Option Bop
  | .Add => some .add | .Sub => some .sub | .Mult => some .mul | .FloorDiv => some .div | .Mod => some .mod | .LShift => some .shl | .RShift => some .shr | .BitOr => some .bor | _ => none
def isNoneE : Expr → Bool | .Constant .none _ _ => true | _ => false
def copB (o : CmpOp) (b : Expr) : Option Cop := match o with
  | .Eq => some .eq | .NotEq => some .ne | .Lt => some .lt | .LtE => some .le | .Gt => some .gt | .GtE => some .ge | .In => some .isin | .NotIn => some .notin
  | .Is => some (if isNoneE b then .isn else .ist) | .IsNot => some (if isNoneE b then .notn else .notist)
def bltTab : List (Str × Blt) := [("len", .len), ("abs", .abs), ("min", .min), ("max", .max), ("sum", .sum), ("all", .all), ("any", .any), ("tuple", .tuple), ("list", .list), ("int", .int), ("repr", .repr), ("bool", .bool), ("str", .str)]
def bltB (x : Str) : Option Blt := bltTab.lookup x
def isiB (x : Str) : Option Blt := if x = "int" then some .isint else if x = "str" then some .isstr else if x = "tuple" then some .istup else none
def mutB (x : Str) : Option Mut := if x = "append" then some .append else if x = "extend" then some .extend else if x = "insert" then some .insert else if x = "pop" then some .pop else if x = "reverse" then some .reverse else none
def methB (x : Str) : Option Meth := if x = "index" then some .index else if x = "count" then some .count else if x = "join" then some .join else if x = "split" then some .split else none
def cstB : Const → Option D
  | .none => some .none | .bool b => some (.bool b) | .int i => some (.int i) | .str s => some (.str s) | _ => none
def notSlice : Expr → Bool | .Slice .. => false | _ => true
def isTupE : Expr → Bool | .Tuple .. => true | _ => false
def ownB (N : List Str) : List (Str × NameKind) → List (Str × Nat)
  | [] => []
  | (n, k) :: r => if k = .local ∨ k = .cell then (match idx N n 0 with | some i => (n, i) :: ownB N r | none => ownB N r) else ownB N r
def ap2 {α β γ : Type} (k : α → β → γ) (x : Option α) (y : Option β) : Option γ := x.bind fun a => y.bind fun b => some (k a b)
def ap3 {α β γ δ : Type} (k : α → β → γ → δ) (x : Option α) (y : Option β) (z : Option γ) : Option δ := x.bind fun a => y.bind fun b => z.bind fun c => some (k a b c)
def wh {α : Type} (c : Bool) (x : Option α) : Option α := if c then x else none
def cFs (T : Tab) (ck : Ck) : List Expr → Option (List Nat × List Mode)
  | [] => none
  | [.Name x _] => if glB ck.sc x then (idxF T.fns x 0).map fun r => ([r.1], r.2) else none
  | .Name x _ :: r => if glB ck.sc x then (match idxF T.fns x 0, cFs T ck r with
    | some (j, ms), some (js, ms') => if ms = ms' then some (j :: js, ms) else none
    | _, _ => none) else none
  | _ => none
def dicB (T : Tab) (ck : Ck) (op : CmpOp) (b : Expr) : Option (Bool × List Str) := match op, b with
  | .In, .Name x _ => wh (glB ck.sc x) ((T.dcs.lookup x).map fun kv => (false, kv.map (·.1)))
  | .NotIn, .Name x _ => wh (glB ck.sc x) ((T.dcs.lookup x).map fun kv => (true, kv.map (·.1)))
  | _, _ => none
def dFs (T : Tab) : List (Str × Str) → Option (List Nat × List Mode)
  | [] => none
  | [p] => (idxF T.fns p.2 0).map fun r => ([r.1], r.2)
  | p :: r => match idxF T.fns p.2 0, dFs T r with
    | some (j, ms), some (js, ms') => if ms = ms' then some (j :: js, ms) else none
    | _, _ => none
def tgF : Nat → Ck → Expr → Option Tg
  | 0, _, _ => none
  | n + 1, ck, e => match e with
    | .Name x _ => (stoB ck x).map .name
    | .Tuple es _ _ => wh ck.cool ((es.mapM (tgF n ck)).map .tup)
    | _ => none
def blkCk (ck : Ck) (scope : Scope) : Ck := { ck with sc := relS scope ck.sc, raw := scope }
def noSet : Expr → Bool | .Set .. => false | _ => true
mutual
def cE (T : Tab) : Nat → Ck → Expr → Option E
  | 0, _, _ => none
  | n + 1, ck, e => match e with
    | .Name x _ => match slotB ck x with
      | some i => some (.var i)
      | none => wh (glB ck.sc x) ((idx T.gls x 0).map .glob)
    | .Constant c _ _ => (cstB c).map .cst
    | .BinOp a op b _ => ap3 .bin (bopB op) (cE T n ck a) (cE T n ck b)
    | .UnaryOp .USub a _ => (cE T n ck a).map .neg
    | .UnaryOp .Not a _ => (cE T n ck a).map .not
    | .BoolOp op vs _ => cB T n ck op vs
    | .Compare a [op] [b] _ => match dicB T ck op b with
      | some r => wh (!behindInMarks op b) ((cE T n ck a).map (.din r.1 r.2))
      | none => wh (!behindInMarks op b) (ap3 .cmp (copB op b) (cE T n ck a) (cE T n ck b))
    | .Compare a [op, op2] [b, c] _ => wh (!lastMarks [op, op2] [b, c]) ((copB op b).bind fun o => (copB op2 c).bind fun p => ap3 (.cmp2 o p) (cE T n ck a) (cE T n ck b) (cE T n ck c))
    | .IfExp c a b _ => ap3 .ife (cE T n ck c) (cE T n ck a) (cE T n ck b)
    | .Call (.Name f _) as [] _ => match idxF T.fns f 0 with
      | some (j, ms) => wh (glB ck.sc f && ck.cool && as.all (fun e => !isStar e)) ((cAs T n ck ms as).map (.call j))
      | none => wh (freB T ck f) (if f = "isinstance" then (match as with
          | [a, .Name y _] => wh (freB T ck y && !isStar a) (ap2 (fun b a => .blt b (.cons a .nil)) (isiB y) (cE T n ck a))
          | _ => none)
        else (match bltB f with
          | some b => wh (ck.cool && !as.isEmpty && as.all (fun e => !isStar e)) ((cPs T n ck as).map (.blt b))
          | none => none))
    | .Call (.Attribute o m apos) as [] pos => match methB m with
      | some m => (match as with
        | [a] => wh (attrB o && apos.endLine == pos.line && !isStar a) (ap2 (fun o a => .meth m o (.cons a .nil)) (cE T n ck o) (cE T n ck a))
        | _ => none)
      | none => (match o with
        | .Name x _ => (match slotB ck x, mutB m with
          | some i, some m => wh (apos.endLine == pos.line) (match as with
            | [] => some (.mut m i .nil)
            | [a] => wh (!isStar a) ((cEs T n ck [a]).map (.mut m i))
            | [a, b] => wh (!isStar a && !isStar b) ((cEs T n ck [a, b]).map (.mut m i))
            | _ => none)
          | _, _ => none)
        | _ => none)
    | .Call (.Subscript (.List fs _) ix _) as [] _ => (cFs T ck fs).bind fun r => wh (ck.cool && notSlice ix && !as.isEmpty && as.all (fun e => !isStar e) && decide (r.1.length ≤ lim)) (ap2 (fun i as => .callix r.1 i as) (cE T n ck ix) (cAs T n ck r.2 as))
    | .Call (.Subscript (.Name x _) ix _) as [] _ => (T.dcs.lookup x).bind fun kv => (dFs T kv).bind fun r => wh (glB ck.sc x && ck.cool && notSlice ix && !as.isEmpty && as.all (fun e => !isStar e)) (ap2 (fun i as => .dcall (kv.map (·.1)) r.1 i as) (cE T n ck ix) (cAs T n ck r.2 as))
    | .Tuple es _ _ => (cEs T n ck es).map .tup
    | .List es _ => (cEs T n ck es).map .lst
    | .Subscript a (.Slice (some b) none none _) _ => ap2 (.slc .lo) (cE T n ck a) (cE T n ck b)
    | .Subscript a (.Slice none (some b) none _) _ => ap2 (.slc .hi) (cE T n ck a) (cE T n ck b)
    | .Subscript a (.Slice (some b) (some c) none _) _ => ap3 .slc2 (cE T n ck a) (cE T n ck b) (cE T n ck c)
    | .Subscript a (.Slice none none (some (.UnaryOp .USub (.Constant (.int 1) _ _) _)) _) _ => (cE T n ck a).map .rev
    | .Subscript a ix _ => wh (notSlice ix) (ap2 .sub (cE T n ck a) (cE T n ck ix))
    | .ListComp elt [⟨tg, iter, ifs, as⟩] scope _ =>
      let own := ownB ck.N scope.names
      wh (ck.cool && decide (as = 0) && blkC ck.N ck.sc scope own) ((tgF n (blkCk ck scope) tg).bind fun t => wh ((tgNames t).all (fun l => decide (l ∈ own.map (·.2))))
        (ap3 (fun it cs e => .comp e t it cs (own.map (·.2))) (cI T n ck tg iter) (cCs T n (blkCk ck scope) ifs) (cE T n (blkCk ck scope) elt)))
    | .ListComp elt [⟨tg, iter, [], as⟩, ⟨tg2, iter2, ifs2, as2⟩] scope _ =>
      let own := ownB ck.N scope.names
      wh (ck.cool && decide (as = 0) && decide (as2 = 0) && noSet iter2 && blkC ck.N ck.sc scope own) ((tgF n (blkCk ck scope) tg).bind fun t => (tgF n (blkCk ck scope) tg2).bind fun t2 => wh ((tgNames t).all (fun l => decide (l ∈ own.map (·.2))) && (tgNames t2).all (fun l => decide (l ∈ own.map (·.2))))
        ((cI T n (blkCk ck scope) tg2 iter2).bind fun it2 => ap3 (fun it cs e => .comp2 e t it t2 it2 cs (own.map (·.2)) (tgNames t2)) (cI T n ck tg iter) (cCs T n (blkCk ck scope) ifs2) (cE T n (blkCk ck scope) elt)))
    | _ => none
def cB (T : Tab) : Nat → Ck → BoolOp → List Expr → Option E
  | 0, _, _, _ => none
  | n + 1, ck, op, vs => match vs with
    | [a] => cE T n ck a
    | a :: b :: r => ap2 (fun a b => match op with | .And => .and a b | .Or => .or a b) (cE T n ck a) (cB T n ck op (b :: r))
    | [] => none
def cEs (T : Tab) : Nat → Ck → List Expr → Option Es
  | 0, _, _ => none
  | n + 1, ck, es => match es with
    | [] => some .nil
    | .Starred e _ :: r => ap2 .star (cE T n ck e) (cEs T n ck r)
    | e :: r => ap2 .cons (cE T n ck e) (cEs T n ck r)
def cPs (T : Tab) : Nat → Ck → List Expr → Option Es
  | 0, _, _ => none
  | n + 1, ck, es => match es with
    | [] => some .nil
    | e :: r => ap2 .cons (cE T n ck e) (cPs T n ck r)
def cAs (T : Tab) : Nat → Ck → List Mode → List Expr → Option As
  | 0, _, _, _ => none
  | n + 1, ck, ms, es => match ms, es with
    | [], [] => some .nil
    | m :: ms, e :: r => ap2 (.cons m) (cE T n ck e) (cAs T n ck ms r)
    | _, _ => none
def cCs (T : Tab) : Nat → Ck → List Expr → Option Es
  | 0, _, _ => none
  | n + 1, ck, es => match es with
    | [] => some .nil
    | [e] => (cE T n ck e).map fun a => .cons a .nil
    | _ => none
def cI (T : Tab) : Nat → Ck → Expr → Expr → Option I
  | 0, _, _, _ => none
  | n + 1, ck, tg, e => match e with
    | .Set .. => none
    | .Call (.Name f _) as [] _ =>
      if f = "range" then wh (freB T ck f) (match as with
        | [a] => wh (!isStar a) ((cE T n ck a).map fun a => .range (.cons a .nil))
        | [a, b] => wh (!isStar a && !isStar b) (ap2 (fun a b => .range (.cons a (.cons b .nil))) (cE T n ck a) (cE T n ck b))
        | _ => none)
      else if f = "zip" then wh (freB T ck f && isTupE tg) (match as with
        | [a, b] => wh (!isStar a && !isStar b) (ap2 (fun a b => .zip (.cons a (.cons b .nil))) (cE T n ck a) (cE T n ck b))
        | _ => none)
      else if f = "enumerate" then wh (freB T ck f && isTupE tg) (match as with
        | [a] => wh (!isStar a) ((cE T n ck a).map fun a => .enum (.cons a .nil))
        | _ => none)
      else (cE T n ck e).map .e
    | _ => (cE T n ck e).map .e
end
/-! ### statements -/
def notComp : Expr → Bool | .ListComp .. => false | .SetComp .. => false | .DictComp .. => false | _ => true
def swapQ (ts vs : List Expr) (sc : Scope) : Option (Option (List Str)) :=
  if !(ts.length == 2 || ts.length == 3) || vs.length != ts.length then some none
  else if vs.any fun | .Starred .. => true | _ => false then some none
  else
    let line := (ts.head?.map (·.pos.line)).getD 0
    let names := ts.filterMap fun
      | .Name id pos => if sc.names.lookup id == some .local && pos.line == line then some id else none
      | _ => none
    if names.length != ts.length || names.eraseDups.length != names.length then some none
    else if vs.all (foldedForSure 8) then some none
    else if vs.all (constantsAlone 8) then none
    else some (some names)
def swE (ts : List Expr) (v : Expr) (sc : Scope) : Option (Option (List Str)) := match v with
  | .Tuple vs _ _ => swapQ ts vs sc
  | _ => some none
def sameB (v : Expr) (y : Str) (py : Pos) (sc : Scope) : Bool := match v with
  | .ListComp _ _ s pos => kindIs sc y .local && py.line == pos.line && !(s.names.any fun (n, k) => n == y && (k == .local || k == .cell))
  | _ => false
def suB (kn er : Str) : List Stmt → Option (Option (Str × Bool))
  | [.Return (some (.Call (.Name f _) [.Name e _] [] _)) _] => if f = kn ∧ e = er then some none else none
  | [.If (.Compare (.Call (.Name f _) [.Name e _] [] _) [.NotEq] [.Constant (.str s) _ _] _) [.Return (some (.Constant (.bool b) _ _)) _] [] _] => if f = kn ∧ e = er then some (some (s, b)) else none
  | _ => none
mutual
def cS (T : Tab) : Nat → Ck → Stmt → Option S
  | 0, _, _ => none
  | n + 1, ck, s => match s with
    | .Expr (.Constant (.str _) _ _) _ => some .pass
    | .Expr e _ => wh (notComp e) ((cE T n ck e).map .expr)
    | .Assign [.Name x _] v _ => ap2 (fun i e => .set i (decide (i ∉ ck.mu)) e) (stoB ck x) (cE T n ck v)
    | .Assign [.Tuple ts k p] v _ => wh (notComp v) (match swE ts v ck.sc with
      | some none => ap2 .sett (tgF n ck (.Tuple ts k p)) (cE T n ck v)
      | some (some [x, y]) => (match ts, v with
        | [.Name x' _, .Name y' _], .Tuple [a, b] _ _ => wh (decide (x = x') && decide (y = y') && kindIs ck.sc x .local && kindIs ck.sc y .local && !isStar a && !isStar b && ck.cool)
          ((stoB ck x).bind fun i => (stoB ck y).bind fun j => wh (decide (i ≠ j)) ((cEs T n ck [a, b]).map fun es => .sett (.tup [.name i, .name j]) (.tup es)))
        | _, _ => none)
      | some (some [x, y, z]) => (match ts, v with
        | [.Name x' _, .Name y' _, .Name z' _], .Tuple [a, b, c] _ _ => wh (decide (x = x') && decide (y = y') && decide (z = z') && kindIs ck.sc x .local && kindIs ck.sc y .local && kindIs ck.sc z .local && ck.cool)
          ((stoB ck x).bind fun i => (stoB ck y).bind fun j => (stoB ck z).bind fun l => wh (decide (i ≠ j) && decide (i ≠ l) && decide (j ≠ l)) ((cEs T n ck [a, b, c]).map fun es => .sett (.tup [.name i, .name j, .name l]) (.tup es)))
        | _, _ => none)
      | _ => none)
    | .Assign [.Subscript (.Name x _) ix _] v _ => wh (notSlice ix && notComp v) (ap3 .setix (slotB ck x) (cE T n ck ix) (cE T n ck v))
    | .AugAssign (.Name x _) op e _ => ap3 .aug (stoB ck x) (bopB op) (cE T n ck e)
    | .Return none _ => some (.ret (.cst .none))
    | .Return (some e) _ => (cE T n ck e).map .ret
    | .If c a b _ => ap3 .ifs (cE T n ck c) (cSs T n ck a) (cSs T n ck b)
    | .While c b [] _ => ap2 .whil (cE T n ck c) (cSs T n ck b)
    | .For tg it b [] _ => wh (noSet it && ck.cool) (ap3 (fun it t b => .fors t it b) (cI T n ck tg it) (tgF n ck tg) (cSs T n ck b))
    | .Raise (some (.Call (.Name x _) [.Constant (.str _) _ _] [] _)) none _ => wh (glB ck.sc x && ck.cool) ((idx T.cls x 0).map .raise)
    | .Try body [.ExceptHandler (some (.Name bn _)) (some er) su _] [] [] _ => match T.tr with
      | some (kn, bn', ks) => wh (decide (bn = bn') && glB ck.sc bn && glB ck.sc kn && kindIs ck.sc er .local && ck.cool) ((slotB ck er).bind fun i => (suB kn er su).bind fun h => (cSs T n ck body).map fun b => .tryk b i ks h)
      | none => none
    | .Break _ => some .brk
    | .Continue _ => some .cont
    | .Pass _ => some .pass
    | _ => none
def cSs (T : Tab) : Nat → Ck → List Stmt → Option Ss
  | 0, _, _ => none
  | n + 1, ck, ss => match ss with
    | [] => some .nil
    | s :: r => ap2 .cons (cS T n ck s) (cSs T n ck r)
end
end DK
end
section
set_option maxRecDepth 100000
set_option maxHeartbeats 4000000
namespace DK
open PySem L2 PySem.Spec PyProof.Rows
/-! ### what the tables say of the state -/
structure ClsOk (K : PySem.W.Frag) (mg : Str → Option Value) (a : Addr) (x : Str) : Prop where
  gm : mg x = some (.ref a)
  kp : PySem.W.keepIn K (.ref a) = true
  pm : ∀ (X : Cx), X.K = K → X.mg x = some (.ref a) → Gl X x → (x == ("__debug__" : Str)) = false → ∀ (m : Str) (j : Nat) (p p2 pos : Pos), PMk X (.Call (.Name x p) [.Constant (.str m) j p2] [] pos) (fun _ H Q => Q (.ref a) none H)
structure TabOk (T : Tab) (prog : Program) (w : World) (K : PySem.W.Frag) (mg : Str → Option Value) (base : Heap) (cl : Nat → Addr) (P : List Fn) (G : List D) (n : Nat) : Prop where
  fns : ∀ (f : Nat) (x : Str) (ms : List Mode), T.fns[f]? = some (x, ms) → ∃ a fd ps, mg x = some (.ref a) ∧ PySem.W.keepIn K (.ref a) = true ∧ Binds K fd ps [] ∧ FnG prog w K mg base n a fd ps (spC K cl ms.length (callN P G n f)) ∧
    ∀ ss, callN P G n f ss ≠ .bad → ss.length = ms.length
  gls : ∀ (j : Nat) (x : Str), T.gls[j]? = some x → ∃ u v d, mg x = some u ∧ RelV v u ∧ (∀ H, Fz K H v d) ∧ G[j]? = some d
  fre : ∀ x ∈ T.fre, mg x = none
  cls : ∀ (c : Nat) (x : Str), T.cls[c]? = some x → ClsOk K mg (cl c) x
  tr : ∀ kn bn ks, T.tr = some (kn, bn, ks) → KindOk prog w K mg base kn cl ks ∧ ∃ C, mg bn = some (.ref C) ∧ ∀ (c : Nat) (k : Str), ks[c]? = some k → PySem.W.exmOne K (.ref (cl c)) (.ref C) = some true
  dcs : ∀ (x : Str) (kv : List (Str × Str)), T.dcs.lookup x = some kv → ∃ d, mg x = some (.ref d) ∧ DicAt K w d (kv.map (·.1)) ∧ ∀ (z : Str) (i : Nat) (p : Str × Str), kpos (kv.map (·.1)) z 0 = some i → kv[i]? = some p → ∃ a, mg p.2 = some (.ref a) ∧ PySem.W.nsIn K d z = some (some (.ref a))
structure EnvOk (T : Tab) (ck : Ck) (cl : Nat → Addr) (P : List Fn) (G : List D) (n : Nat) (X : Cx) (W : Nat → L2.St → Hp → Prop) : Prop where
  N : X.N = ck.N
  nd : ck.N.Nodup
  sc : X.env.scope = ck.sc
  fk : ck.sc.kind = .function
  calm : ck.cool = true → X.calm = true
  gd : X.A.guards = some []
  un : X.A.units + 150 < cLine
  room : ck.cool = true → Room n X.A
  st : ∀ x, (kindIs ck.raw x .local || kindIs ck.raw x .cell) = true → Loc ck.sc x ∧ (X.fn x = true ∨ ck.sc.names.lookup x = some .local)
  tk : Takes X (tw cl W)
  tab : TabOk T X.prog X.w X.K X.mg X.base cl P G n
theorem idx_at : ∀ {l : List Str} {x : Str} {i j : Nat}, idx l x i = some j → i ≤ j ∧ l[j - i]? = some x
  | [], _, _, _, h => by cases h
  | y :: r, x, i, j, h => by
    unfold idx at h
    by_cases e : y = x
    · rw [if_pos e] at h; cases h; subst e
      exact ⟨Nat.le_refl _, by simp⟩
    · rw [if_neg e] at h
      obtain ⟨h1, h2⟩ := idx_at h
      refine ⟨by omega, ?_⟩
      rw [show j - i = (j - (i + 1)) + 1 by omega, List.getElem?_cons_succ]
      exact h2
theorem idx_ok {l : List Str} {x : Str} {j : Nat} (h : idx l x 0 = some j) : l[j]? = some x := by simpa using (idx_at h).2
theorem idxF_at : ∀ {l : List (Str × List Mode)} {x : Str} {i j : Nat} {ms : List Mode}, idxF l x i = some (j, ms) → i ≤ j ∧ l[j - i]? = some (x, ms)
  | [], _, _, _, _, h => by cases h
  | (y, ns) :: r, x, i, j, ms, h => by
    unfold idxF at h
    by_cases e : y = x
    · rw [if_pos e] at h; cases h; subst e
      exact ⟨Nat.le_refl _, by simp⟩
    · rw [if_neg e] at h
      obtain ⟨h1, h2⟩ := idxF_at h
      refine ⟨by omega, ?_⟩
      rw [show j - i = (j - (i + 1)) + 1 by omega, List.getElem?_cons_succ]
      exact h2
theorem idxF_ok {l : List (Str × List Mode)} {x : Str} {j : Nat} {ms : List Mode} (h : idxF l x 0 = some (j, ms)) : l[j]? = some (x, ms) := by simpa using (idxF_at h).2
theorem ifB {α : Type} {c : Bool} {x z : Option α} {y : α} (h : (if c then x else z) = some y) (hz : z = none) : c = true ∧ x = some y := by
  cases c with
  | true => exact ⟨rfl, h⟩
  | false => rw [if_neg Bool.false_ne_true, hz] at h; cases h
section
variable {T : Tab} {ck : Ck} {cl : Nat → Addr} {P : List Fn} {G : List D} {n : Nat} {X : Cx} {W : Nat → L2.St → Hp → Prop} {x : Str}
theorem vis_ok (E : EnvOk T ck cl P G n X W) (h : visB ck.sc x = true) : Vis X.env.scope x := by
  unfold visB kindIs at h
  rw [Bool.or_eq_true, Bool.or_eq_true] at h
  rw [E.sc]
  rcases h with (h | h) | h
  · exact .inl (of_decide_eq_true h)
  · exact .inr (.inl (of_decide_eq_true h))
  · exact .inr (.inr (of_decide_eq_true h))
theorem gl_ok (E : EnvOk T ck cl P G n X W) (h : glB ck.sc x = true) : Gl X x ∧ (x == ("__debug__" : Str)) = false := by
  unfold glB kindIs at h
  rw [Bool.and_eq_true] at h
  exact ⟨by show X.env.scope.names.lookup x = _; rw [E.sc]; exact of_decide_eq_true h.1, of_decide_eq_true h.2⟩
theorem fre_ok (E : EnvOk T ck cl P G n X W) (h : freB T ck x = true) : Gl X x ∧ (x == ("__debug__" : Str)) = false ∧ X.mg x = none := by
  unfold freB at h
  rw [Bool.and_eq_true] at h
  obtain ⟨h1, h2⟩ := gl_ok E h.1
  exact ⟨h1, h2, E.tab.fre x (of_decide_eq_true h.2)⟩
theorem slot_ok (E : EnvOk T ck cl P G n X W) {i : Nat} (h : slotB ck x = some i) : X.N[i]? = some x ∧ Vis X.env.scope x ∧ (x == ("__debug__" : Str)) = false ∧ (x == ("__classdict__" : Str)) = false := by
  unfold slotB at h
  obtain ⟨h1, h2⟩ := ifB h rfl
  rw [Bool.and_eq_true, Bool.and_eq_true] at h1
  exact ⟨by rw [E.N]; exact idx_ok h2, vis_ok E h1.1.1, of_decide_eq_true h1.1.2, of_decide_eq_true h1.2⟩
theorem sto_ok (E : EnvOk T ck cl P G n X W) {i : Nat} (h : stoB ck x = some i) : X.N[i]? = some x ∧ Loc X.env.scope x ∧ (X.fn x = true ∨ X.env.scope.names.lookup x = some .local) := by
  unfold stoB at h
  obtain ⟨h1, h2⟩ := ifB h rfl
  obtain ⟨h3, h4⟩ := E.st x h1
  rw [← E.sc] at h3 h4
  exact ⟨by rw [E.N]; exact idx_ok h2, h3, h4⟩
theorem bop_ok {o : Operator} {b : Bop} (h : bopB o = some b) : bopOf b = o := by cases o <;> cases h <;> rfl
theorem cop_ok {o : CmpOp} {e : Expr} {b : Cop} (h : copB o e = some b) : copOf b = o := by
  cases o <;> simp only [copB, Option.some.injEq] at h <;> subst h <;> (try split) <;> rfl
theorem boot_isinst : bootBuiltins "isinstance" = some (.builtin "isinstance") := by rfl
theorem blt_tab : ∀ p ∈ bltTab, bootBuiltins p.1 = some (bltV p.2) ∧ notIs p.2 = true ∧ p.1 ≠ "__name__" := by
  intro p hp
  simp only [bltTab, List.mem_cons, List.not_mem_nil, or_false] at hp
  rcases hp with h | h | h | h | h | h | h | h | h | h | h | h | h <;> subst h <;> exact ⟨rfl, rfl, by decide⟩
theorem blt_okB {b : Blt} (h : bltB x = some b) : bootBuiltins x = some (bltV b) ∧ notIs b = true ∧ x ≠ "__name__" := blt_tab (x, b) (PySem.mem_of_lookup h)
theorem isi_okB {b : Blt} (h : isiB x = some b) : ∃ S f, isiOf b = some (S, f) ∧ bootBuiltins x = some (.type S) ∧ x ≠ "__name__" := by
  unfold isiB at h
  repeat' split at h
  all_goals first | (cases h; done) | (rename_i e; subst e; cases h; exact ⟨_, _, rfl, rfl, by decide⟩)
theorem mut_okB {b : Mut} (h : mutB x = some b) : mutNm b = x := by
  unfold mutB at h
  repeat' split at h
  all_goals first | (cases h; done) | (rename_i e; subst e; cases h; rfl)
theorem meth_okB {b : Meth} (h : methB x = some b) : methNm b = x := by
  unfold methB at h
  repeat' split at h
  all_goals first | (cases h; done) | (rename_i e; subst e; cases h; rfl)
theorem plainIx {b : Expr} (h : notSlice b = true) : PlainIx b := by
  cases b <;> first | (cases h; done) | exact fun _ _ => rfl
theorem su_ok {kn er : Str} {su : List Stmt} {h : Option (Str × Bool)} (e : suB kn er su = some h) : kSuite kn er h su := by
  unfold suB at e
  split at e
  · obtain ⟨c, e2⟩ := ifS e
    clear e
    obtain ⟨rfl, rfl⟩ := c
    cases e2
    exact ⟨_, _, _, _, rfl⟩
  · obtain ⟨c, e2⟩ := ifS e
    clear e
    obtain ⟨rfl, rfl⟩ := c
    cases e2
    exact ⟨_, _, _, _, _, _, _, _, _, _, rfl⟩
  · cases e
theorem cst_ok {c : Const} {d : D} {k : Nat} {pos : Pos} (h : cstB c = some d) : PE X (.Constant c k pos) (tM X.K W (pur (.val d))) := by
  cases c <;> cases h
  · exact se_val rfl (fun _ => .non) pe_non
  · exact se_val rfl (fun _ => .bl _) pe_bl
  · exact se_val rfl (fun _ => .int _) pe_int
  · exact se_val rfl (fun _ => .str _) pe_str
theorem cFs_ok (E : EnvOk T ck cl P G n X W) : ∀ {es : List Expr} {js : List Nat} {ms : List Mode}, cFs T ck es = some (js, ms) → ∃ as, FnsAt X cl (callN P G n) n ms.length es js as
  | [], _, _, h => by cases h
  | [e], js, ms, h => by
    cases e <;> try (cases h; done)
    rename_i x p
    unfold cFs at h
    obtain ⟨hg, h⟩ := ifB h rfl
    obtain ⟨⟨j, ms'⟩, q, h⟩ := Option.map_eq_some_iff.mp h
    cases h
    obtain ⟨g1, g2⟩ := gl_ok E hg
    obtain ⟨a, fd, ps, e1, e2, e3, e4, e5⟩ := E.tab.fns j x _ (idxF_ok q)
    exact ⟨[a], .cons ⟨g1, g2, e1, e2, ⟨fd, ps, e3, e4⟩, e5⟩ .nil⟩
  | e :: e' :: r, js, ms, h => by
    cases e <;> try (cases h; done)
    rename_i x p
    unfold cFs at h
    obtain ⟨hg, h⟩ := ifB h rfl
    cases q : idxF T.fns x 0 with
    | none => rw [q] at h; cases h
    | some z =>
      obtain ⟨j, ms'⟩ := z
      cases q2 : cFs T ck (e' :: r) with
      | none => rw [q, q2] at h; cases h
      | some z2 =>
        obtain ⟨js', ms''⟩ := z2
        rw [q, q2] at h
        dsimp only at h
        by_cases c : ms' = ms''
        · rw [if_pos c] at h
          cases h
          subst c
          obtain ⟨as, F⟩ := cFs_ok E q2
          obtain ⟨g1, g2⟩ := gl_ok E hg
          obtain ⟨a, fd, ps, e1, e2, e3, e4, e5⟩ := E.tab.fns j x _ (idxF_ok q)
          exact ⟨a :: as, .cons ⟨g1, g2, e1, e2, ⟨fd, ps, e3, e4⟩, e5⟩ F⟩
        · rw [if_neg c] at h; cases h
theorem dic_ok (E : EnvOk T ck cl P G n X W) {op : CmpOp} {b : Expr} {r : Bool × List Str} (h : dicB T ck op b = some r) : ∃ x p d, op = dop r.1 ∧ b = .Name x p ∧ Gl X x ∧ (x == ("__debug__" : Str)) = false ∧ X.mg x = some (.ref d) ∧ DicAt X.K X.w d r.2 := by
  unfold dicB at h
  split at h
  · obtain ⟨hg, h⟩ := ifB h rfl
    obtain ⟨kv, q, h⟩ := Option.map_eq_some_iff.mp h
    cases h
    obtain ⟨g1, g2⟩ := gl_ok E hg
    obtain ⟨d, e1, e2, e3⟩ := E.tab.dcs _ _ q
    exact ⟨_, _, d, rfl, rfl, g1, g2, e1, e2⟩
  · obtain ⟨hg, h⟩ := ifB h rfl
    obtain ⟨kv, q, h⟩ := Option.map_eq_some_iff.mp h
    cases h
    obtain ⟨g1, g2⟩ := gl_ok E hg
    obtain ⟨d, e1, e2, e3⟩ := E.tab.dcs _ _ q
    exact ⟨_, _, d, rfl, rfl, g1, g2, e1, e2⟩
  · cases h
theorem dFs_at : ∀ {kv : List (Str × Str)} {js : List Nat} {ms : List Mode} {i f : Nat}, dFs T kv = some (js, ms) → js[i]? = some f → ∃ p, kv[i]? = some p ∧ T.fns[f]? = some (p.2, ms)
  | [], _, _, _, _, h, _ => by cases h
  | [p], js, ms, i, f, h, e => by
    unfold dFs at h
    obtain ⟨⟨j, ms'⟩, q, h⟩ := Option.map_eq_some_iff.mp h
    cases h
    cases i with
    | zero => cases e; exact ⟨p, rfl, idxF_ok q⟩
    | succ i => simp at e
  | p :: p' :: r, js, ms, i, f, h, e => by
    unfold dFs at h
    cases q : idxF T.fns p.2 0 with
    | none => rw [q] at h; cases h
    | some z =>
      obtain ⟨j, ms'⟩ := z
      cases q2 : dFs T (p' :: r) with
      | none => rw [q, q2] at h; cases h
      | some z2 =>
        obtain ⟨js', ms''⟩ := z2
        rw [q, q2] at h
        dsimp only at h
        by_cases c : ms' = ms''
        · rw [if_pos c] at h
          cases h
          subst c
          cases i with
          | zero => cases e; exact ⟨p, rfl, idxF_ok q⟩
          | succ i =>
            obtain ⟨p2, e1, e2⟩ := dFs_at (i := i) q2 (by simpa using e)
            exact ⟨p2, by simpa using e1, e2⟩
        · rw [if_neg c] at h; cases h
theorem dfs_ok (E : EnvOk T ck cl P G n X W) {x : Str} {kv : List (Str × Str)} {js : List Nat} {ms : List Mode} (h : T.dcs.lookup x = some kv) (h2 : dFs T kv = some (js, ms)) : ∃ d, X.mg x = some (.ref d) ∧ FnsD X cl (callN P G n) n ms.length d (kv.map (·.1)) js := by
  obtain ⟨d, e1, e2, e3⟩ := E.tab.dcs _ _ h
  refine ⟨d, e1, e2, fun z i f hk hf => ?_⟩
  obtain ⟨p, p1, p2⟩ := dFs_at h2 hf
  obtain ⟨a, q1, q2⟩ := e3 z i p hk p1
  obtain ⟨a', fd, ps, f1, f2, f3, f4, f5⟩ := E.tab.fns f p.2 ms p2
  rw [q1] at f1
  cases f1
  exact ⟨a, fd, ps, q2, f2, f3, f4, f5⟩
theorem tr_env (E : EnvOk T ck cl P G n X W) {W' : Nat → L2.St → Hp → Prop} {pn : List (Addr × Obj)} {xe : Value → Shared → Prop} (tk : Takes (X.tr pn xe) (tw cl W')) : EnvOk T ck cl P G n (X.tr pn xe) W' where
  N := E.N
  nd := E.nd
  sc := E.sc
  fk := E.fk
  calm := E.calm
  gd := E.gd
  un := E.un
  room := E.room
  st := E.st
  tk := tk
  tab := E.tab
theorem blk_env (E : EnvOk T ck cl P G n X W) {scope : Scope} (hk : scope.kind = .function) (s : Shared) (H : Hp) (C : Addr) (cs : List (Str × Addr)) (fp : List Addr) : EnvOk T (blkCk ck scope) cl P G n (X.blk s H scope (compEnvC scope cs C X.env) fp) W0 where
  N := E.N
  nd := E.nd
  sc := by show relS scope X.env.scope = _; rw [E.sc]; rfl
  fk := hk
  calm := E.calm
  gd := E.gd
  un := E.un
  room := E.room
  st := fun x h => by
    rw [Bool.or_eq_true] at h
    rcases h with h | h
    · have h : scope.names.lookup x = some .local := of_decide_eq_true h
      have q : (relS scope ck.sc).names.lookup x = some .local := lookup_relS_keep (by decide) h
      exact ⟨.inl q, .inr q⟩
    · have h : scope.names.lookup x = some .cell := of_decide_eq_true h
      have q : (relS scope ck.sc).names.lookup x = some .cell := lookup_relS_keep (by decide) h
      exact ⟨.inr q, .inl (by show (scope.names.lookup x == some .cell) = true; rw [h]; rfl)⟩
  tk := Takes.imp takes_none5 fun c d σ H h => by
    obtain ⟨_, _, _, z⟩ := h
    exact z
  tab := E.tab
end
end DK
end
section
set_option maxRecDepth 100000
set_option maxHeartbeats 4000000
namespace DK
open PySem L2 PySem.Spec PyProof.Rows
/-! ### the small syntax says what the text does -/
def SE (T : Tab) (f : Nat) : Prop := ∀ ck e m, cE T f ck e = some m → ∀ cl P G n X W, EnvOk T ck cl P G n X W → PE X e (tM X.K W (evalE (callN P G n) G m)) ∧ PT X e (tT X.K W (tst (evalE (callN P G n) G m)))
def SB (T : Tab) (f : Nat) : Prop := ∀ ck op vs m, cB T f ck op vs = some m → ∀ cl P G n X W pos, EnvOk T ck cl P G n X W → PE X (.BoolOp op vs pos) (tM X.K W (evalE (callN P G n) G m)) ∧ PW X (.BoolOp op vs pos) (tT X.K W (tst (evalE (callN P G n) G m)))
def SEs (T : Tab) (f : Nat) : Prop := ∀ ck es m, cEs T f ck es = some m → ∀ cl P G n X W, EnvOk T ck cl P G n X W → PA X es (tAF X.K W (evalEs (callN P G n) G m))
def SPs (T : Tab) (f : Nat) : Prop := ∀ ck es m, cPs T f ck es = some m → es.all (fun e => !isStar e) = true → ∀ cl P G n X W, EnvOk T ck cl P G n X W → PA X es (tAP X.K W (evalPs (callN P G n) G m))
def SAs (T : Tab) (f : Nat) : Prop := ∀ ck ms es m, cAs T f ck ms es = some m → es.all (fun e => !isStar e) = true → ∀ cl P G n X W, EnvOk T ck cl P G n X W → PA X es (tAA X.K W (evalAs (callN P G n) G m)) ∧ (es = [] → m = .nil)
def SCs (T : Tab) (f : Nat) : Prop := ∀ ck es m, cCs T f ck es = some m → ∀ cl P G n X, EnvOk T ck cl P G n X W0 → PTs X es (tT X.K W0 (evalCs (callN P G n) G m))
def SI (T : Tab) (f : Nat) : Prop := ∀ ck tg e m, cI T f ck tg e = some m → ∀ cl P G n X W, EnvOk T ck cl P G n X W → PI X tg e (tI X.K W (evalI (callN P G n) G m)) ∧ ∀ x, foldedSetIterable e X.env x = pure x
section
variable {T : Tab} {f : Nat} {ck : Ck} {cl : Nat → Addr} {P : List Fn} {G : List D} {n : Nat} {X : Cx} {W : Nat → L2.St → Hp → Prop}
theorem both {e : Expr} {m : Ev EV} (hp : plainT e = true) (h : PE X e (tM X.K W m)) : PE X e (tM X.K W m) ∧ PT X e (tT X.K W (tst m)) := ⟨h, st_plain hp h⟩
theorem units_ok (E : EnvOk T ck cl P G n X W) : X.A.units + 65 < cLine ∧ X.A.units + 100 < cLine := by
  have := E.un
  omega
theorem isTup_ok {tg : Expr} (h : isTupE tg = true) : ∃ es k p, tg = .Tuple es k p := by
  cases tg <;> first | (cases h; done) | exact ⟨_, _, _, rfl⟩
theorem ap2_ok {α β γ : Type} {k : α → β → γ} {x : Option α} {y : Option β} {z : γ} (h : ap2 k x y = some z) : ∃ a b, x = some a ∧ y = some b ∧ z = k a b := by
  cases x <;> cases y <;> cases h
  exact ⟨_, _, rfl, rfl, rfl⟩
theorem ap3_ok {α β γ δ : Type} {k : α → β → γ → δ} {x : Option α} {y : Option β} {w : Option γ} {z : δ} (h : ap3 k x y w = some z) : ∃ a b c, x = some a ∧ y = some b ∧ w = some c ∧ z = k a b c := by
  cases x <;> cases y <;> cases w <;> cases h
  exact ⟨_, _, _, rfl, rfl, rfl, rfl⟩
theorem wh_ok {α : Type} {c : Bool} {x : Option α} {y : α} (h : wh c x = some y) : c = true ∧ x = some y := ifB h rfl
theorem map_ok {α β : Type} {k : α → β} {x : Option α} {y : β} (h : x.map k = some y) : ∃ a, x = some a ∧ y = k a := by
  cases x <;> cases h
  exact ⟨_, rfl, rfl⟩
theorem bind_ok {α β : Type} {k : α → Option β} {x : Option α} {y : β} (h : x.bind k = some y) : ∃ a, x = some a ∧ k a = some y := by
  cases x with
  | none => cases h
  | some a => exact ⟨a, rfl, h⟩
theorem nst {e : Expr} (h : (!isStar e) = true) : isStar e = false := by simpa using h
theorem nst2 {a b : Expr} (h : (!isStar a && !isStar b) = true) : isStar a = false ∧ isStar b = false := by simpa using h
theorem tgF_ok : ∀ (f : Nat) {tg : Expr} {t : Tg}, tgF f ck tg = some t → EnvOk T ck cl P G n X W → PG X tg (tG X.K t)
  | 0, _, _, h, _ => by cases h
  | f + 1, tg, t, h, E => by
    have each : ∀ (es : List Expr) (ts : List Tg), es.mapM (tgF f ck) = some ts → PGs X es (tGs X.K ts) ∧ (assignEach es X.env).length = ts.length ∧ (assignEach es X.env).findIdx? (·.1) = none := fun es => by
      induction es with
      | nil => intro ts h; simp at h; subst h; exact ⟨sgs_nil, rfl, rfl⟩
      | cons e es ih =>
        intro ts h
        rw [List.mapM_cons] at h
        cases q : tgF f ck e with
        | none => rw [q] at h; cases h
        | some t =>
          cases q2 : es.mapM (tgF f ck) with
          | none => rw [q, q2] at h; cases h
          | some ts' =>
            rw [q, q2] at h; cases h
            obtain ⟨h1, h2, h3⟩ := ih ts' q2
            have ns : isStar e = false := by
              cases f with
              | zero => cases q
              | succ f => cases e <;> first | rfl | (unfold tgF at q; cases q)
            have ea : assignEach (e :: es) X.env = (false, assign e X.env) :: assignEach es X.env := by
              cases e <;> first | rfl | cases ns
            refine ⟨sgs_cons (tgF_ok f q E) h1 (by rw [ea]; rfl), by rw [ea, List.length_cons, h2]; rfl, ?_⟩
            rw [ea, List.findIdx?_cons]
            simp [h3]
    unfold tgF at h
    split at h
    · cases q : stoB ck ‹_› with
      | none => rw [q] at h; cases h
      | some i =>
        rw [q] at h; cases h
        obtain ⟨h1, h2, h3⟩ := sto_ok E q
        exact sg_name (by rw [E.N]; exact E.nd) h1 h2 h3
    · rename_i es _ _
      obtain ⟨hc, h⟩ := wh_ok h
      cases q : es.mapM (tgF f ck) with
      | none => rw [q] at h; cases h
      | some ts =>
        rw [q] at h; cases h
        obtain ⟨h1, h2, h3⟩ := each es ts q
        exact sg_tup (E.calm hc) h1 h2 h3
    · cases h
theorem step_Es (hE : SE T f) (hs : SEs T f) : SEs T (f + 1) := by
  intro ck es m h cl P G n X W E
  match es, h with
  | [], h => cases h; exact sa_nil
  | e :: r, h =>
    by_cases hst : ∃ e' p, e = .Starred e' p
    · obtain ⟨e', p, rfl⟩ := hst
      obtain ⟨a, b, q1, q2, rfl⟩ := ap2_ok (k := Es.star) h
      exact sa_star (hE _ _ _ q1 cl P G n X W E).1 (hs _ _ _ q2 cl P G n X W E)
    · have ns : isStar e = false := by
        cases e <;> first | rfl | exact absurd ⟨_, _, rfl⟩ hst
      have h : ap2 Es.cons (cE T f ck e) (cEs T f ck r) = some m := by
        cases e <;> first | exact h | exact absurd ⟨_, _, rfl⟩ hst
      obtain ⟨a, b, q1, q2, rfl⟩ := ap2_ok h
      exact sa_cons (hE _ _ _ q1 cl P G n X W E).1 (hs _ _ _ q2 cl P G n X W E) ns
theorem step_Ps (hE : SE T f) (hs : SPs T f) : SPs T (f + 1) := by
  intro ck es m h hst cl P G n X W E
  match es, h, hst with
  | [], h, _ => cases h; exact sp_nil
  | e :: r, h, hst =>
    obtain ⟨a, b, q1, q2, rfl⟩ := ap2_ok (k := Es.cons) h
    rw [List.all_cons, Bool.and_eq_true] at hst
    exact sp_cons (hE _ _ _ q1 cl P G n X W E).1 (hs _ _ _ q2 hst.2 cl P G n X W E) (nst hst.1)
theorem step_As (hE : SE T f) (hs : SAs T f) : SAs T (f + 1) := by
  intro ck ms es m h hst cl P G n X W E
  match ms, es, h, hst with
  | [], [], h, _ => cases h; exact ⟨saa_nil, fun _ => rfl⟩
  | [], _ :: _, h, _ => cases h
  | _ :: _, [], h, _ => cases h
  | md :: ms, e :: r, h, hst =>
    obtain ⟨a, b, q1, q2, rfl⟩ := ap2_ok (k := As.cons md) h
    rw [List.all_cons, Bool.and_eq_true] at hst
    exact ⟨saa_cons md (hE _ _ _ q1 cl P G n X W E).1 (hs _ _ _ _ q2 hst.2 cl P G n X W E).1 (nst hst.1), fun z => by cases z⟩
theorem step_Cs (hE : SE T f) : SCs T (f + 1) := by
  intro ck es m h cl P G n X E
  match es, h with
  | [], h => cases h; exact sts_nil
  | [e], h =>
    obtain ⟨a, q, rfl⟩ := map_ok (k := fun a => Es.cons a .nil) h
    exact sts_one (hE _ _ _ q cl P G n X W0 E).2
  | _ :: _ :: _, h => cases h
theorem step_B (hE : SE T f) (hB : SB T f) : SB T (f + 1) := by
  intro ck op vs m h cl P G n X W pos E
  match vs, h with
  | [], h => cases h
  | [a], h =>
    obtain ⟨h1, h2⟩ := hE _ _ _ (show cE T f ck a = some m from h) cl P G n X W E
    refine ⟨⟨fun pins s σ H Q I hq => ?_⟩, ?_⟩
    · show wpAny _ _ (eval a X.env) _ _ _
      exact h1.run pins s σ H Q I hq
    · cases op
      · exact pw_and1 h2
      · exact pw_or1 h2
  | a :: b :: r, h =>
    cases op
    · obtain ⟨a', b', q1, q2, rfl⟩ := ap2_ok (k := DK.E.and) h
      obtain ⟨a1, a2⟩ := hE _ _ _ q1 cl P G n X W E
      obtain ⟨b1, b2⟩ := hB _ _ _ _ q2 cl P G n X W pos E
      exact ⟨se_and a1 b1, sw_and a2 b2⟩
    · obtain ⟨a', b', q1, q2, rfl⟩ := ap2_ok (k := DK.E.or) h
      obtain ⟨a1, a2⟩ := hE _ _ _ q1 cl P G n X W E
      obtain ⟨b1, b2⟩ := hB _ _ _ _ q2 cl P G n X W pos E
      exact ⟨se_or a1 b1, sw_or a2 b2⟩
theorem noset {e : Expr} (h : noSet e = true) {env : Env} : ∀ x, foldedSetIterable e env x = pure x := by
  cases e <;> first | (cases h; done) | exact fun _ => rfl
theorem step_I (hE : SE T f) : SI T (f + 1) := by
  intro ck tg e m h cl P G n X W E
  have plain : ∀ {e : Expr} {m : I}, (cE T f ck e).map .e = some m → PI X tg e (tI X.K W (evalI (callN P G n) G m)) := fun {e m} h => by
    obtain ⟨a, q, rfl⟩ := map_ok h
    exact si_e (hE _ _ _ q cl P G n X W E).1
  unfold cI at h
  split at h
  · cases h
  · rename_i fn p0 as p1
    refine ⟨?_, fun _ => rfl⟩
    by_cases e1 : fn = "range"
    · subst e1
      rw [if_pos rfl] at h
      obtain ⟨hf, hq⟩ := wh_ok h
      obtain ⟨g1, g2, g3⟩ := fre_ok E hf
      clear h
      match as, hq with
      | [], hq => cases hq
      | [a], hq =>
        obtain ⟨s1, hq⟩ := wh_ok hq
        obtain ⟨a', q, rfl⟩ := map_ok hq
        exact si_range1 g1 g3 (hE _ _ _ q cl P G n X W E).1 (nst s1)
      | [a, b], hq =>
        obtain ⟨s1, hq⟩ := wh_ok hq
        obtain ⟨a', b', q1, q2, rfl⟩ := ap2_ok hq
        exact si_range2 g1 g3 (hE _ _ _ q1 cl P G n X W E).1 (hE _ _ _ q2 cl P G n X W E).1 (nst2 s1).1 (nst2 s1).2
      | _ :: _ :: _ :: _, hq => cases hq
    · rw [if_neg e1] at h
      by_cases e2 : fn = "zip"
      · subst e2
        rw [if_pos rfl] at h
        obtain ⟨hf, hq⟩ := wh_ok h
        rw [Bool.and_eq_true] at hf
        obtain ⟨g1, g2, g3⟩ := fre_ok E hf.1
        clear h
        obtain ⟨_, _, _, rfl⟩ := isTup_ok hf.2
        match as, hq with
        | [], hq => cases hq
        | [a], hq => cases hq
        | [a, b], hq =>
          obtain ⟨s1, hq⟩ := wh_ok hq
          obtain ⟨a', b', q1, q2, rfl⟩ := ap2_ok hq
          exact si_zip g1 g3 (hE _ _ _ q1 cl P G n X W E).1 (hE _ _ _ q2 cl P G n X W E).1 (nst2 s1).1 (nst2 s1).2
        | _ :: _ :: _ :: _, hq => cases hq
      · rw [if_neg e2] at h
        by_cases e3 : fn = "enumerate"
        · subst e3
          rw [if_pos rfl] at h
          obtain ⟨hf, hq⟩ := wh_ok h
          rw [Bool.and_eq_true] at hf
          obtain ⟨g1, g2, g3⟩ := fre_ok E hf.1
          clear h
          obtain ⟨_, _, _, rfl⟩ := isTup_ok hf.2
          match as, hq with
          | [], hq => cases hq
          | [a], hq =>
            obtain ⟨s1, hq⟩ := wh_ok hq
            obtain ⟨a', q, rfl⟩ := map_ok hq
            exact si_enum g1 g3 (hE _ _ _ q cl P G n X W E).1 (nst s1)
          | _ :: _ :: _, hq => cases hq
        · rw [if_neg e3] at h
          exact plain h
  · rename_i hns _
    exact ⟨plain h, noset (by cases e <;> first | rfl | exact absurd rfl (hns _ _ _))⟩
end
end DK
end
section
set_option maxRecDepth 100000
set_option maxHeartbeats 4000000
namespace DK
open PySem L2 PySem.Spec PyProof.Rows
section
variable {T : Tab} {f : Nat} {ck : Ck} {cl : Nat → Addr} {P : List Fn} {G : List D} {n : Nat} {X : Cx} {W : Nat → L2.St → Hp → Prop}
theorem step_E (hE : SE T f) (hB : SB T f) (hEs : SEs T f) (hPs : SPs T f) (hAs : SAs T f) (hCs : SCs T f) (hI : SI T f) : SE T (f + 1) := by
  intro ck e m h cl P G n X W E
  obtain ⟨u65, u100⟩ := units_ok E
  have nd : X.N.Nodup := by rw [E.N]; exact E.nd
  unfold cE at h
  split at h
  · -- Name
    rename_i x pos
    refine both rfl ?_
    cases q : slotB ck x with
    | some i =>
      rw [q] at h; cases h
      obtain ⟨h1, h2, h3, h4⟩ := slot_ok E q
      exact se_var h1 h2 h3 h4 _ _
    | none =>
      rw [q] at h
      obtain ⟨hg, h⟩ := wh_ok h
      obtain ⟨j, hj, rfl⟩ := map_ok h
      obtain ⟨g1, g2⟩ := gl_ok E hg
      obtain ⟨u, v, d, e1, e2, e3, e4⟩ := E.tab.gls j x (idx_ok hj)
      exact se_glob g1 e1 e2 e3 g2 _ _ e4
  · obtain ⟨d, q, rfl⟩ := map_ok h
    exact both rfl (cst_ok q)
  · obtain ⟨o, a, b, q1, q2, q3, rfl⟩ := ap3_ok h
    refine both rfl ?_
    rw [← bop_ok q1]
    exact se_bin o (hE _ _ _ q2 cl P G n X W E).1 (hE _ _ _ q3 cl P G n X W E).1
  · obtain ⟨a, q, rfl⟩ := map_ok h
    exact both rfl (se_neg (hE _ _ _ q cl P G n X W E).1)
  · obtain ⟨a, q, rfl⟩ := map_ok h
    obtain ⟨h1, h2⟩ := hE _ _ _ q cl P G n X W E
    exact ⟨se_not h1, st_not h2⟩
  · obtain ⟨h1, h2⟩ := hB _ _ _ _ h cl P G n X W _ E
    exact ⟨h1, h2.pt⟩
  · rename_i aa op bb pos
    cases qd : dicB T ck op bb with
    | some r =>
      rw [qd] at h
      obtain ⟨hm, h⟩ := wh_ok h
      obtain ⟨a, q1, rfl⟩ := map_ok h
      have hm := (Bool.not_eq_true' _).mp hm
      obtain ⟨x, p, d, rfl, rfl, g1, g2, g3, g4⟩ := dic_ok E qd
      exact ⟨se_din g4 r.1 g1 g3 g2 (hE _ _ _ q1 cl P G n X W E).1 hm, st_din g4 r.1 g1 g3 g2 (hE _ _ _ q1 cl P G n X W E).1 hm⟩
    | none =>
    rw [qd] at h
    obtain ⟨hm, h⟩ := wh_ok h
    obtain ⟨o, a, b, q1, q2, q3, rfl⟩ := ap3_ok h
    have hm := (Bool.not_eq_true' _).mp hm
    rw [← cop_ok q1] at hm ⊢
    exact ⟨se_cmp u65 o (hE _ _ _ q2 cl P G n X W E).1 (hE _ _ _ q3 cl P G n X W E).1 hm, st_cmp u65 o (hE _ _ _ q2 cl P G n X W E).1 (hE _ _ _ q3 cl P G n X W E).1 hm⟩
  · obtain ⟨hm, h⟩ := wh_ok h
    obtain ⟨o, q0, h⟩ := bind_ok h
    obtain ⟨p, q1, h⟩ := bind_ok h
    obtain ⟨a, b, c, q2, q3, q4, rfl⟩ := ap3_ok h
    have hm := (Bool.not_eq_true' _).mp hm
    rw [← cop_ok q0, ← cop_ok q1] at hm ⊢
    exact ⟨se_cmp2 u65 o p (hE _ _ _ q2 cl P G n X W E).1 (hE _ _ _ q3 cl P G n X W E).1 (hE _ _ _ q4 cl P G n X W E).1 hm, st_cmp2 u65 o p (hE _ _ _ q2 cl P G n X W E).1 (hE _ _ _ q3 cl P G n X W E).1 (hE _ _ _ q4 cl P G n X W E).1 hm⟩
  · obtain ⟨a, b, c, q2, q3, q4, rfl⟩ := ap3_ok h
    obtain ⟨c1, c2⟩ := hE _ _ _ q2 cl P G n X W E
    obtain ⟨a1, a2⟩ := hE _ _ _ q3 cl P G n X W E
    obtain ⟨b1, b2⟩ := hE _ _ _ q4 cl P G n X W E
    exact ⟨se_ife c2 a1 b1, st_ife c2 a2 b2⟩
  · -- a call by a name
    rename_i fn p0 as p1
    refine both rfl ?_
    cases q : idxF T.fns fn 0 with
    | some r =>
      obtain ⟨j, ms⟩ := r
      rw [q] at h
      obtain ⟨hg, h⟩ := wh_ok h
      rw [Bool.and_eq_true, Bool.and_eq_true] at hg
      obtain ⟨⟨hg1, cool⟩, hg2⟩ := hg
      have hg := And.intro hg1 hg2
      obtain ⟨g1, g2⟩ := gl_ok E hg.1
      obtain ⟨as', qa, rfl⟩ := map_ok h
      obtain ⟨a, fd, ps, e1, e2, e3, e4, e5⟩ := E.tab.fns j fn ms (idxF_ok q)
      obtain ⟨s1, s2⟩ := hAs _ _ _ _ qa hg.2 cl P G n X W E
      exact se_call e5 e4 (E.room cool) E.gd g1 e1 e2 e3 E.tk s1 (fun z => by rw [s2 z]; rfl) hg.2 g2
    | none =>
      rw [q] at h
      obtain ⟨hf, h⟩ := wh_ok h
      obtain ⟨g1, g2, g3⟩ := fre_ok E hf
      by_cases e1 : fn = "isinstance"
      · subst e1
        rw [if_pos rfl] at h
        split at h
        · rename_i a y _
          obtain ⟨c, h⟩ := wh_ok h
          rw [Bool.and_eq_true] at c
          obtain ⟨y1, y2, y3⟩ := fre_ok E c.1
          obtain ⟨b, a', q1, q2, rfl⟩ := ap2_ok h
          obtain ⟨S, F, z1, z2, z3⟩ := isi_okB q1
          exact se_isi z1 g1 g3 boot_isinst y1 y3 z2 (hE _ _ _ q2 cl P G n X W E).1 (nst c.2) (by decide) g2 z3 y2
        · cases h
      · rw [if_neg e1] at h
        cases qb : bltB fn with
        | none => rw [qb] at h; cases h
        | some b =>
          rw [qb] at h
          obtain ⟨c, h⟩ := wh_ok h
          rw [Bool.and_eq_true, Bool.and_eq_true] at c
          obtain ⟨⟨cool, c1⟩, c2⟩ := c
          have c := And.intro c1 c2
          obtain ⟨as', qa, rfl⟩ := map_ok h
          obtain ⟨b1, b2, b3⟩ := blt_okB qb
          cases as with
          | nil => cases c.1
          | cons e es => exact se_blt (E.calm cool) E.gd u100 b b2 g1 g3 b1 (hPs _ _ _ qa c.2 cl P G n X W E) c.2 b3 g2
  · -- a method
    rename_i o mm apos as pos
    refine both rfl ?_
    cases qm : methB mm with
    | some m =>
      rw [qm] at h
      match as, h with
      | [], h => cases h
      | [a], h =>
        obtain ⟨c, hq⟩ := wh_ok h
        rw [Bool.and_eq_true, Bool.and_eq_true] at c
        obtain ⟨o', a', q1, q2, rfl⟩ := ap2_ok hq
        rw [← meth_okB qm]
        exact se_meth u65 m c.1.1 c.1.2 (hE _ _ _ q1 cl P G n X W E).1 (hE _ _ _ q2 cl P G n X W E).1 (nst c.2)
      | _ :: _ :: _, h => cases h
    | none =>
      rw [qm] at h
      cases o <;> try (cases h; done)
      rename_i x p0
      dsimp only at h
      cases q : slotB ck x with
      | none => rw [q] at h; cases h
      | some i =>
        cases q2 : mutB mm with
        | none => rw [q, q2] at h; cases h
        | some mu =>
          rw [q, q2] at h
          obtain ⟨hl, hq⟩ := wh_ok h
          obtain ⟨h1, h2, h3, h4⟩ := slot_ok E q
          rw [← mut_okB q2]
          clear h
          match as, hq with
          | [], hq =>
            cases hq
            exact se_mut0 mu h1 h2 h3 h4 hl
          | [a], hq =>
            obtain ⟨s1, hq⟩ := wh_ok hq
            obtain ⟨as', qa, rfl⟩ := map_ok hq
            exact se_mut1 mu h1 h2 h3 h4 hl (hEs _ _ _ qa cl P G n X W E) (nst s1)
          | [a, b], hq =>
            obtain ⟨s1, hq⟩ := wh_ok hq
            obtain ⟨as', qa, rfl⟩ := map_ok hq
            exact se_mut2 mu h1 h2 h3 h4 hl (hEs _ _ _ qa cl P G n X W E) (nst2 s1).1 (nst2 s1).2
          | _ :: _ :: _ :: _, hq => cases hq
  · -- a function out of a display
    rename_i fs lp ix sp as pos
    refine both rfl ?_
    obtain ⟨r, q0, h⟩ := bind_ok h
    obtain ⟨c, h⟩ := wh_ok h
    rw [Bool.and_eq_true, Bool.and_eq_true, Bool.and_eq_true, Bool.and_eq_true] at c
    obtain ⟨⟨⟨⟨cool, c1⟩, c2⟩, c3⟩, c4⟩ := c
    have c := And.intro (And.intro (And.intro c1 c2) c3) c4
    obtain ⟨i, as', q1, q2, rfl⟩ := ap2_ok h
    obtain ⟨js, ms⟩ := r
    obtain ⟨ads, F⟩ := cFs_ok E q0
    cases as with
    | nil => cases c.1.1.2
    | cons e es => exact se_callix F (of_decide_eq_true c.2) (E.room cool) E.gd E.tk (hE _ _ _ q1 cl P G n X W E).1 (plainIx c.1.1.1) (hAs _ _ _ _ q2 c.1.2 cl P G n X W E).1 c.1.2
  · -- a function out of a dict
    rename_i x lp ix sp as pos
    refine both rfl ?_
    obtain ⟨kv, qk, h⟩ := bind_ok h
    obtain ⟨r, q0, h⟩ := bind_ok h
    obtain ⟨c, h⟩ := wh_ok h
    simp only [Bool.and_eq_true] at c
    obtain ⟨⟨⟨⟨c0, cool⟩, c1⟩, c2⟩, c3⟩ := c
    obtain ⟨i, as', q1, q2, rfl⟩ := ap2_ok h
    obtain ⟨js, ms⟩ := r
    obtain ⟨g1, g2⟩ := gl_ok E c0
    obtain ⟨d, g3, F⟩ := dfs_ok E qk q0
    cases as with
    | nil => cases c2
    | cons e es => exact se_dcall F g1 g3 g2 (E.room cool) E.gd E.tk (hE _ _ _ q1 cl P G n X W E).1 (plainIx c1) (hAs _ _ _ _ q2 c3 cl P G n X W E).1 c3
  · obtain ⟨as', qa, rfl⟩ := map_ok h
    exact both rfl (se_tup (hEs _ _ _ qa cl P G n X W E))
  · obtain ⟨as', qa, rfl⟩ := map_ok h
    exact both rfl (se_lst (hEs _ _ _ qa cl P G n X W E))
  · obtain ⟨a, b, q1, q2, rfl⟩ := ap2_ok h
    exact both rfl (se_slcLo (hE _ _ _ q1 cl P G n X W E).1 (hE _ _ _ q2 cl P G n X W E).1)
  · obtain ⟨a, b, q1, q2, rfl⟩ := ap2_ok h
    exact both rfl (se_slcHi (hE _ _ _ q1 cl P G n X W E).1 (hE _ _ _ q2 cl P G n X W E).1)
  · obtain ⟨a, b, c, q1, q2, q3, rfl⟩ := ap3_ok h
    exact both rfl (se_slcBoth (hE _ _ _ q1 cl P G n X W E).1 (hE _ _ _ q2 cl P G n X W E).1 (hE _ _ _ q3 cl P G n X W E).1)
  · obtain ⟨a, q1, rfl⟩ := map_ok h
    exact both rfl (se_rev (hE _ _ _ q1 cl P G n X W E).1)
  · obtain ⟨hs, h⟩ := wh_ok h
    obtain ⟨a, b, q1, q2, rfl⟩ := ap2_ok h
    exact both rfl (se_sub (hE _ _ _ q1 cl P G n X W E).1 (hE _ _ _ q2 cl P G n X W E).1 (plainIx hs))
  · -- a comprehension
    rename_i elt tg iter ifs asy scope pos
    refine both rfl ?_
    obtain ⟨c, hq⟩ := wh_ok h
    clear h
    rw [Bool.and_eq_true, Bool.and_eq_true] at c
    obtain ⟨⟨cool, c1⟩, c2⟩ := c
    have c := And.intro c1 c2
    obtain rfl : asy = 0 := of_decide_eq_true c.1
    have ok := blkOk_by c.2
    obtain ⟨t, q1, hq⟩ := bind_ok hq
    obtain ⟨ht, hq⟩ := wh_ok hq
    obtain ⟨it, cs, e, q2, q3, q4, rfl⟩ := ap3_ok hq
    obtain ⟨i1, i2⟩ := hI _ _ _ _ q2 cl P G n X W E
    have hto : ∀ l ∈ tgNames t, l ∈ (ownB ck.N scope.names).map (·.2) := fun l hl => of_decide_eq_true (List.all_eq_true.mp ht l hl)
    have B := fun s H C cs fp => blk_env E ok.kind s H C cs fp
    exact se_comp (E.calm cool) nd i1 (by rw [E.N, E.sc]; exact ok) hto (fun s H C cs fp => tgF_ok f q1 (B s H C cs fp)) (fun s H C cs fp => hCs _ _ _ q3 cl P G n _ (B s H C cs fp)) (fun s H C cs fp => (hE _ _ _ q4 cl P G n _ W0 (B s H C cs fp)).1) i2
  · -- one of two clauses
    rename_i elt tg iter asy tg2 iter2 ifs2 asy2 scope pos
    refine both rfl ?_
    obtain ⟨c, hq⟩ := wh_ok h
    clear h
    simp only [Bool.and_eq_true, decide_eq_true_eq] at c
    obtain ⟨⟨⟨⟨cool, rfl⟩, rfl⟩, ns⟩, bc⟩ := c
    have ok := blkOk_by bc
    obtain ⟨t, q1, hq⟩ := bind_ok hq
    obtain ⟨t2, q2, hq⟩ := bind_ok hq
    obtain ⟨hto, hq⟩ := wh_ok hq
    rw [Bool.and_eq_true] at hto
    obtain ⟨it2, q3, hq⟩ := bind_ok hq
    obtain ⟨it, cs, e, q4, q5, q6, rfl⟩ := ap3_ok hq
    obtain ⟨i1, i2⟩ := hI _ _ _ _ q4 cl P G n X W E
    have B := fun s H C cs fp => blk_env E ok.kind s H C cs fp
    exact se_comp2 (E.calm cool) nd i1 (by rw [E.N, E.sc]; exact ok) (fun l hl => of_decide_eq_true (List.all_eq_true.mp hto.1 l hl)) (fun l hl => of_decide_eq_true (List.all_eq_true.mp hto.2 l hl)) (fun s H C cs fp => tgF_ok f q1 (B s H C cs fp)) (fun s H C cs fp => (hI _ _ _ _ q3 cl P G n _ W0 (B s H C cs fp)).1)
      (fun s H C cs fp => tgF_ok f q2 (B s H C cs fp)) (fun s H C cs fp => hCs _ _ _ q5 cl P G n _ (B s H C cs fp)) (fun s H C cs fp => (hE _ _ _ q6 cl P G n _ W0 (B s H C cs fp)).1) i2 (fun env => noset ns)
  · cases h
theorem all_E (T : Tab) : ∀ f, SE T f ∧ SB T f ∧ SEs T f ∧ SPs T f ∧ SAs T f ∧ SCs T f ∧ SI T f
  | 0 => ⟨(fun _ _ _ h => by cases h), (fun _ _ _ _ h => by cases h), (fun _ _ _ h => by cases h), (fun _ _ _ h => by cases h), (fun _ _ _ _ h => by cases h), (fun _ _ _ h => by cases h), (fun _ _ _ _ h => by cases h)⟩
  | f + 1 => by
    obtain ⟨h1, h2, h3, h4, h5, h6, h7⟩ := all_E T f
    exact ⟨step_E h1 h2 h3 h4 h5 h6 h7, step_B h1 h2, step_Es h1 h3, step_Ps h1 h4, step_As h1 h5, step_Cs h1, step_I h1⟩
end
end DK
end
section
set_option maxRecDepth 100000
set_option maxHeartbeats 4000000
namespace DK
open PySem L2 PySem.Spec PyProof.Rows
theorem notComp_sw {e : Expr} (h : notComp e = true) (t : Option Expr) (l : Nat) (env : Env) : swapsWith e t l env = pure false := by
  cases e <;> first | (cases h; done) | rfl
theorem blockFn {env : Env} (h : env.scope.kind = .function) : env.blockKind = .function := by unfold Env.blockKind; rw [h]; rfl
theorem same_sw {elt : Expr} {gs : List Comprehension} {scope : Scope} {pos py : Pos} {y : Str} {l : Nat} {env : Env} (hk : env.scope.kind = .function) : swapsWith (.ListComp elt gs scope pos) (some (.Name y py)) l env = pure (sameB (.ListComp elt gs scope pos) y py env.scope) := by
  have e1 : (env.blockKind == ScopeKind.function) = true := by rw [blockFn hk]; rfl
  have e2 : (env.kindOf y == some NameKind.local) = kindIs env.scope y .local := by
    show (env.scope.names.lookup y == some NameKind.local) = decide (env.scope.names.lookup y = some NameKind.local)
    cases q : env.scope.names.lookup y with
    | none => rfl
    | some k => cases k <;> rfl
  unfold swapsWith sameB
  show (pure (env.blockKind == ScopeKind.function && env.kindOf y == some NameKind.local && py.line == pos.line && !(scope.names.any fun (n, k) => n == y && (k == .local || k == .cell))) : Sem Bool) = _
  rw [e1, e2, Bool.true_and]
theorem swE_ok {ts : List Expr} {k : Nat} {p : Pos} {v : Expr} {env : Env} {r : Option (List Str)} (hk : env.scope.kind = .function) (h : swE ts v env.scope = some r) : swappedStores [.Tuple ts k p] v env = pure r := by
  have e1 : (env.blockKind != ScopeKind.function) = false := by rw [blockFn hk]; rfl
  cases v with
  | Tuple vs k2 p2 =>
    have h : swapQ ts vs env.scope = some r := h
    unfold swapQ at h
    unfold swappedStores
    dsimp only
    rw [e1, Bool.or_false]
    have k1 : ∀ id, env.kindOf id = env.scope.names.lookup id := fun _ => rfl
    simp only [k1]
    dsimp only at h
    split at h
    · rename_i c; cases h; exact if_pos c
    · rename_i c; refine (if_neg c).trans ?_
      split at h
      · rename_i c; cases h; exact if_pos c
      · rename_i c; refine (if_neg c).trans ?_
        split at h
        · rename_i c; cases h; exact if_pos c
        · rename_i c; refine (if_neg c).trans ?_
          split at h
          · rename_i c; cases h; exact if_pos c
          · rename_i c; refine (if_neg c).trans ?_
            split at h
            · cases h
            · rename_i c; cases h; exact if_neg c
  | _ => cases h; rfl
theorem comp_inv {T : Tab} {f : Nat} {ck : Ck} {elt tg iter : Expr} {ifs : List Expr} {asy : Int} {scope : Scope} {pos : Pos} {m : DK.E} (h : cE T (f + 1) ck (.ListComp elt [⟨tg, iter, ifs, asy⟩] scope pos) = some m) :
    ck.cool = true ∧ asy = 0 ∧ blkC ck.N ck.sc scope (ownB ck.N scope.names) = true ∧ ∃ t it cs e, tgF f (blkCk ck scope) tg = some t ∧ (∀ l ∈ tgNames t, l ∈ (ownB ck.N scope.names).map (·.2)) ∧ cI T f ck tg iter = some it ∧ cCs T f (blkCk ck scope) ifs = some cs ∧ cE T f (blkCk ck scope) elt = some e ∧
      m = .comp e t it cs ((ownB ck.N scope.names).map (·.2)) := by
  unfold cE at h
  obtain ⟨c, h⟩ := wh_ok h
  rw [Bool.and_eq_true, Bool.and_eq_true] at c
  obtain ⟨⟨cool, c1⟩, c2⟩ := c
  have c := And.intro c1 c2
  obtain ⟨t, q1, h⟩ := bind_ok h
  obtain ⟨ht, h⟩ := wh_ok h
  obtain ⟨it, cs, e, q2, q3, q4, rfl⟩ := ap3_ok h
  exact ⟨cool, of_decide_eq_true c.1, c.2, t, it, cs, e, q1, fun l hl => of_decide_eq_true (List.all_eq_true.mp ht l hl), q2, q3, q4, rfl⟩
structure StOk (X : Cx) : Prop where
  pass : PassesOwn (model X.prog X.w) X.A X.env X.xe
  stk : X.stack = X.env :: X.outer
  fr : X.env.frame = some X.env.locals
def SS (T : Tab) (f : Nat) : Prop := ∀ ck s m, cS T f ck s = some m → ∀ cl P G n X W, EnvOk T ck cl P G n X W → StOk X → PS X s (tS X.K W (evalS (callN P G n) G m))
def SSs (T : Tab) (f : Nat) : Prop := ∀ ck ss m, cSs T f ck ss = some m → ∀ cl P G n X W, EnvOk T ck cl P G n X W → StOk X → PSs X ss (tS X.K W (evalSs (callN P G n) G m))
section
variable {T : Tab} {f : Nat}
theorem step_Ss (hS : SS T f) (hSs : SSs T f) : SSs T (f + 1) := by
  intro ck ss m h cl P G n X W E hp
  match ss, h with
  | [], h => cases h; exact ss_nil
  | s :: r, h =>
    obtain ⟨a, b, q1, q2, rfl⟩ := ap2_ok (k := Ss.cons) h
    exact ss_cons (hS _ _ _ q1 cl P G n X W E hp) (hSs _ _ _ q2 cl P G n X W E hp)
theorem step_S (hE : SE T f) (hEs : SEs T f) (hI : SI T f) (hSs : SSs T f) (hA : ∀ f', f = f' + 1 → SE T f' ∧ SCs T f' ∧ SI T f') : SS T (f + 1) := by
  intro ck s m h cl P G n X W E hp
  have nd : X.N.Nodup := by rw [E.N]; exact E.nd
  have fk : X.env.scope.kind = .function := by rw [E.sc]; exact E.fk
  unfold cS at h
  split at h
  · -- a docstring
    cases h
    exact ps_doc.imp fun D σ H h => by
      obtain ⟨g, r, h⟩ := h
      exact h σ H r .refl
  · obtain ⟨c, h⟩ := wh_ok h
    obtain ⟨a, q, rfl⟩ := map_ok h
    exact ss_expr (hE _ _ _ q cl P G n X W E).1 (notComp_sw c _ _ _)
  · -- name = value
    rename_i x px v pos
    obtain ⟨i, e, q1, q2, rfl⟩ := ap2_ok h
    obtain ⟨h1, h2, h3⟩ := sto_ok E q1
    have he := (hE _ _ _ q2 cl P G n X W E).1
    by_cases hc : notComp v = true
    · exact ss_set _ (ps_set nd h1 h2 he (notComp_sw hc _ _ _) h3)
    · cases f with
      | zero => cases q2
      | succ f =>
        cases v <;> first | exact absurd rfl hc | (unfold cE at q2; cases q2; done) | skip
        rename_i elt gs scope pc
        cases sm : sameB (.ListComp elt gs scope pc) x px X.env.scope with
        | false => exact ss_set _ (ps_set nd h1 h2 he (by rw [same_sw fk, sm]) h3)
        | true =>
          match gs, q2, sm with
          | [], q2, _ => unfold cE at q2; cases q2
          | ⟨_, _, _, _⟩ :: ⟨_, _, _, _⟩ :: ⟨_, _, _, _⟩ :: _, q2, _ => unfold cE at q2; cases q2
          | [⟨_, _, _ :: _, _⟩, ⟨_, _, _, _⟩], q2, _ => unfold cE at q2; cases q2
          | [⟨tg, iter, [], asy⟩, ⟨tg2, iter2, ifs2, asy2⟩], q2, sm =>
            unfold cE at q2
            obtain ⟨c, hq⟩ := wh_ok q2
            clear q2
            simp only [Bool.and_eq_true, decide_eq_true_eq] at c
            obtain ⟨⟨⟨⟨cool, rfl⟩, rfl⟩, ns⟩, bc⟩ := c
            have ok := blkOk_by bc
            obtain ⟨t, w1, hq⟩ := bind_ok hq
            obtain ⟨t2, w2, hq⟩ := bind_ok hq
            obtain ⟨hto, hq⟩ := wh_ok hq
            rw [Bool.and_eq_true] at hto
            obtain ⟨it2, w3, hq⟩ := bind_ok hq
            obtain ⟨it, cs, e', w4, w5, w6, rfl⟩ := ap3_ok hq
            obtain ⟨a1, a2, a3⟩ := hA f rfl
            obtain ⟨i1, i2⟩ := a3 _ _ _ _ w4 cl P G n X W E
            have B := fun s H C cs fp => blk_env E ok.kind s H C cs fp
            have hl : X.env.scope.names.lookup x = some .local := by
              unfold sameB kindIs at sm
              rw [Bool.and_eq_true, Bool.and_eq_true] at sm
              exact of_decide_eq_true sm.1.1
            exact ss_setLc2 _ (E.calm cool) nd h1 hl (by rw [same_sw fk, sm]) i1 (by rw [E.N, E.sc]; exact ok) (fun l hl => of_decide_eq_true (List.all_eq_true.mp hto.1 l hl)) (fun l hl => of_decide_eq_true (List.all_eq_true.mp hto.2 l hl)) (fun s H C cs fp => tgF_ok f w1 (B s H C cs fp)) (fun s H C cs fp => (a3 _ _ _ _ w3 cl P G n _ W0 (B s H C cs fp)).1)
              (fun s H C cs fp => tgF_ok f w2 (B s H C cs fp)) (fun s H C cs fp => a2 _ _ _ w5 cl P G n _ (B s H C cs fp)) (fun s H C cs fp => (a1 _ _ _ w6 cl P G n _ W0 (B s H C cs fp)).1) i2 (fun env => noset ns)
          | [⟨tg, iter, ifs, asy⟩], q2, sm =>
            obtain ⟨cool, rfl, c, t, it, cs, e', z1, z2, z3, z4, z5, rfl⟩ := comp_inv q2
            obtain ⟨a1, a2, a3⟩ := hA f rfl
            have ok := blkOk_by c
            obtain ⟨i1, i2⟩ := a3 _ _ _ _ z3 cl P G n X W E
            have B := fun s H C cs fp => blk_env E ok.kind s H C cs fp
            have hl : X.env.scope.names.lookup x = some .local := by
              unfold sameB kindIs at sm
              rw [Bool.and_eq_true, Bool.and_eq_true] at sm
              exact of_decide_eq_true sm.1.1
            exact ss_setLc _ (E.calm cool) nd h1 hl (by rw [same_sw fk, sm]) i1 (by rw [E.N, E.sc]; exact ok) z2 (fun s H C cs fp => tgF_ok f z1 (B s H C cs fp)) (fun s H C cs fp => a2 _ _ _ z4 cl P G n _ (B s H C cs fp)) (fun s H C cs fp => (a1 _ _ _ z5 cl P G n _ W0 (B s H C cs fp)).1) i2
  · -- a, b = value
    rename_i ts k p v pos
    obtain ⟨c, h⟩ := wh_ok h
    split at h
    · rename_i sw
      obtain ⟨t, e, q1, q2, rfl⟩ := ap2_ok h
      exact ss_sett (hE _ _ _ q2 cl P G n X W E).1 (tgF_ok f q1 E) (notComp_sw c (some (.Tuple ts k p)) pos.line X.env) (swE_ok fk (by rw [E.sc]; exact sw)) rfl
    · rename_i x y sw
      split at h
      · rename_i x' px y' py a b k2 p2
        obtain ⟨cc, hq⟩ := wh_ok h
        clear h
        simp only [Bool.and_eq_true, decide_eq_true_eq] at cc
        obtain ⟨⟨⟨⟨⟨⟨rfl, rfl⟩, lx⟩, ly⟩, sa⟩, sb⟩, cool⟩ := cc
        obtain ⟨i, q1, hq⟩ := bind_ok hq
        obtain ⟨j, q2, hq⟩ := bind_ok hq
        obtain ⟨hij, hq⟩ := wh_ok hq
        obtain ⟨es, q3, rfl⟩ := map_ok hq
        obtain ⟨x1, x2, x3⟩ := sto_ok E q1
        obtain ⟨y1, y2, y3⟩ := sto_ok E q2
        exact ss_par (E.calm cool) nd x1 y1 (of_decide_eq_true hij) (by rw [E.sc]; exact of_decide_eq_true lx) (by rw [E.sc]; exact of_decide_eq_true ly) (hEs _ _ _ q3 cl P G n X W E) (swE_ok fk (by rw [E.sc]; exact sw)) (by unfold swapsWithSole; exact notComp_sw c _ _ _)
      · cases h
    · rename_i x y z sw
      split at h
      · rename_i x' px y' py z' pz a b d k2 p2
        obtain ⟨cc, hq⟩ := wh_ok h
        clear h
        simp only [Bool.and_eq_true, decide_eq_true_eq] at cc
        obtain ⟨⟨⟨⟨⟨⟨rfl, rfl⟩, rfl⟩, lx⟩, ly⟩, lz⟩, cool⟩ := cc
        obtain ⟨i, q1, hq⟩ := bind_ok hq
        obtain ⟨j, q2, hq⟩ := bind_ok hq
        obtain ⟨l, q3, hq⟩ := bind_ok hq
        obtain ⟨hij, hq⟩ := wh_ok hq
        simp only [Bool.and_eq_true, decide_eq_true_eq] at hij
        obtain ⟨es, q4, rfl⟩ := map_ok hq
        obtain ⟨x1, x2, x3⟩ := sto_ok E q1
        obtain ⟨y1, y2, y3⟩ := sto_ok E q2
        obtain ⟨z1, z2, z3⟩ := sto_ok E q3
        exact ss_par3 (E.calm cool) nd x1 y1 z1 hij.1.1 hij.1.2 hij.2 (by rw [E.sc]; exact of_decide_eq_true lx) (by rw [E.sc]; exact of_decide_eq_true ly) (by rw [E.sc]; exact of_decide_eq_true lz) (hEs _ _ _ q4 cl P G n X W E) (swE_ok fk (by rw [E.sc]; exact sw)) (by unfold swapsWithSole; exact notComp_sw c _ _ _)
      · cases h
    · cases h
  · rename_i x px ix pix v pos
    obtain ⟨c, h⟩ := wh_ok h
    rw [Bool.and_eq_true] at c
    obtain ⟨i, mx, me, q1, q2, q3, rfl⟩ := ap3_ok h
    obtain ⟨h1, h2, h3, h4⟩ := slot_ok E q1
    have ns : swapsWithSole [.Subscript (.Name x px) ix pix] v pos.line X.env = pure false := by unfold swapsWithSole; exact notComp_sw c.2 _ _ _
    have ns2 : swappedStores [.Subscript (.Name x px) ix pix] v X.env = pure none := by
      cases v <;> rfl
    refine ss_setix h1 h2 h3 h4 (hE _ _ _ q3 cl P G n X W E).1 (hE _ _ _ q2 cl P G n X W E).1 ?_ ns ns2 rfl
    intro v
    cases ix <;> first | (cases c.1; done) | rfl
  · rename_i x px op e pos
    obtain ⟨i, o, e', q1, q2, q3, rfl⟩ := ap3_ok h
    obtain ⟨h1, h2, h3⟩ := sto_ok E q1
    rw [← bop_ok q2]
    exact ss_aug nd h1 h2 h3 (hE _ _ _ q3 cl P G n X W E).1
  · cases h; exact ss_retN
  · obtain ⟨a, q, rfl⟩ := map_ok h
    exact ss_ret (hE _ _ _ q cl P G n X W E).1
  · obtain ⟨c, a, b, q1, q2, q3, rfl⟩ := ap3_ok h
    exact ss_if (hE _ _ _ q1 cl P G n X W E).2 (hSs _ _ _ q2 cl P G n X W E hp) (hSs _ _ _ q3 cl P G n X W E hp)
  · obtain ⟨c, a, q1, q2, rfl⟩ := ap2_ok h
    exact ss_while hp.pass (hE _ _ _ q1 cl P G n X W E).2 (hSs _ _ _ q2 cl P G n X W E hp) fuelW
  · obtain ⟨c, h⟩ := wh_ok h
    rw [Bool.and_eq_true] at c
    obtain ⟨it, t, b, q1, q2, q3, rfl⟩ := ap3_ok h
    obtain ⟨i1, i2⟩ := hI _ _ _ _ q1 cl P G n X W E
    exact ss_for hp.pass (E.calm c.2) i1 (tgF_ok f q2 E) (hSs _ _ _ q3 cl P G n X W E hp) i2
  · obtain ⟨c, h⟩ := wh_ok h
    rw [Bool.and_eq_true] at c
    obtain ⟨k, q, rfl⟩ := map_ok h
    have C := E.tab.cls k _ (idx_ok q)
    exact ss_raise (E.calm c.2) E.tk (C.pm X rfl C.gm (gl_ok E c.1).1 (gl_ok E c.1).2 _ _ _ _ _)
  · -- try
    rename_i body bn np er su p1 pos
    cases qt : T.tr with
    | none => rw [qt] at h; cases h
    | some z =>
      obtain ⟨kn, bn', ks⟩ := z
      rw [qt] at h
      obtain ⟨c, h⟩ := wh_ok h
      simp only [Bool.and_eq_true, decide_eq_true_eq] at c
      obtain ⟨⟨⟨⟨c1, c2⟩, c3⟩, c4⟩, cool⟩ := c
      obtain ⟨i, q1, h⟩ := bind_ok h
      obtain ⟨hh, q2, h⟩ := bind_ok h
      obtain ⟨b, q3, rfl⟩ := map_ok h
      obtain ⟨O, C, gC, hx⟩ := E.tab.tr kn bn' ks qt
      obtain ⟨h1, h2, h3, h4⟩ := slot_ok E q1
      obtain ⟨b1, b2⟩ := gl_ok E c2
      obtain ⟨k1, k2⟩ := gl_ok E c3
      have rm := E.room cool
      refine ss_tryk hp.stk hp.fr nd h1 (by rw [E.sc]; exact of_decide_eq_true c4) b1 b2 (by rw [c1]; exact gC) E.tk O hx E.gd ?_ ?_ k1 k2 h3 h4 (su_ok q2) fun W' pn xe tk pp => hSs _ _ _ q3 cl P G n (X.tr pn xe) W' (tr_env E tk) ⟨pp, hp.stk, hp.fr⟩
      · have := rm.dp; omega
      · have := rm.un; omega
  · cases h; exact ss_break
  · cases h; exact ss_cont
  · cases h; exact ss_pass
  · cases h
theorem all_S (T : Tab) : ∀ f, SS T f ∧ SSs T f
  | 0 => ⟨(fun _ _ _ h => by cases h), (fun _ _ _ h => by cases h)⟩
  | f + 1 => by
    obtain ⟨h1, h2⟩ := all_S T f
    obtain ⟨e1, e2, e3, e4, e5, e6, e7⟩ := all_E T f
    exact ⟨step_S e1 e3 e7 h2 fun f' _ => ⟨(all_E T f').1, (all_E T f').2.2.2.2.2.1, (all_E T f').2.2.2.2.2.2⟩, step_Ss h1 h2⟩
end
end DK
end
section
set_option maxRecDepth 100000
set_option maxHeartbeats 4000000
namespace DK
open PySem L2 PySem.Spec PyProof.Rows
/-! ### a table of defs -/
structure FM where
  d : He.DefD
  N : List Str
  ps : List Str
  ms : List Mode
  mu : List Nat
  fn : Fn
def FM.ck (m : FM) : Ck := ⟨m.d.scope, m.d.scope, m.N, m.mu, true⟩
def scOk (N P : List Str) (sc : Scope) : Bool :=
  decide (sc.kind = .function) && decide (sc.isCoroutine = false) && decide (sc.isGenerator = false) && decide N.Nodup && decide (N.take P.length = P) &&
    (P.all fun x => kindIs sc x .local || kindIs sc x .cell) && (sc.names.all fun y => decide (y.2 ≠ .free))
theorem scOk_ok {N P : List Str} {sc : Scope} (h : scOk N P sc = true) : FnScope N P sc := by
  unfold scOk at h
  simp only [Bool.and_eq_true, decide_eq_true_eq, List.all_eq_true] at h
  obtain ⟨⟨⟨⟨⟨⟨h1, h2⟩, h3⟩, h4⟩, h5⟩, h6⟩, h7⟩ := h
  refine ⟨h1, h2, h3, h4, h5, fun x hx => ?_, h7⟩
  have := h6 x hx
  unfold kindIs at this
  rw [Bool.or_eq_true] at this
  exact this.imp of_decide_eq_true of_decide_eq_true
def FM.ok (T : Tab) (m : FM) : Prop := scOk m.N m.ps m.d.scope = true ∧ m.ms.length = m.ps.length ∧ m.fn.np = m.ps.length ∧ m.fn.ns = m.N.length ∧ m.d.dfl = [] ∧ m.d.kwd = [] ∧ cSs T 200 m.ck m.d.body = some m.fn.body
def FM.binds (m : FM) : Prop := ∀ (kV doc pm : Value) (an : Option Addr) (cdv ct : Value) (us : List Value), us.length = m.ps.length → bindArgs (PySem.W.fnOf m.d.name m.d.qual m.d.params m.d.body m.d.scope .none kV doc pm an cdv ct) ⟨us, []⟩ = pure (m.ps.zip us)
structure FmOk (K : PySem.W.Frag) (mg : Str → Option Value) (T : Tab) (f : Nat) (m : FM) : Prop where
  chk : m.ok T
  bnd : m.binds
  tab : T.fns[f]? = some (m.d.at_.1, m.ms)
  fun_ : ∃ fd, FunD K m.d.name m.d.qual m.d.params m.d.body m.d.scope (m.d.dvs K) (m.d.kws K) (He.fAd K m.d.at_) fd
  gm : mg m.d.at_.1 = some (.ref (He.fAd K m.d.at_))
section
variable {T : Tab} {prog : Program} {w : World} {K : PySem.W.Frag} {mg : Str → Option Value} {base : Heap} {cl : Nat → Addr} {G : List D} {fms : List FM}
theorem callN_len {P : List Fn} {n f : Nat} {fn : Fn} (h : P[f]? = some fn) : ∀ ss, callN P G n f ss ≠ .bad → ss.length = fn.np := fun ss q => by
  cases n with
  | zero => exact absurd rfl q
  | succ n =>
    unfold callN at q
    rw [h] at q
    dsimp only at q
    by_cases e : ss.length = fn.np
    · exact e
    · rw [if_neg e] at q; exact absurd rfl q
theorem body_ps {n : Nat} {P : List Fn} {m : FM} {qual : Str} {f : Addr} {cd : Value} {A : Around} {outer : List Env} {s : Shared} {H : Hp} {E : XK} (hc : m.ok T) (IH : TabOk T prog w K mg base cl P G n) (hr : Room n (A.deeper (envOfC qual m.d.scope s.heap.objs.size f cd))) (hg : A.guards = some []) :
    PSs (cxOf (L2.CX prog w) prog w K mg base m.N qual m.d.scope f cd A outer s H E) m.d.body (tS K (WC cl E) (evalSs (callN P G n) G m.fn.body)) := by
  obtain ⟨c1, c2, c3, c4, c5, c6, c7⟩ := hc
  have S := scOk_ok c1
  refine (all_S T 200).2 _ _ _ c7 cl P G n (cxOf (L2.CX prog w) prog w K mg base m.N qual m.d.scope f cd A outer s H E) (WC cl E) ⟨rfl, S.nd, rfl, S.kind, fun _ => rfl, hg, (by have := hr.un; show (A.deeper (envOfC qual m.d.scope s.heap.objs.size f cd)).units + 150 < cLine; omega), fun _ => hr, fun x h => ?_, ?_, IH⟩ ⟨passes_of rfl, rfl, rfl⟩
  · have h : (kindIs m.d.scope x .local || kindIs m.d.scope x .cell) = true := h
    rw [Bool.or_eq_true] at h
    exact ⟨h.imp of_decide_eq_true of_decide_eq_true, .inl rfl⟩
  · refine Takes.imp (takes_of rfl rfl rfl rfl) fun cls d σ H' hq => ?_
    obtain ⟨c, rfl, rfl, z⟩ := hq
    exact z
theorem tab_ok (hf : ∀ f m, fms[f]? = some m → FmOk K mg T f m) (hl : T.fns.length = fms.length) (gls : ∀ (j : Nat) (x : Str), T.gls[j]? = some x → ∃ u v d, mg x = some u ∧ RelV v u ∧ (∀ H, Fz K H v d) ∧ G[j]? = some d) (fre : ∀ x ∈ T.fre, mg x = none)
    (cls : ∀ (c : Nat) (x : Str), T.cls[c]? = some x → ClsOk K mg (cl c) x)
    (tr : ∀ kn bn ks, T.tr = some (kn, bn, ks) → KindOk prog w K mg base kn cl ks ∧ ∃ C, mg bn = some (.ref C) ∧ ∀ (c : Nat) (k : Str), ks[c]? = some k → PySem.W.exmOne K (.ref (cl c)) (.ref C) = some true)
    (dcs : ∀ (x : Str) (kv : List (Str × Str)), T.dcs.lookup x = some kv → ∃ d, mg x = some (.ref d) ∧ DicAt K w d (kv.map (·.1)) ∧ ∀ (z : Str) (i : Nat) (p : Str × Str), kpos (kv.map (·.1)) z 0 = some i → kv[i]? = some p → ∃ a, mg p.2 = some (.ref a) ∧ PySem.W.nsIn K d z = some (some (.ref a))) : ∀ n, TabOk T prog w K mg base cl (fms.map (·.fn)) G n := by
  have row : ∀ (f : Nat) (x : Str) (ms : List Mode), T.fns[f]? = some (x, ms) → ∃ m, fms[f]? = some m ∧ x = m.d.at_.1 ∧ ms = m.ms := fun f x ms h => by
    have hi : f < fms.length := by rw [← hl]; exact ix_lt h
    have e := List.getElem?_eq_getElem hi
    have t := (hf f _ e).tab
    rw [h] at t; cases t
    exact ⟨_, e, rfl, rfl⟩
  intro n
  induction n with
  | zero =>
    refine ⟨fun f x ms h => ?_, gls, fre, cls, tr, dcs⟩
    obtain ⟨m, e, rfl, rfl⟩ := row f x ms h
    have M := hf f m e
    obtain ⟨c1, c2, c3, c4, c5, c6, c7⟩ := M.chk
    obtain ⟨fd, F⟩ := M.fun_
    have F' : FunD K m.d.name m.d.qual m.d.params m.d.body m.d.scope [] (m.d.kws K) (He.fAd K m.d.at_) fd := by
      have : m.d.dvs K = [] := by unfold He.DefD.dvs; rw [c5]; rfl
      rw [← this]; exact F
    refine ⟨_, fd, m.ps, M.gm, F.kp, F'.bindsN M.bnd, ⟨fun vs H Q E z => by rw [← c2]; exact z.1, fun A outer s H args us vs Q E _ _ _ _ _ z => ?_⟩, fun ss q => absurd rfl q⟩
    obtain ⟨_, _, _, _, z⟩ := z
    exact z.elim
  | succ n IH =>
    refine ⟨fun f x ms h => ?_, gls, fre, cls, tr, dcs⟩
    obtain ⟨m, e, rfl, rfl⟩ := row f x ms h
    have M := hf f m e
    have hc := M.chk
    obtain ⟨c1, c2, c3, c4, c5, c6, c7⟩ := M.chk
    obtain ⟨fd, F⟩ := M.fun_
    have F' : FunD K m.d.name m.d.qual m.d.params m.d.body m.d.scope [] (m.d.kws K) (He.fAd K m.d.at_) fd := by
      have : m.d.dvs K = [] := by unfold He.DefD.dvs; rw [c5]; rfl
      rw [← this]; exact F
    have ep : (fms.map (·.fn))[f]? = some m.fn := by rw [List.getElem?_map, e]; rfl
    refine ⟨_, fd, m.ps, M.gm, F.kp, F'.bindsN M.bnd, ?_, fun ss q => by rw [callN_len ep ss q, c3, c2]⟩
    have kp := F.kp
    obtain ⟨oc, od, dV, kV, doc, pm, an, cdv, ct, osl, rfl, lk, hcd, _, _⟩ := F.ex
    refine fnG_of lk hcd (scOk_ok c1) (fun vs H Q E z => by rw [← c2]; exact z.1) fun A outer s H vs Q E hr hg hsp => ⟨_, body_ps hc IH hr hg, ?_⟩
    refine body_run (n := m.ms.length) (cr := callN (fms.map (·.fn)) G (n + 1) f) (fun as ha => ?_) hsp
    conv => lhs; unfold callN
    rw [ep]
    dsimp only
    rw [if_pos (by rw [c3, ← c2]; exact ha), c4, c3, ← c2]
end
end DK
end
section
set_option maxRecDepth 100000
set_option maxHeartbeats 4000000
namespace DK
open PySem L2 PySem.Spec PyProof.Rows
def scriptH (K : PySem.W.Frag) (a : Addr) (us : List Value) (ns : List Int) : Hp := fun b => if b = a ∧ K.lookup a = none then some (.frz { cls := .type "list", data := .seq us.toArray } (.lst (ns.map V.int))) else none
section
variable {P : Program} {w : World} {K : PySem.W.Frag} {mg mb : Str → Option Value} {k : Nat} {fa a : Addr} {fd : FuncData} {x : Str} {s1 : Shared} {us : List Value} {ns : List Int} {cl : Nat → Addr} {cr : List Slot → CRes}
theorem scriptH_at {b : Addr} (h : scriptH K a us ns b ≠ none) : b = a ∧ K.lookup a = none := Classical.byContradiction fun z => h (if_neg z)
theorem scriptH_is {b : Addr} {u : HO} (h : scriptH K a us ns b = some u) : b = a ∧ K.lookup a = none ∧ u = .frz { cls := .type "list", data := .seq us.toArray } (.lst (ns.map V.int)) := by
  have z := scriptH_at (b := b) (K := K) (a := a) (us := us) (ns := ns) (by rw [h]; exact fun q => nomatch q)
  unfold scriptH at h
  rw [if_pos z] at h
  exact ⟨z.1, z.2, (Option.some.inj h).symm⟩
theorem ints_fz {H : Hp} : ∀ ns : List Int, FzA K H (ns.map V.int) (ns.map PyData.int) := FzA.of_ints
theorem law_ends (KX : K.In s1.heap) (hns : s1.heap.Ns mainGlobals mg) (hb : s1.heap.Ns builtinsNs mb) (hbb : ∀ x : Str, x ≠ "__name__" → mb x = bootBuiltins x) (hlim : s1.heap.NoLimit) (hgen : s1.gens = #[])
    (ha : s1.heap.get? a = some { cls := .type "list", data := .seq us.toArray }) (hi : IntsAre us ns) (hl : ns.length ≤ sizeLine) (hr : Room k callerA) (hg : callerA.guards = some [])
    (F : ∀ base : Heap, FnG P w K mg base k fa fd [x] (spC K cl 1 cr)) (hbind : ∀ (s : Shared) (u : Value), BindsTo s fd ⟨[u], []⟩ [(x, u)])
    (hcr : cr [.val (.list (ns.map PyData.int))] = .ret (.val (.bool true)) [.no]) :
    codeAny (model P w) callerA (.call (.ref fa) ⟨[.ref a], []⟩) (fun r s' => r = .ok (.ret (.bool true)) ∧ OldK s1.heap s'.heap ∧ s'.os = s1.os ∧ AllBare s'.gens) s1 := by
  have rv := vals_ints hi
  have lenV := hi.length
  let H := scriptH K a us ns
  have sf : SqF K H a (ns.map V.int) := by
    cases hk : K.lookup a with
    | none => exact .inl ⟨_, if_pos ⟨rfl, hk⟩⟩
    | some o =>
      have e := KX a o hk
      rw [ha] at e; cases e
      exact .inr ⟨us, _, hk, by rw [lenV]; exact hl, rv⟩
  have unt : ∀ {b : Addr} {o : Obj}, s1.heap.get? b = some o → b ≠ a → H b = none := fun {b o} _ n => Classical.byContradiction fun z => n (scriptH_at z).1
  have dictN : ∀ {b : Addr} {o : Obj} {es : Array DictEntry} {ep : Nat}, s1.heap.get? b = some o → o.data = .dict es ep → H b = none := fun {b o es ep} e d => unt e fun q => by
    subst q
    rw [ha] at e; cases e
    exact Data.noConfusion (show Data.seq us.toArray _ = Data.dict es ep from d)
  have nsOf : ∀ {b : Addr} {m : Str → Option Value}, s1.heap.Ns b m → (hidT s1.heap H).Ns b m := fun {b m} ⟨o, es, ep, e, d, r⟩ => ⟨o, es, ep, hidT_get e (dictN e d), d, r⟩
  have kin : K.In (hidT s1.heap H) := fun b o e => hidT_get (KX b o e) (Classical.byContradiction fun z => by
    obtain ⟨rfl, q⟩ := scriptH_at z
    rw [q] at e; cases e)
  have mod : Mod K mg (hidT s1.heap H) := ⟨kin, nsOf hns, ⟨mb, nsOf hb, hbb⟩, hlim.imp fun mc h => ⟨nsOf h.1, h.2⟩⟩
  have hok : HOk P w H s1.heap := fun b u z => by
    obtain ⟨rfl, _, rfl⟩ := scriptH_is z
    exact ⟨ha, by rw [List.length_map]; exact hl, us, _, rv, ha⟩
  have env : Env0 P w K mg (hidT s1.heap H) callerA [] s1 H := ⟨rfl, mod, fun b o e => of_hidT e, Nat.le_of_eq (hidT_size _ _), trivial, (fun b hb => by cases hb), hok, .of_eq hgen⟩
  have sat : spC K cl 1 cr [.ref a] H (fun v _ => v = .bl true) (fun _ _ _ => False) := by
    refine ⟨rfl, [.val (.list (ns.map PyData.int))], rfl, ⟨rfl, fun i d e => ?_, fun i k xs e => ?_, fun i j k l xs ys b e => ?_⟩, ?_⟩
    · cases i with
      | zero => cases e; exact ⟨.ref a, rfl, .lst sf (FzA.of_ints ns)⟩
      | succ i => cases e
    · cases i <;> cases e
    · cases i <;> cases e
    · rw [hcr]
      exact fun v H' _ f => f.bool_inv
  refine codeAny_mono ((F _).run callerA [] s1 H ⟨[.ref a], []⟩ [.ref a] [.ref a] _ _ hr hg env (hbind s1 (.ref a)) (.cons rfl .nil) sat) fun r s' h => ?_
  cases r with
  | error e =>
    obtain ⟨_, _, _, _, _, _, _, _, _, _, _, _, z⟩ := h
    exact z.elim
  | ok fl =>
    cases fl with
    | next => exact False.elim h
    | brk => exact False.elim h
    | cont => exact False.elim h
    | ret u =>
      obtain ⟨v, H', os, bare, un, hok', r', q⟩ := h
      cases (show v = .bl true from q)
      cases (show u = Value.bool true from r')
      refine ⟨rfl, OldK.of_keep fun b o e => ?_, os, bare⟩
      cases q : H b with
      | none => exact un.keep b o e q (fun z => by cases z) (by simp)
      | some u =>
        obtain ⟨rfl, _, rfl⟩ := scriptH_is q
        have z2 := un.frzs b _ _ q
        obtain ⟨e2, _⟩ := hok' b _ z2
        rw [ha] at e; cases e
        exact e2
end
theorem law_walk {l : PySem.W.OpenLaw} {n k f : Nat} {q : Program} {loose : List Str} {XP : (Str → Option Value) → Heap → Prop} {YP : World → Heap → Prop} {d : DefRec} {x : Str} {P : List Fn} {G : List D}
    (hn : l.most = some n) (hn2 : n ≤ sizeLine) (hdf : d.params.defaults = []) (hr : Room k callerA)
    (F : ∀ (w : World) (mg : Str → Option Value) (fa : Addr) (h : Heap), YP w h → h.Ns mainGlobals mg → mg d.name = some (.ref fa) →
      ∃ (K : PySem.W.Frag) (fd : FuncData) (cl : Nat → Addr), K.In h ∧ (∀ (s : Shared) (u : Value), BindsTo s fd ⟨[u], []⟩ [(x, u)]) ∧ ∀ base : Heap, FnG l.prog w K mg base k fa fd [x] (spC K cl 1 (callN P G k f)))
    (law : ∀ ns : List Int, ns.length ≤ n → callN P G k f [.val (.list (ns.map PyData.int))] = .ret (.val (.bool true)) [.no]) :
    PySem.W.WalkO q loose XP YP l.row.toRowW d [] (fun f vs => PySem.call f vs) := by
  refine Att.attach_call hn hdf fun w s₀ s₁ mg mb fa o pm cd doc a vs ns G' Y ho hd hcd hmg hobj hints hlen hg => ?_
  obtain ⟨K, fd, cl, KX, hb, hF⟩ := F w mg fa _ Y G'.T.g hmg
  exact law_ends KX G'.T.g G'.T.b G'.T.builtins G'.T.nolimit hg hobj hints (Nat.le_trans hlen hn2) hr rfl hF hb (law ns hlen)
end DK
end
section
set_option maxRecDepth 100000
set_option maxHeartbeats 4000000
namespace DK
open PySem L2 PySem.Spec PyProof.Rows
/-! ### isinstance of the error that a suite holds -/
theorem isE_ok {X : Cx} {a D : Addr} {oe : Obj} (hp : (a, oe) ∈ X.pn) (C : ExcC X.K D) (hz : Zc (.ref D) none oe) (hf : ∃ vs, oe.data = .fields vs) : CallR X (.builtin "isinstance") (rIsE X.K D a) := by
  intro pins s σ H xs us Q I r h
  obtain ⟨c, cv, b, rfl, hcv, e, q⟩ := h
  cases r with
  | cons rx rr =>
    cases rr with
    | cons rt rr =>
      cases rr
      cases rx
      cases hcv _ rt
      have hget := (I.pin (a, oe) (List.mem_append_left _ hp)).1
      obtain ⟨vs, hv⟩ := hf
      have J : PySem.W.InstAt s.heap a oe D none := by
        obtain ⟨oc, od, oda, osl⟩ := oe
        obtain ⟨h1, h2⟩ := hz
        dsimp only at h1 h2 hv
        subst h1 h2 hv
        exact ⟨hget, rfl, rfl, trivial⟩
      have kit := PySem.W.handS_kitx_exc (x := a) (ox := oe) C.hg C.hk C.hs C.hd C.ha C.hn C.ht C.hm
      exact PySem.W.kia_one kit I.kIn J e (fun z => nomatch z) fun tk => ⟨.bl b, H, I.kept (t' := tk) fun _ _ z => z, rfl, q⟩
section
variable {X : Cx} {a D : Addr} {oe : Obj} {err : Str}
def isEx (err : Str) (e : Expr) (c : Str) : Prop := ∃ p1 p2 p3 p4, e = .Call (.Name "isinstance" p1) [.Name err p2, .Name c p3] [] p4
structure Hot (X : Cx) (a D : Addr) (oe : Obj) (err : Str) : Prop where
  pin : (a, oe) ∈ X.pn
  exc : ExcC X.K D
  zc : Zc (.ref D) none oe
  fl : ∃ vs, oe.data = .fields vs
  gi : Gl X "isinstance"
  mi : X.mg "isinstance" = none
  n0 : X.N[0]? = some err
  vis : Vis X.env.scope err
  db : (err == ("__debug__" : Str)) = false
  cd : (err == ("__classdict__" : Str)) = false
structure HotC1 (X : Cx) (D : Addr) (c : Str) (b : Bool) : Prop where
  gl : Gl X c
  db : (c == ("__debug__" : Str)) = false
  at_ : ∃ C, X.mg c = some (.ref C) ∧ PySem.W.kitOne X.K (.ref D) (.ref C) = some b
theorem pe_isE {e : Expr} {c : Str} {b : Bool} (h : Hot X a D oe err) (he : isEx err e c) (hc : HotC1 X D c b) : PE X e (fun σ H Q => σ[0]? = some (some (.ref a)) ∧ Q (.bl b) H) := by
  obtain ⟨p1, p2, p3, p4, rfl⟩ := he
  obtain ⟨C, hm, hk⟩ := hc.at_
  refine (pe_callB (isE_ok h.pin h.exc h.zc h.fl) h.gi h.mi boot_isinst (pa_cons (pe_var (i := 0) h.n0 h.vis h.db h.cd) (pa_cons (pe_glob (v := .ref C) hc.gl hm rfl hc.db) pa_nil rfl) rfl) (by decide) (by decide) rfl rfl).imp fun σ H Q hq => ?_
  exact ⟨_, hq.1, .ref C, .ref C, b, rfl, fun u r => by cases r; rfl, hk, hq.2⟩
inductive IsExs (X : Cx) (D : Addr) (err : Str) : List Expr → List Bool → Prop
  | nil : IsExs X D err [] []
  | cons {e : Expr} {c : Str} {b : Bool} {es : List Expr} {bs : List Bool} : isEx err e c → HotC1 X D c b → IsExs X D err es bs → IsExs X D err (e :: es) (b :: bs)
theorem IsExs.pa (h : Hot X a D oe err) : ∀ {es : List Expr} {bs : List Bool}, IsExs X D err es bs → PA X es (fun σ H Q => σ[0]? = some (some (.ref a)) ∧ Q (bs.map V.bl) H)
  | _, _, .nil => pa_nil.imp fun σ H Q q => q.2
  | _, _, .cons (e := e) he hc t => (pa_cons (pe_isE h he hc) (IsExs.pa h t) (by obtain ⟨p1, p2, p3, p4, rfl⟩ := he; rfl)).imp fun σ H Q q => ⟨q.1, q.1, q.2⟩
end
theorem bools_fz {K : PySem.W.Frag} {H : Hp} : ∀ ys : List Bool, FzA K H (ys.map V.bl) (ys.map PyData.bool)
  | [] => .nil
  | y :: ys => .cons (.bl y) (bools_fz ys)
inductive StrExs : List Expr → List Str → Prop
  | nil : StrExs [] []
  | cons {x : Str} {j : Nat} {p : Pos} {es : List Expr} {xs : List Str} : StrExs es xs → StrExs (.Constant (.str x) j p :: es) (x :: xs)
theorem StrExs.pa {X : Cx} : ∀ {es : List Expr} {xs : List Str}, StrExs es xs → PA X es (fun _ H Q => Q (xs.map V.str) H)
  | _, _, .nil => pa_nil.imp fun σ H Q q => q
  | _, _, .cons t => (pa_cons pe_str (StrExs.pa t) rfl).imp fun σ H Q q => q
/-! ### the body that names a caught error's kind -/
def strsB : List Expr → Option (List Str)
  | [] => some []
  | .Constant (.str x) _ _ :: r => (strsB r).map (x :: ·)
  | _ => none
def isB (sc : Scope) (err : Str) : Expr → Option Str
  | .Call (.Name i _) [.Name e _, .Name c _] [] _ => if i = "isinstance" ∧ e = err ∧ glB sc c = true then some c else none
  | _ => none
def issB (sc : Scope) (err : Str) : List Expr → Option (List Str)
  | [] => some []
  | e :: r => ap2 (fun c cs => c :: cs) (isB sc err e) (issB sc err r)
structure KParts where
  names : List Str
  c1 : List Str
  c2 : List Str
  test : DK.E
  base : Option Str
  yes : DK.E
  no : DK.E
def T0 : Tab := ⟨[], [], [], [], none, []⟩
def testB (ck : Ck) (err : Str) : Expr → Option (DK.E × Option Str)
  | .BoolOp .And [a, b] _ => ap2 (fun t c => (t, some c)) (cE T0 50 ck a) (isB ck.sc err b)
  | e => (cE T0 50 ck e).map fun t => (t, none)
def kindB (ck : Ck) (err : Str) : List Stmt → Option KParts
  | [.Assign [.Name nm _] (.List e1 _) _, .Assign [.Name fo _] (.List e2 _) _, .Assign [.Name fo2 _] (.BinOp (.Name fo3 _) .Add (.List e3 _) _) _, .Return (some (.IfExp test a b _)) _] =>
    wh (decide (stoB ck nm = some 1) && decide (stoB ck fo = some 2) && decide (fo2 = fo) && decide (slotB ck fo3 = some 2) && decide (slotB ck err = some 0) && glB ck.sc "isinstance")
      ((strsB e1).bind fun ns => (issB ck.sc err e2).bind fun c1 => (issB ck.sc err e3).bind fun c2 => (testB ck err test).bind fun t => (cE T0 50 ck a).bind fun y => (cE T0 50 ck b).map fun n => ⟨ns, c1, c2, t.1, t.2, y, n⟩)
  | _ => none
theorem strsB_ok : ∀ {es : List Expr} {xs : List Str}, strsB es = some xs → StrExs es xs
  | [], _, h => by cases h; exact .nil
  | e :: r, xs, h => by
    cases e <;> try (cases h; done)
    rename_i c j p
    cases c <;> try (cases h; done)
    obtain ⟨ys, q, rfl⟩ := map_ok h
    exact .cons (strsB_ok q)
theorem isB_ok {sc : Scope} {err : Str} {e : Expr} {c : Str} (h : isB sc err e = some c) : isEx err e c ∧ glB sc c = true := by
  unfold isB at h
  split at h
  · obtain ⟨⟨h1, h2, h3⟩, h4⟩ := ifS h
    subst h1 h2 h4
    exact ⟨⟨_, _, _, _, rfl⟩, h3⟩
  · cases h
theorem issB_ok {X : Cx} {D : Addr} {sc : Scope} {err : Str} {row : Str → Option Bool} (hr : ∀ c b, row c = some b → glB sc c = true → HotC1 X D c b) : ∀ {es : List Expr} {cs : List Str} {bs : List Bool}, issB sc err es = some cs → cs.mapM row = some bs → IsExs X D err es bs
  | [], cs, bs, h, hb => by cases h; simp at hb; subst hb; exact .nil
  | e :: r, cs, bs, h, hb => by
    obtain ⟨c, cs', q1, q2, rfl⟩ := ap2_ok (k := fun c cs => c :: cs) h
    obtain ⟨hx, hg⟩ := isB_ok q1
    rw [List.mapM_cons] at hb
    cases z : row c with
    | none => rw [z] at hb; cases hb
    | some b =>
      cases z2 : cs'.mapM row with
      | none => rw [z, z2] at hb; cases hb
      | some bs' =>
        rw [z, z2] at hb; cases hb
        exact .cons hx (hr c b z hg) (issB_ok hr q2 z2)
def kG (names : List Str) (bs : List Bool) : Gam := [.no, .own .mine (names.map PyData.str), .own .mine (bs.map PyData.bool)]
section
variable {ck : Ck} {cl : Nat → Addr} {P : List Fn} {G : List D} {n : Nat} {X : Cx} {a D : Addr} {oe : Obj} {err : Str} {row : Str → Option Bool} {body : List Stmt} {kp : KParts} {bs1 bs2 : List Bool} {k : Str}
theorem test_ok {test : Expr} {t : DK.E × Option Str} (E : EnvOk T0 ck cl P G n X W0) (Hh : Hot X a D oe err) (hr : ∀ c b, row c = some b → glB ck.sc c = true → HotC1 X D c b) (h : testB ck err test = some t) (hbase : ∀ c, t.2 = some c → row c = some true) :
    PT X test (fun σ H Q => σ[0]? = some (some (.ref a)) ∧ tT X.K W0 (tst (evalE (callN P G n) G t.1)) σ H Q) := by
  unfold testB at h
  split at h
  · rename_i ta tb tp
    obtain ⟨m, cb, w1, w2, rfl⟩ := ap2_ok h
    obtain ⟨hx, hgc⟩ := isB_ok w2
    have hi := pe_isE Hh hx (hr cb true (hbase cb rfl) hgc)
    have hi2 : PT X tb (fun σ H Q => σ[0]? = some (some (.ref a)) ∧ Q true H) := by
      have := pt_truth (X := X) hi (by obtain ⟨_, _, _, _, rfl⟩ := hx; exact fun _ => rfl)
      exact this.imp fun σ H Q q => ⟨q.1, true, rfl, q.2⟩
    refine (pw_and ((all_E T0 50).1 _ _ _ w1 cl P G n X W0 E).2 (pw_and1 hi2)).pt.imp fun σ H Q q => ?_
    obtain ⟨e0, g, r, q⟩ := q
    refine ⟨g, r, q.mono fun b g' H' _ _ q => ?_⟩
    cases b with
    | true => exact ⟨e0, q⟩
    | false => exact q
  · obtain ⟨m, w1, rfl⟩ := map_ok h
    exact ((all_E T0 50).1 _ _ _ w1 cl P G n X W0 E).2.imp fun σ H Q q => q.2
theorem kind_run (E : EnvOk T0 ck cl P G n X W0) (hN : ck.N.length = 3) (Hh : Hot X a D oe err) (hr : ∀ c b, row c = some b → glB ck.sc c = true → HotC1 X D c b) (hk : kindB ck err body = some kp) (hb1 : kp.c1.mapM row = some bs1) (hb2 : kp.c2.mapM row = some bs2) (hbase : ∀ c, kp.base = some c → row c = some true)
    (hl1 : kp.names.length ≤ lim) (hl2 : (bs1 ++ bs2).length ≤ lim) (ht : tst (evalE (callN P G n) G kp.test) (kG kp.names (bs1 ++ bs2)) = .ok true (kG kp.names (bs1 ++ bs2))) (hy : evalE (callN P G n) G kp.yes (kG kp.names (bs1 ++ bs2)) = .ok (.val (.str k)) (kG kp.names (bs1 ++ bs2))) :
    PSs X body (fun D σ H => σ = [some (.ref a), none, none] ∧ ∀ H', Nw H H' → D.rt (.str k) H') := by
  have nd : X.N.Nodup := by rw [E.N]; exact E.nd
  unfold kindB at hk
  split at hk
  · rename_i nm p1 e1 p2 p3 fo p4 e2 p5 p6 fo2 p7 fo3 p8 e3 p9 p10 q1 test ea eb q2 q3
    obtain ⟨c, hq⟩ := wh_ok hk
    clear hk
    simp only [Bool.and_eq_true, decide_eq_true_eq] at c
    obtain ⟨⟨⟨⟨⟨c1, c2⟩, rfl⟩, c4⟩, c5⟩, c6⟩ := c
    obtain ⟨ns, z1, hq⟩ := bind_ok hq
    obtain ⟨d1, z2, hq⟩ := bind_ok hq
    obtain ⟨d2, z3, hq⟩ := bind_ok hq
    obtain ⟨t, z4, hq⟩ := bind_ok hq
    obtain ⟨y, z5, hq⟩ := bind_ok hq
    obtain ⟨no, z6, rfl⟩ := map_ok hq
    dsimp only at hb1 hb2 hbase hl1 hl2 ht hy
    obtain ⟨n1, n2, n3⟩ := sto_ok E c1
    obtain ⟨f1, f2, f3⟩ := sto_ok E c2
    obtain ⟨g1, g2, g3, g4⟩ := slot_ok E c4
    have I1 := issB_ok hr z2 hb1
    have I2 := issB_ok hr z3 hb2
    have s1 := ps_set (pos := p3) (pos' := p1) nd n1 n2 (pe_lst (pos := p2) (strsB_ok z1).pa) rfl n3
    have s2 := ps_set (pos := p6) (pos' := p4) nd f1 f2 (pe_lst (pos := p5) (I1.pa Hh)) rfl f3
    have s3 := ps_set (pos := q1) (pos' := p7) nd f1 f2 (pe_op (pos := p10) (bin_ok (X := X) .add) (pe_var (pos := p8) g1 g2 g3 g4) (pe_lst (pos := p9) (I2.pa Hh))) rfl f3
    have sy := (all_E T0 50).1 _ _ _ z5 cl P G n X W0 E
    have sn := (all_E T0 50).1 _ _ _ z6 cl P G n X W0 E
    have st := test_ok (n := n) (P := P) (G := G) E Hh hr z4 hbase
    refine (pss_cons s1 (pss_cons s2 (pss_cons s3 (pss_one (ps_ret (pe_ifExp st sy.1 sn.1)))))).imp fun D σ H h => ?_
    obtain ⟨rfl, hq⟩ := h
    refine ⟨by rw [List.length_map, lim_eq]; exact hl1, fun pa ha => ⟨rfl, by rw [List.length_map, lim_eq]; rw [List.length_append] at hl2; omega, fun pb hb => ?_⟩⟩
    have hab : pa ≠ pb := fun z => by subst z; rw [upd_same] at hb; cases hb
    refine ⟨_, rfl, rfl, by rw [List.length_map, lim_eq]; rw [List.length_append] at hl2; omega, fun pc hc => ?_⟩
    have hbc : pb ≠ pc := fun z => by subst z; rw [upd_same] at hc; cases hc
    have hac : pa ≠ pc := fun z => by subst z; rw [upd_ne hab, upd_same] at hc; cases hc
    have B1 : FzA X.K (upd (upd (upd H pa (.lst (ns.map V.str))) pb (.lst (bs1.map V.bl))) pc (.lst (bs2.map V.bl))) (bs1.map V.bl) (bs1.map PyData.bool) := bools_fz _
    have B2 : FzA X.K (upd (upd (upd H pa (.lst (ns.map V.str))) pb (.lst (bs1.map V.bl))) pc (.lst (bs2.map V.bl))) (bs2.map V.bl) (bs2.map PyData.bool) := bools_fz _
    refine ⟨.list (bs1.map PyData.bool), .list (bs2.map PyData.bool), .own ((bs1 ++ bs2).map PyData.bool), .inr ⟨pb, _, _, rfl, rfl, by rw [upd_ne hbc, upd_same], B1⟩, .inr ⟨pc, _, _, rfl, rfl, upd_same, B2⟩, ?_, fun pd vs hd fv => ?_⟩
    · show (if _ then some _ else none) = _
      rw [if_pos (by rw [List.length_map, List.length_map, ← List.length_append]; exact hl2), List.map_append]
    have hda : pd ≠ pa := fun z => by subst z; rw [upd_ne hac, upd_ne hab, upd_same] at hd; cases hd
    generalize hHe : (upd (upd (upd H pa (.lst (ns.map V.str))) pb (.lst (bs1.map V.bl))) pc (.lst (bs2.map V.bl))) = H3 at hd fv
    have e3 : H3 pa = some (.lst (ns.map V.str)) := by rw [← hHe, upd_ne hac, upd_ne hab, upd_same]
    have nw3 : Nw H H3 := fun b o e => by
      have na : b ≠ pa := fun z => by subst z; rw [ha] at e; cases e
      have nb : b ≠ pb := fun z => by subst z; rw [upd_ne na, e] at hb; cases hb
      have nc : b ≠ pc := fun z => by subst z; rw [upd_ne nb, upd_ne na, e] at hc; cases hc
      rw [← hHe, upd_ne nc, upd_ne nb, upd_ne na]; exact e
    have hdH : H pd = none := by
      cases q : H pd with
      | none => rfl
      | some o => rw [nw3 pd o q] at hd; cases hd
    have rl : Rel X.K (upd H3 pd (.lst vs)) [some (.ref a), some (.ref pa), some (.ref pd)] (kG ns (bs1 ++ bs2)) := by
      refine ⟨rfl, fun i d e => ?_, fun i k xs e => ?_, fun i j k l xs ys b e1 e2 z1 z2 => ?_⟩
      · match i, e with
        | 0, e => cases e
        | 1, e => cases e
        | 2, e => cases e
        | i + 3, e => cases e
      · match i, e with
        | 0, e => cases e
        | 1, e => cases e; exact ⟨pa, _, rfl, by rw [upd_ne (Ne.symm hda)]; exact e3, strs_fz ns⟩
        | 2, e => cases e; exact ⟨pd, _, rfl, upd_same, fv.mono (Kp.new hd)⟩
        | i + 3, e => cases e
      · match i, j, e1, e2, z1, z2 with
        | 0, _, e1, _, _, _ => cases e1
        | _ + 3, _, e1, _, _, _ => cases e1
        | 1, 0, _, e2, _, _ => cases e2
        | 2, 0, _, e2, _, _ => cases e2
        | 1, _ + 3, _, e2, _, _ => cases e2
        | 2, _ + 3, _, e2, _, _ => cases e2
        | 1, 1, _, _, _, _ => rfl
        | 2, 2, _, _, _, _ => rfl
        | 1, 2, _, _, z1, z2 => cases z1; cases z2; exact absurd rfl hda
        | 2, 1, _, _, z1, z2 => cases z1; cases z2; exact absurd rfl hda
    refine ⟨rfl, kG ns (bs1 ++ bs2), rl, ?_⟩
    show Run X.K W0 _ _ _ (tst (evalE (callN P G n) G t.1) (kG ns (bs1 ++ bs2))) _
    rw [ht]
    intro H5 r5 s5
    dsimp only
    rw [if_pos rfl]
    refine ⟨kG ns (bs1 ++ bs2), r5, ?_⟩
    rw [hy]
    intro H6 r6 s6 v hv _
    cases Fz.str_inv hv
    refine hq H6 fun b o e => ?_
    -- what was there is still there
    have e4 : upd H3 pd (.lst vs) b = some o := by rw [upd_ne (fun z => by subst z; rw [hdH] at e; cases e)]; exact nw3 b o e
    have nm : ∀ {H' : Hp}, ¬ Mt [some (.ref a), some (.ref pa), some (.ref pd)] (kG ns (bs1 ++ bs2)) b := fun z => by
      obtain ⟨i, k, xs, ei, _, z⟩ := z
      match i, ei, z with
      | 0, ei, _ => cases ei
      | 1, _, z => cases z; rw [ha] at e; cases e
      | 2, _, z => cases z; rw [hdH] at e; cases e
      | i + 3, ei, _ => cases ei
    exact s6.ext b o (s5.ext b o e4 (nm (H' := H))) (nm (H' := H))
  · cases hk
end
end DK
end
section
set_option maxRecDepth 100000
set_option maxHeartbeats 4000000
namespace DK
open PySem L2 PySem.Spec PyProof.Rows
def ckK (sc : Scope) (N : List Str) : Ck := ⟨sc, sc, N, [], false⟩
theorem tab0 {prog : Program} {w : World} {K : PySem.W.Frag} {mg : Str → Option Value} {base : Heap} {cl : Nat → Addr} {P : List Fn} {G : List D} {n : Nat} : TabOk T0 prog w K mg base cl P G n :=
  ⟨fun f x ms h => by simp [T0] at h, fun j x h => by simp [T0] at h, fun x h => by simp [T0] at h, fun c x h => by simp [T0] at h, fun kn bn ks h => by simp [T0] at h, fun x kv h => by simp [T0] at h⟩
section
variable {prog : Program} {w : World} {K : PySem.W.Frag} {mg : Str → Option Value} {base : Heap} {x qual : Str} {params : Arguments} {body : List Stmt} {scope : Scope} {dvs : List V} {kws : List (Str × V)} {f : Addr} {fd : FuncData} {N : List Str} {err k : Str} {C : Addr} {kp : KParts} {row : Str → Option Bool} {bs1 bs2 : List Bool}
theorem kind_of (F : FunD K x qual params body scope dvs kws f fd) (hs : scOk N [err] scope = true) (hN : N.length = 3) (hk : kindB (ckK scope N) err body = some kp) (hi : mg "isinstance" = none) (he : slotB (ckK scope N) err = some 0) (hgi : glB scope "isinstance" = true)
    (exc : ExcC K C) (hr : ∀ c b, row c = some b → ∃ D, mg c = some (.ref D) ∧ PySem.W.kitOne K (.ref C) (.ref D) = some b) (hb1 : kp.c1.mapM row = some bs1) (hb2 : kp.c2.mapM row = some bs2) (hbase : ∀ c, kp.base = some c → row c = some true)
    (hl1 : kp.names.length ≤ lim) (hl2 : (bs1 ++ bs2).length ≤ lim) (ht : tst (evalE (callN [] [] 0) [] kp.test) (kG kp.names (bs1 ++ bs2)) = .ok true (kG kp.names (bs1 ++ bs2))) (hy : evalE (callN [] [] 0) [] kp.yes (kG kp.names (bs1 ++ bs2)) = .ok (.val (.str k)) (kG kp.names (bs1 ++ bs2))) :
    KindRun prog w K mg base f fd err C k := by
  intro A outer s H args Q a oe hd hu hg hpin hz hfl e0 hb hQ
  obtain ⟨oc, od, dV, kV, doc, pm, an, cdv, ct, osl, rfl, lk, hcd, _, _⟩ := F.ex
  have S := scOk_ok hs
  have KX : K.In s.heap := e0.mod.kin.keeps fun b o e => (e0.bs b o e).1
  have lim' : s.heap.NoLimit := e0.mod.nolimit.keeps fun b o e => (e0.bs b o e).1
  have kinds : ∀ y ∈ [err].zip [Value.ref a], scope.names.lookup y.1 = some .local ∨ (scope.names.lookup y.1 = some .cell ∧ ((cellsFrom (s.heap.objs.size + 1) scope.names []).lookup y.1).isSome = true) := fun ⟨n, v⟩ hy =>
    (S.par n (List.of_mem_zip hy).1).imp id fun q => ⟨q, PySem.W.cellsFrom_some _ _ _ (.inl q)⟩
  refine codeAny_call_function hd (KX _ _ lk) rfl S.co S.gen rfl (PySem.W.codeRec_of KX hcd) (hb _ _ _ _ ?_)
  refine wpAny_newFunctionEnv_cells S.kind kinds fun env he' s1 xx => ?_
  subst he'
  refine ⟨lim'.keeps xx.toInCall.keep, codeAny_func ?_⟩
  have I : L2.Inv (L2H.cxH (L2.CX prog w) prog w K mg base N qual scope f cdv A outer s H (fun _ _ _ => False) (a, oe)) [] (start N [.ref a]) H s1 := L2H.inv_startH S hpin e0 rfl (.cons rfl .nil) xx
  generalize hX : L2H.cxH (L2.CX prog w) prog w K mg base N qual scope f cdv A outer s H (fun _ _ _ => False) (a, oe) = X at I
  have E : EnvOk T0 (ckK scope N) (fun _ => 0) [] [] 0 X W0 := by
    subst hX
    refine ⟨rfl, S.nd, rfl, S.kind, (fun z => by cases z), hg, ?_, (fun z => by cases z), fun y h => ?_, Takes.imp takes_none5 fun c d σ H h => ?_, tab0⟩
    · show A.units + 3 + 150 < cLine
      omega
    · have h : (kindIs scope y .local || kindIs scope y .cell) = true := h
      rw [Bool.or_eq_true] at h
      exact ⟨h.imp of_decide_eq_true of_decide_eq_true, .inl rfl⟩
    · obtain ⟨_, _, _, z⟩ := h
      exact z
  obtain ⟨v1, v2, v3, v4⟩ := slot_ok E he
  have Hh : Hot X a C oe err := by
    obtain ⟨i1, i2⟩ := gl_ok E hgi
    subst hX
    exact ⟨List.mem_cons_self, exc, hz, hfl, i1, hi, v1, v2, v3, v4⟩
  have st : start N [V.ref a] = [some (.ref a), none, none] := by
    unfold L2.start
    rw [hN]; rfl
  have P := kind_run (P := []) (G := []) (n := 0) E hN Hh (fun c b e g => by
    obtain ⟨g1, g2⟩ := gl_ok E g
    obtain ⟨D, m1, m2⟩ := hr c b e
    subst hX
    exact ⟨g1, g2, D, m1, m2⟩) hk hb1 hb2 hbase hl1 hl2 ht hy
  have R := P.run [] s1 (start N [V.ref a]) H { nx := fun _ H' => Q .non H', rt := Q } I ⟨st, hQ⟩
  subst hX
  refine wpAny_mono R (fun fl s' hs => ?_) fun e s' hs => hs
  cases fl with
  | ret u =>
    obtain ⟨v, σ', H', J, rv, q⟩ := hs
    exact ⟨v, H', J.os, J.bare, J.base, J.hok, rv, q⟩
  | next =>
    obtain ⟨σ', H', J, q⟩ := hs
    exact ⟨.non, H', J.os, J.bare, J.base, J.hok, rfl, q⟩
  | brk => exact hs.choose_spec.choose_spec.2.elim
  | cont => exact hs.choose_spec.choose_spec.2.elim
end
end DK
end
section
set_option maxRecDepth 100000
set_option maxHeartbeats 4000000
namespace DK
open PySem L2 PySem.Spec PyProof.Rows
/-! ### the head's facts, with a test of one's own -/
abbrev AlX : Type := (He.AlD × Bool) × List (Option (List (Option (Str × Int))))
def obsX (n : Nat) (fa : List He.Fa) (fn : List He.DefD) (ex : PySem.W.Frag → Bool) (ts : List He.Tab) (g : Addr → Option Obj) : AlX := ((He.obsD fa fn (He.frG g (He.asD g n)), ex (He.frG g (He.asD g n))), ts.map fun t => He.dicW (He.frG g (He.asD g n)) (t.1 (He.frG g (He.asD g n))))
def dicsX (ts : List He.Tab) (K : PySem.W.Frag) : List (Option (List (Option (Str × Int)))) := ts.map fun t => He.dicW K (t.1 K)
def keysX (ts : List He.Tab) (w : World) : List (Option (List (Option (Str × Int)))) := ts.map fun t => some (He.keysIn w.params t.2)
def hookX (n : Nat) (fa : List He.Fa) (fn : List He.DefD) (ex : PySem.W.Frag → Bool) (ts : List He.Tab) : PySem.W.Hook where
  α := AlX
  obs := fun s => obsX n fa fn ex ts s.heap.get?
  val := fun w => ((He.valD fn, true), keysX ts w)
  says := fun w h => ∃ K : PySem.W.Frag, K.In h ∧ He.SaysD fa fn K ∧ ex K = true ∧ dicsX ts K = keysX ts w
  of := fun _ _ e => ⟨_, He.frG_in, congrArg Prod.fst (congrArg Prod.fst e), congrArg Prod.snd (congrArg Prod.fst e), congrArg Prod.snd e⟩
  keeps := fun _ _ _ ⟨K, hK, c⟩ k => ⟨K, PySem.W.Frag.In.keeps hK k, c⟩
def obX (n : Nat) (fa : List He.Fa) (fn : List He.DefD) (ex : PySem.W.Frag → Bool) (ts : List He.Tab) (s : PySem.W.SharedT) : AlX := obsX n fa fn ex ts (HandSHeadRun.getT s)
theorem obX_eq {n : Nat} {fa : List He.Fa} {fn : List He.DefD} {ex : PySem.W.Frag → Bool} {ts : List He.Tab} (s : PySem.W.SharedT) : obX n fa fn ex ts s = (hookX n fa fn ex ts).obs s.abs := by
  have e : HandSHeadRun.getT s = s.abs.heap.get? := funext (HandSHeadRun.getT_eq s)
  unfold obX hookX
  rw [e]
/-! ### dicts of the module -/
theorem kpos_none : ∀ {ks : List Str} {z : Str} {i : Nat}, kpos ks z i = none → z ∉ ks
  | [], _, _, _ => by simp
  | k :: ks, z, i, h => by
    unfold kpos at h
    by_cases e : k = z
    · rw [if_pos e] at h; cases h
    · rw [if_neg e] at h
      intro hm
      rcases List.mem_cons.mp hm with q | q
      · exact e q.symm
      · exact kpos_none h q
theorem kpos_some : ∀ {ks : List Str} {z : Str} {i j : Nat}, kpos ks z i = some j → i ≤ j ∧ ks[j - i]? = some z
  | [], _, _, _, h => by cases h
  | k :: ks, z, i, j, h => by
    unfold kpos at h
    by_cases e : k = z
    · rw [if_pos e] at h; cases h; subst e; exact ⟨Nat.le_refl _, by simp⟩
    · rw [if_neg e] at h
      obtain ⟨h1, h2⟩ := kpos_some h
      refine ⟨by omega, ?_⟩
      rw [show j - i = (j - (i + 1)) + 1 by omega, List.getElem?_cons_succ]
      exact h2
theorem keys_no {P : Params} {z : Str} : ∀ {l : List DictEntry} {ks : List Str}, l.map He.keyOf = He.keysIn P ks → z ∉ ks → l.find? (fun e => e.key.isStr z) = none ∧ l.any (fun e => e.refKey) = false
  | [], _, _, _ => ⟨rfl, rfl⟩
  | e :: r, [], h, _ => by cases h
  | e :: r, k :: ks, h, hz => by
    have h1 : He.keyOf e :: r.map He.keyOf = some (k, PyData.keyHash P k) :: He.keysIn P ks := h
    injection h1 with h2 h3
    obtain ⟨i1, i2⟩ := keys_no h3 (fun q => hz (List.mem_cons_of_mem _ q))
    have hk : k ≠ z := fun q => hz (by rw [q]; exact List.mem_cons_self)
    unfold He.keyOf at h2
    split at h2
    · rename_i x t q
      obtain ⟨h5, h6⟩ := Prod.mk.inj (Option.some.inj h2)
      subst h5
      refine ⟨?_, ?_⟩
      · rw [List.find?_cons_of_neg (by rw [q]; simpa [Value.isStr] using hk)]; exact i1
      · rw [List.any_cons, i2]
        simp [DictEntry.refKey, q]
    · cases h2
theorem dic_no {K : PySem.W.Frag} {P : Params} {a : Addr} {ks : List Str} (h : He.dicW K a = some (He.keysIn P ks)) {z : Str} (hz : z ∉ ks) : PySem.W.nsIn K a z = some none := by
  unfold He.dicW at h
  unfold PySem.W.nsIn
  split at h
  · rename_i c es n sl q
    rw [q]
    split at h
    · obtain ⟨i1, i2⟩ := keys_no (Option.some.inj h) hz
      dsimp only
      rw [i1]
      dsimp only
      rw [i2]
      rfl
    · cases h
  · cases h
def dicsB (K : PySem.W.Frag) (dcs : List (Str × List (Str × Str))) : Bool := dcs.all fun p => (He.Fa.glo p.1).ok K && p.2.all fun q => (He.Fa.glo q.2).ok K && He.eqO (PySem.W.nsIn K (He.ga K p.1) q.1) (some (some (.ref (He.ga K q.2))))
/-! ### error classes -/
def excB (K : PySem.W.Frag) (D : Addr) : Bool :=
  He.eqO (PySem.W.findIn K (.ref D) "__getattribute__") (some (some (.builtin "BaseException.__getattribute__"))) && He.eqO (PySem.W.findIn K (.ref D) "__getattr__") (some none) && decide (PySem.W.subIn K (.ref D) (.type "BaseException") = some true) && PySem.W.hasDictIn K D &&
    He.eqO (PySem.W.findIn K (.ref D) "__class__") (some (some (.builtin "object.__class__"))) && He.eqO (PySem.W.specialIn K (.builtin "object.__class__") "__get__") (some (some (.builtin "getset_descriptor.__get__"))) && decide (PySem.W.takesIn K (.builtin "object.__class__") = some true) && decide (PySem.W.mroIn K D (.type "object") = some true)
theorem excB_ok {K : PySem.W.Frag} {D : Addr} (h : excB K D = true) : ExcC K D := by
  unfold excB at h
  simp only [Bool.and_eq_true, decide_eq_true_eq] at h
  obtain ⟨⟨⟨⟨⟨⟨⟨h1, h2⟩, h3⟩, h4⟩, h5⟩, h6⟩, h7⟩, h8⟩ := h
  exact ⟨He.eqO_ok h1, He.eqO_ok h2, h3, h4, He.eqO_ok h5, He.eqO_ok h6, h7, h8⟩
def kitB (K : PySem.W.Frag) (cs : List Str) (bn : Str) : Bool := cs.all fun c => excB K (He.ga K c) && decide (PySem.W.exmOne K (.ref (He.ga K c)) (.ref (He.ga K bn)) = some true) && (bn :: cs).all fun d => decide (PySem.W.kitOne K (.ref (He.ga K c)) (.ref (He.ga K d)) = some (decide (c = d) || decide (d = bn)))
theorem kitB_ok {K : PySem.W.Frag} {cs : List Str} {bn c : Str} (h : kitB K cs bn = true) (hc : c ∈ cs) : ExcC K (He.ga K c) ∧ PySem.W.exmOne K (.ref (He.ga K c)) (.ref (He.ga K bn)) = some true ∧ ∀ d, d ∈ bn :: cs → PySem.W.kitOne K (.ref (He.ga K c)) (.ref (He.ga K d)) = some (decide (c = d) || decide (d = bn)) := by
  have h := List.all_eq_true.mp h c hc
  rw [Bool.and_eq_true, Bool.and_eq_true] at h
  exact ⟨excB_ok h.1.1, of_decide_eq_true h.1.2, fun d hd => of_decide_eq_true (List.all_eq_true.mp h.2 d hd)⟩
theorem cls_ok {K : PySem.W.Frag} {mg : Str → Option Value} {x : Str} (h : (He.Fa.exc x).ok K = true) (g : mg x = some (.ref (He.ga K x))) : ClsOk K mg (He.ga K x) x := by
  obtain ⟨h1, h2, h3, h4⟩ := He.exc_ok h
  refine ⟨g, h2, fun X hK hm hg hdb m j p p2 pos => ?_⟩
  subst hK
  exact pmk_own PySem.F.excBase_ValueError h1 hm h2 (raises_own h3 h4) hg hdb
end DK
end
section
set_option maxRecDepth 100000
set_option maxHeartbeats 4000000
namespace DK
open PySem L2 PySem.Spec PyProof.Rows
structure LD where
  fms : List FM
  kd : He.DefD
  kN : List Str
  kerr : Str
  cls : List Str
  bn : Str
  ks : List Str
  fre : List Str
  gi : List (Str × Int)
  gs : List (Str × Str)
  dcs : List (Str × List (Str × Str))
def LD.T (l : LD) : Tab := ⟨l.fms.map fun m => (m.d.at_.1, m.ms), l.gi.map (·.1) ++ l.gs.map (·.1), l.fre, l.cls, some (l.kd.at_.1, l.bn, l.ks), l.dcs⟩
def LD.G (l : LD) : List D := l.gi.map (fun p => PyData.int p.2) ++ l.gs.map fun p => PyData.str p.2
def LD.P (l : LD) : List Fn := l.fms.map (·.fn)
def LD.fa (l : LD) : List He.Fa := l.fms.map (fun m => .glo m.d.at_.1) ++ ([.glo l.kd.at_.1, .glo l.bn] ++ (l.cls.map .glo ++ (l.cls.map .exc ++ (l.fre.map .free ++ (l.gi.map (fun p => .int p.1 p.2) ++ l.gs.map fun p => .str p.1 p.2)))))
def LD.fn (l : LD) : List He.DefD := l.fms.map (·.d) ++ [l.kd]
def LD.ex (l : LD) (K : PySem.W.Frag) : Bool := kitB K l.cls l.bn && dicsB K l.dcs
def LD.ts (l : LD) : List He.Tab := l.dcs.map fun p => (fun K => He.ga K p.1, p.2.map (·.1))
def LD.cl (l : LD) (K : PySem.W.Frag) (c : Nat) : Addr := He.ga K (l.cls.getD c "")
def LD.row (l : LD) (c : Str) (x : Str) : Option Bool := if x ∈ l.bn :: l.cls then some (decide (c = x) || decide (x = l.bn)) else none
structure LD.Ok (l : LD) : Prop where
  fms : ∀ m ∈ l.fms, m.ok l.T ∧ m.d.at_.2 = none
  binds : ∀ m ∈ l.fms, m.binds
  iso : ("isinstance" : Str) ∈ l.fre
  kat : l.kd.at_.2 = none
  kdf : l.kd.dfl = []
  kbd : ∀ (kV doc pm : Value) (an : Option Addr) (cdv ct : Value) (us : List Value), us.length = [l.kerr].length → bindArgs (PySem.W.fnOf l.kd.name l.kd.qual l.kd.params l.kd.body l.kd.scope .none kV doc pm an cdv ct) ⟨us, []⟩ = pure ([l.kerr].zip us)
  ksc : scOk l.kN [l.kerr] l.kd.scope = true
  kN3 : l.kN.length = 3
  ksl : slotB (ckK l.kd.scope l.kN) l.kerr = some 0
  kgi : glB l.kd.scope "isinstance" = true
  kp : ∃ kp, kindB (ckK l.kd.scope l.kN) l.kerr l.kd.body = some kp ∧ kp.names.length ≤ lim ∧ (∀ c, kp.base = some c → c = l.bn) ∧ ∀ (c : Nat) (k : Str), l.ks[c]? = some k → ∃ x bs1 bs2, l.cls[c]? = some x ∧ kp.c1.mapM (l.row x) = some bs1 ∧ kp.c2.mapM (l.row x) = some bs2 ∧ (bs1 ++ bs2).length ≤ lim ∧
      tst (evalE (callN [] [] 0) [] kp.test) (kG kp.names (bs1 ++ bs2)) = .ok true (kG kp.names (bs1 ++ bs2)) ∧ evalE (callN [] [] 0) [] kp.yes (kG kp.names (bs1 ++ bs2)) = .ok (.val (.str k)) (kG kp.names (bs1 ++ bs2))
section
variable {l : LD} {prog : Program} {w : World} {K : PySem.W.Frag} {mg : Str → Option Value} {h : Heap}
theorem says_fact {fa : List He.Fa} {fn : List He.DefD} (c : He.SaysD fa fn K) {f : He.Fa} (hf : f ∈ fa) : f.ok K = true := by
  obtain ⟨i, hi⟩ := List.getElem?_of_mem hf
  exact c.fact i hi
theorem says_def {fa : List He.Fa} {fn : List He.DefD} (c : He.SaysD fa fn K) {d : He.DefD} (hd : d ∈ fn) : ∃ fd, FunD K d.name d.qual d.params d.body d.scope (d.dvs K) (d.kws K) (He.fAd K d.at_) fd := by
  obtain ⟨i, hi⟩ := List.getElem?_of_mem hd
  exact c.def_ i hi
theorem fAd_none {p : Str × Option Str} (h : p.2 = none) : He.fAd K p = He.ga K p.1 := by
  obtain ⟨x, m⟩ := p
  cases h
  rfl
theorem LD.dics (X : K.In h) (N : h.Ns mainGlobals mg) (e : dicsB K l.dcs = true) (ht : dicsX l.ts K = keysX l.ts w) (x : Str) (kv : List (Str × Str)) (hx : l.T.dcs.lookup x = some kv) : ∃ d, mg x = some (.ref d) ∧ DicAt K w d (kv.map (·.1)) ∧ ∀ (z : Str) (i : Nat) (p : Str × Str), kpos (kv.map (·.1)) z 0 = some i → kv[i]? = some p → ∃ a, mg p.2 = some (.ref a) ∧ PySem.W.nsIn K d z = some (some (.ref a)) := by
  have mem : (x, kv) ∈ l.dcs := PySem.mem_of_lookup hx
  have e1 := List.all_eq_true.mp e _ mem
  rw [Bool.and_eq_true] at e1
  obtain ⟨e1, e2⟩ := e1
  obtain ⟨i, hi⟩ := List.getElem?_of_mem mem
  have hd : He.dicW K (He.ga K x) = some (He.keysIn w.params (kv.map (·.1))) := by
    have q : (dicsX l.ts K)[i]? = (keysX l.ts w)[i]? := by rw [ht]
    unfold dicsX keysX LD.ts at q
    simp only [List.getElem?_map, hi, Option.map_some] at q
    exact Option.some.inj q
  have key : ∀ (z : Str) (i : Nat) (p : Str × Str), kpos (kv.map (·.1)) z 0 = some i → kv[i]? = some p → ∃ a, mg p.2 = some (.ref a) ∧ PySem.W.nsIn K (He.ga K x) z = some (some (.ref a)) := by
    intro z i p h1 h2
    have h3 := (kpos_some h1).2
    rw [Nat.sub_zero, List.getElem?_map, h2] at h3
    obtain rfl : p.1 = z := Option.some.inj h3
    have q := List.all_eq_true.mp e2 _ (List.mem_of_getElem? h2)
    rw [Bool.and_eq_true] at q
    exact ⟨_, He.glo_ok X N q.1, He.eqO_ok q.2⟩
  refine ⟨_, He.glo_ok X N e1, ⟨He.dicW_ok hd, fun z h => dic_no hd (kpos_none h), fun z i h => ?_⟩, key⟩
  have h3 := (kpos_some h).2
  rw [Nat.sub_zero, List.getElem?_map] at h3
  obtain ⟨p, hp, _⟩ := Option.map_eq_some_iff.mp h3
  obtain ⟨a, _, q⟩ := key z i p h hp
  exact ⟨_, q⟩
theorem LD.tab (o : l.Ok) (X : K.In h) (N : h.Ns mainGlobals mg) (c : He.SaysD l.fa l.fn K) (e : l.ex K = true) (ht : dicsX l.ts K = keysX l.ts w) (base : Heap) : ∀ n, TabOk l.T prog w K mg base (l.cl K) l.P l.G n := by
  have glo : ∀ {x : Str}, He.Fa.glo x ∈ l.fa → mg x = some (.ref (He.ga K x)) := fun {x} h => He.glo_ok X N (says_fact c h)
  have cmem : ∀ {c : Nat} {x : Str}, l.cls[c]? = some x → l.cl K c = He.ga K x ∧ x ∈ l.cls := fun {c x} h => by
    refine ⟨?_, List.mem_of_getElem? h⟩
    unfold LD.cl
    rw [List.getD_eq_getElem?_getD, h]; rfl
  have e0 := e
  unfold LD.ex at e0
  rw [Bool.and_eq_true] at e0
  obtain ⟨e, ed⟩ := e0
  refine tab_ok (fun f m hm => ?_) (by simp [LD.T]) (fun j x hx => ?_) (fun x hx => ?_) (fun c' x hx => ?_) (fun kn bn ks ht => ?_) (fun x kv hx => LD.dics X N ed ht x kv hx)
  · have mem := List.mem_of_getElem? hm
    obtain ⟨o1, o2⟩ := o.fms m mem
    refine ⟨o1, o.binds m mem, ?_, says_def c (by unfold LD.fn; exact List.mem_append_left _ (List.mem_map_of_mem mem)), ?_⟩
    · show (l.fms.map _)[f]? = _
      rw [List.getElem?_map, hm]; rfl
    · rw [fAd_none o2]
      exact glo (by unfold LD.fa; exact List.mem_append_left _ (List.mem_map.mpr ⟨m, mem, rfl⟩))
  · have hx : (l.gi.map (·.1) ++ l.gs.map (·.1))[j]? = some x := hx
    by_cases hj : j < l.gi.length
    · rw [List.getElem?_append_left (by simpa using hj), List.getElem?_map] at hx
      obtain ⟨p, hp, rfl⟩ := Option.map_eq_some_iff.mp hx
      obtain ⟨t, ht⟩ := He.int_ok X N (says_fact c (f := .int p.1 p.2) (by unfold LD.fa; simp only [List.mem_append, List.mem_map]; exact .inr (.inr (.inr (.inr (.inr (.inl ⟨p, List.mem_of_getElem? hp, rfl⟩)))))))
      refine ⟨_, .int p.2, .int p.2, ht, ⟨t, rfl⟩, fun _ => .int _, ?_⟩
      show (l.gi.map _ ++ l.gs.map _)[j]? = _
      rw [List.getElem?_append_left (by simpa using hj), List.getElem?_map, hp]; rfl
    · rw [List.getElem?_append_right (by simpa using hj), List.getElem?_map, List.length_map] at hx
      obtain ⟨p, hp, rfl⟩ := Option.map_eq_some_iff.mp hx
      obtain ⟨t, ht⟩ := He.str_ok X N (says_fact c (f := .str p.1 p.2) (by unfold LD.fa; simp only [List.mem_append, List.mem_map]; exact .inr (.inr (.inr (.inr (.inr (.inr ⟨p, List.mem_of_getElem? hp, rfl⟩)))))))
      refine ⟨_, .str p.2, .str p.2, ht, ⟨t, rfl⟩, fun _ => .str _, ?_⟩
      show (l.gi.map _ ++ l.gs.map _)[j]? = _
      rw [List.getElem?_append_right (by simpa using hj), List.getElem?_map, List.length_map, hp]; rfl
  · exact He.free_ok X N (says_fact c (f := .free x) (by unfold LD.fa; simp only [List.mem_append, List.mem_map]; exact .inr (.inr (.inr (.inr (.inl ⟨x, hx, rfl⟩))))))
  · obtain ⟨c1, c2⟩ := cmem hx
    rw [c1]
    exact cls_ok (says_fact c (by unfold LD.fa; simp only [List.mem_append, List.mem_map]; exact .inr (.inr (.inr (.inl ⟨x, c2, rfl⟩))))) (glo (by unfold LD.fa; simp only [List.mem_append, List.mem_map]; exact .inr (.inr (.inl ⟨x, c2, rfl⟩))))
  · cases ht
    have gb : mg l.bn = some (.ref (He.ga K l.bn)) := glo (by unfold LD.fa; simp)
    obtain ⟨kp, k1, k2, k3, k4⟩ := o.kp
    refine ⟨⟨?_⟩, _, gb, fun c' k hk => ?_⟩
    · obtain ⟨fd, F⟩ := says_def c (d := l.kd) (by unfold LD.fn; simp)
      have F' : FunD K l.kd.name l.kd.qual l.kd.params l.kd.body l.kd.scope [] (l.kd.kws K) (He.fAd K l.kd.at_) fd := by
        have : l.kd.dvs K = [] := by unfold He.DefD.dvs; rw [o.kdf]; rfl
        rw [← this]; exact F
      refine ⟨_, fd, l.kerr, glo (by unfold LD.fa; simp), ?_, F'.bindsN o.kbd, fun c' k hk => ?_⟩
      · have := F.kp; rw [fAd_none o.kat] at this; exact this
      · obtain ⟨x, bs1, bs2, q1, q2, q3, q4, q5, q6⟩ := k4 c' k hk
        obtain ⟨c1, c2⟩ := cmem q1
        obtain ⟨E1, E2, E3⟩ := kitB_ok e c2
        rw [c1, ← fAd_none o.kat]
        refine kind_of F o.ksc o.kN3 k1 (He.free_ok X N (says_fact c (f := .free "isinstance") (by unfold LD.fa; simp only [List.mem_append, List.mem_map]; exact .inr (.inr (.inr (.inr (.inl ⟨_, o.iso, rfl⟩))))))) o.ksl o.kgi E1 (fun y b hy => ?_) q2 q3 (fun y hy => ?_) k2 q4 q5 q6
        · unfold LD.row at hy
          obtain ⟨hm, hb⟩ := ifS hy
          subst hb
          refine ⟨_, ?_, E3 y hm⟩
          rcases List.mem_cons.mp hm with z | z
          · subst z; exact gb
          · exact glo (by unfold LD.fa; simp only [List.mem_append, List.mem_map]; exact .inr (.inr (.inl ⟨y, z, rfl⟩)))
        · obtain rfl := k3 y hy
          unfold LD.row
          rw [if_pos List.mem_cons_self]
          simp
    · obtain ⟨x, bs1, bs2, q1, q2, q3, q4, q5, q6⟩ := k4 c' k hk
      obtain ⟨c1, c2⟩ := cmem q1
      rw [c1]
      exact (kitB_ok e c2).2.1
end
end DK
end
section
set_option maxRecDepth 100000
set_option maxHeartbeats 4000000
namespace DK
open PySem L2 PySem.Spec PyProof.Rows
section
variable {l : LD} {prog : Program} {w : World} {K : PySem.W.Frag} {mg : Str → Option Value} {h : Heap}
theorem LD.law (o : l.Ok) (X : K.In h) (N : h.Ns mainGlobals mg) (c : He.SaysD l.fa l.fn K) (e : l.ex K = true) (ht : dicsX l.ts K = keysX l.ts w) {f : Nat} {m : FM} {x : Str} (hm : l.fms[f]? = some m) (hp : m.ps = [x]) (n : Nat) :
    mg m.d.at_.1 = some (.ref (He.ga K m.d.at_.1)) ∧ ∃ fd, (∀ (s : Shared) (u : Value), BindsTo s fd ⟨[u], []⟩ [(x, u)]) ∧ ∀ base : Heap, FnG prog w K mg base (n + 1) (He.ga K m.d.at_.1) fd [x] (spC K (l.cl K) 1 (callN l.P l.G (n + 1) f)) := by
  have mem := List.mem_of_getElem? hm
  obtain ⟨hc, o2⟩ := o.fms m mem
  have gm : mg m.d.at_.1 = some (.ref (He.ga K m.d.at_.1)) := He.glo_ok X N (says_fact c (f := .glo m.d.at_.1) (by unfold LD.fa; exact List.mem_append_left _ (List.mem_map.mpr ⟨m, mem, rfl⟩)))
  obtain ⟨fd, F⟩ := says_def c (d := m.d) (by unfold LD.fn; exact List.mem_append_left _ (List.mem_map_of_mem mem))
  have hc' := hc
  obtain ⟨c1, c2, c3, c4, c5, c6, c7⟩ := hc'
  have F' : FunD K m.d.name m.d.qual m.d.params m.d.body m.d.scope [] (m.d.kws K) (He.fAd K m.d.at_) fd := by
    have : m.d.dvs K = [] := by unfold He.DefD.dvs; rw [c5]; rfl
    rw [← this]; exact F
  have bb : ∀ (s : Shared) (u : Value), BindsTo s fd ⟨[u], []⟩ [(x, u)] := fun s u => by
    have := FunD.bindsA F' (o.binds m mem) s [u] (by rw [hp]; rfl)
    rw [hp] at this
    exact this
  refine ⟨gm, fd, bb, fun base => ?_⟩
  obtain ⟨oc, od, dV, kV, doc, pm, an, cdv, ct, osl, rfl, lk, hcd, _, _⟩ := F.ex
  rw [fAd_none o2] at lk
  have one : m.ms.length = 1 := by rw [c2, hp]; rfl
  rw [← hp]
  refine fnG_of lk hcd (scOk_ok c1) (fun vs H Q E z => by rw [hp]; exact z.1) fun A outer s H vs Q E hr hg hsp => ⟨_, body_ps hc (LD.tab o X N c e ht base n) hr hg, ?_⟩
  refine body_run (n := 1) (cr := callN l.P l.G (n + 1) f) (fun as ha => ?_) hsp
  have ep : l.P[f]? = some m.fn := by unfold LD.P; rw [List.getElem?_map, hm]; rfl
  conv => lhs; unfold callN
  rw [ep]
  dsimp only
  rw [if_pos (by rw [c3, hp]; exact ha), c4, c3, hp]
  rfl
end
theorem LD.walk {r : PySem.W.OpenLaw} {n k f : Nat} {q : Program} {loose : List Str} {XP : (Str → Option Value) → Heap → Prop} {d : DefRec} {x : Str} (l : LD) (o : l.Ok) {m : FM} {z : Nat}
    (hn : r.most = some n) (hn2 : n ≤ sizeLine) (hdf : d.params.defaults = []) (hr : Room (k + 1) callerA) (hm : l.fms[f]? = some m) (hp : m.ps = [x]) (hd : d.name = m.d.at_.1)
    (law : ∀ ns : List Int, ns.length ≤ n → callN l.P l.G (k + 1) f [.val (.list (ns.map PyData.int))] = .ret (.val (.bool true)) [.no]) :
    PySem.W.WalkO q loose XP (hookX z l.fa l.fn l.ex l.ts).says r.row.toRowW d [] (fun f vs => PySem.call f vs) := by
  refine law_walk (P := l.P) (G := l.G) (k := k + 1) (f := f) (x := x) hn hn2 hdf hr (fun w mg fa h Y N hmg => ?_) law
  obtain ⟨K, KX, c, e, ht⟩ := Y
  obtain ⟨gm, fd, bb, F⟩ := LD.law (prog := r.prog) (w := w) o KX N c e ht hm hp k
  rw [hd, gm] at hmg
  cases hmg
  exact ⟨K, fd, l.cl K, KX, bb, F⟩
end DK
end
section
set_option maxRecDepth 100000
set_option maxHeartbeats 0
namespace LK
open PySem L2 DK PySem.Spec PyProof.Rows
def top (i : Nat) : Stmt := PySem.Challenge.pw_kneadedlines_k21_lines_and_forms.main.body.getD i (.Pass ⟨0, 0, 0, 0⟩)
def dd (x n : Str) (i : Nat) : He.DefD := ⟨(x, none), n, n, defArgs (top i), defBody (top i), defScope (top i), [], []⟩
def b0 : Ss := (.cons (.ret (.blt .isint (.cons (.var 0) .nil))) .nil)
def f0 : FM := ⟨dd "is_integer" "is_integer" 10, ["term"], ["term"], [.r], [], ⟨1, 1, b0⟩⟩
def b1 : Ss := (.cons (.ret (.and (.blt .istup (.cons (.var 0) .nil)) (.blt .all (.cons (.comp (.call 0 (.cons .r (.var 1) .nil)) (.name 1) (.e (.var 0)) .nil [1]) .nil)))) .nil)
def f1 : FM := ⟨dd "is_row" "is_row" 11, ["term", "entry"], ["term"], [.r], [], ⟨1, 2, b1⟩⟩
def b2 : Ss := (.cons (.ret (.and (.blt .istup (.cons (.var 0) .nil)) (.blt .all (.cons (.comp (.call 1 (.cons .r (.var 1) .nil)) (.name 1) (.e (.var 0)) .nil [1]) .nil)))) .nil)
def f2 : FM := ⟨dd "are_pairs" "are_pairs" 12, ["term", "entry"], ["term"], [.r], [], ⟨1, 2, b2⟩⟩
def b3 : Ss := (.cons (.ret (.and (.blt .istup (.cons (.var 0) .nil)) (.blt .all (.cons (.comp (.and (.call 2 (.cons .r (.var 1) .nil)) (.cmp .eq (.blt .len (.cons (.var 1) .nil)) (.cst (.int (2))))) (.name 1) (.e (.var 0)) .nil [1]) .nil)))) .nil)
def f3 : FM := ⟨dd "is_told_map" "is_told_map" 13, ["term", "entry"], ["term"], [.r], [], ⟨1, 2, b3⟩⟩
def b4 : Ss := (.cons (.ifs (.din true [⟨#[109, 97, 112]⟩, ⟨#[114, 111, 119]⟩] (.var 0)) (.cons (.raise 4) .nil) .nil) (.cons (.ret (.dcall [⟨#[109, 97, 112]⟩, ⟨#[114, 111, 119]⟩] [3, 1] (.var 0) (.cons .r (.var 1) .nil))) .nil))
def f4 : FM := ⟨dd "has_form" "has_form" 15, ["thing", "term"], ["thing", "term"], [.r, .r], [], ⟨2, 2, b4⟩⟩
def b5 : Ss := (.cons (.set 1 true (.meth .split (.var 0) (.cons (.cst (.str ⟨#[32]⟩)) .nil))) (.cons (.fors (.name 2) (.e (.var 1)) (.cons (.ifs (.or (.cmp .eq (.var 2) (.cst (.str ⟨#[]⟩))) (.not (.blt .all (.cons (.comp (.cmp2 .le .le (.cst (.str ⟨#[33]⟩)) (.var 3) (.cst (.str ⟨#[126]⟩))) (.name 3) (.e (.var 2)) .nil [3]) .nil)))) (.cons (.ret (.cst .none)) .nil) .nil) .nil)) (.cons (.ret (.var 1)) .nil)))
def f5 : FM := ⟨dd "words_of" "words_of" 19, ["line", "words", "word", "char"], ["line"], [.r], [], ⟨1, 4, b5⟩⟩
def b6 : Ss := (.cons (.ret (.and (.cmp2 .le .le (.cst (.int (1))) (.blt .len (.cons (.var 0) .nil)) (.cst (.int (12)))) (.blt .all (.cons (.comp (.cmp .isin (.var 1) (.glob 0)) (.name 1) (.e (.var 0)) .nil [1]) .nil)))) .nil)
def f6 : FM := ⟨dd "is_name" "is_name" 20, ["word", "char"], ["word"], [.r], [], ⟨1, 2, b6⟩⟩
def b7 : Ss := (.cons (.ifs (.or (.not (.cmp2 .le .le (.cst (.int (1))) (.blt .len (.cons (.var 0) .nil)) (.cst (.int (2))))) (.not (.blt .all (.cons (.comp (.cmp .isin (.var 1) (.glob 1)) (.name 1) (.e (.var 0)) .nil [1]) .nil)))) (.cons (.ret (.cst .none)) .nil) .nil) (.cons (.ifs (.and (.cmp .eq (.blt .len (.cons (.var 0) .nil)) (.cst (.int (2)))) (.cmp .eq (.sub (.var 0) (.cst (.int (0)))) (.cst (.str ⟨#[48]⟩)))) (.cons (.ret (.cst .none)) .nil) .nil) (.cons (.ret (.blt .int (.cons (.var 0) .nil))) .nil)))
def f7 : FM := ⟨dd "number_in" "number_in" 21, ["word", "char"], ["word"], [.r], [], ⟨1, 2, b7⟩⟩
def b8 : Ss := (.cons (.ifs (.cmp .lt (.var 0) (.cst (.int (0)))) (.cons (.ret (.bin .sub (.cst (.int (0))) (.var 0))) .nil) .nil) (.cons (.ret (.var 0)) .nil))
def f8 : FM := ⟨dd "_law_number" "_law_number" 23, ["cell"], ["cell"], [.r], [], ⟨1, 1, b8⟩⟩
def b9 : Ss := (.cons (.set 1 false (.lst .nil)) (.cons (.fors (.name 2) (.e (.var 0)) (.cons (.set 3 true (.call 8 (.cons .r (.var 2) .nil))) (.cons (.ifs (.cmp .ge (.var 3) (.cst (.int (1000000000000000000)))) (.cons (.fors (.name 4) (.range (.cons (.cst (.int (60))) .nil)) (.cons (.ifs (.cmp .eq (.var 3) (.cst (.int (0)))) (.cons .brk .nil) .nil) (.cons (.expr (.mut .append 1 (.cons (.bin .mod (.blt .int (.cons (.var 3) .nil)) (.cst (.int (1000)))) .nil))) (.cons (.set 3 true (.bin .div (.var 3) (.cst (.int (1000))))) .nil)))) .nil) (.cons (.set 5 true (.bin .mod (.blt .int (.cons (.bin .add (.bin .mul (.var 3) (.cst (.int (48271)))) (.cst (.int (11)))) .nil)) (.cst (.int (2147483647))))) (.cons (.set 6 true (.bin .mod (.blt .int (.cons (.bin .add (.bin .mul (.var 5) (.cst (.int (69621)))) (.var 3)) .nil)) (.cst (.int (2147483629))))) (.cons (.expr (.mut .extend 1 (.cons (.lst (.cons (.bin .mod (.blt .int (.cons (.var 3) .nil)) (.cst (.int (1000)))) (.cons (.bin .mod (.blt .int (.cons (.var 5) .nil)) (.cst (.int (1000)))) (.cons (.bin .mod (.blt .int (.cons (.var 6) .nil)) (.cst (.int (1000)))) .nil)))) .nil))) .nil)))) .nil))) (.cons (.expr (.mut .reverse 1 .nil)) (.cons (.ret (.var 1)) .nil))))
def f9 : FM := ⟨dd "_law_draws" "_law_draws" 24, ["script", "draws", "cell", "rest", "k", "once", "twice"], ["script"], [.r], [1], ⟨1, 7, b9⟩⟩
def b10 : Ss := (.cons (.ifs (.var 0) (.cons (.ret (.mut .pop 0 .nil)) .nil) .nil) (.cons (.ret (.cst (.int (0)))) .nil))
def f10 : FM := ⟨dd "_law_next" "_law_next" 25, ["draws"], ["draws"], [.m], [0], ⟨1, 1, b10⟩⟩
def b11 : Ss := (.cons (.set 2 true (.bin .add (.bin .add (.bin .mul (.cst (.int (1000))) (.call 10 (.cons .m (.var 0) .nil))) (.call 10 (.cons .m (.var 0) .nil))) (.cst (.int (1))))) (.cons (.set 3 false (.lst .nil)) (.cons (.fors (.name 4) (.range (.cons (.var 1) .nil)) (.cons (.set 2 true (.bin .mod (.blt .int (.cons (.bin .add (.bin .mul (.var 2) (.cst (.int (48271)))) (.cst (.int (12345)))) .nil)) (.cst (.int (2147483647))))) (.cons (.expr (.mut .append 3 (.cons (.bin .mod (.blt .int (.cons (.bin .div (.var 2) (.cst (.int (7)))) .nil)) (.cst (.int (1000)))) .nil))) .nil))) (.cons (.ret (.bin .add (.var 3) (.var 0))) .nil))))
def f11 : FM := ⟨dd "_law_more" "_law_more" 26, ["draws", "many", "seed", "more", "k"], ["draws", "many"], [.m, .r], [0, 3], ⟨2, 5, b11⟩⟩
def b12 : Ss := (.cons (.ret (.sub (.var 1) (.bin .mod (.blt .int (.cons (.call 10 (.cons .m (.var 0) .nil)) .nil)) (.blt .len (.cons (.var 1) .nil))))) .nil)
def f12 : FM := ⟨dd "_law_pick" "_law_pick" 27, ["draws", "some"], ["draws", "some"], [.m, .r], [0], ⟨2, 2, b12⟩⟩
def b13 : Ss := (.cons (.set 1 true (.meth .split (.var 0) (.cons (.cst (.str ⟨#[32]⟩)) .nil))) (.cons (.fors (.name 2) (.e (.var 1)) (.cons (.ifs (.or (.cmp .eq (.var 2) (.cst (.str ⟨#[]⟩))) (.not (.blt .all (.cons (.comp (.cmp2 .le .le (.cst (.str ⟨#[33]⟩)) (.var 3) (.cst (.str ⟨#[126]⟩))) (.name 3) (.e (.var 2)) .nil [3]) .nil)))) (.cons (.ret (.cst .none)) .nil) .nil) .nil)) (.cons (.ret (.var 1)) .nil)))
def f13 : FM := ⟨dd "_law_line" "_law_line" 29, ["line", "words", "word", "sign"], ["line"], [.r], [], ⟨1, 4, b13⟩⟩
def b14 : Ss := (.cons (.ret (.ife (.cmp .isin (.var 0) (.comp (.blt .str (.cons (.var 1) .nil)) (.name 1) (.range (.cons (.cst (.int (100))) .nil)) .nil [1])) (.blt .int (.cons (.var 0) .nil)) (.cst .none))) .nil)
def f14 : FM := ⟨dd "_law_number_of" "_law_number_of" 30, ["word", "k"], ["word"], [.r], [], ⟨1, 2, b14⟩⟩
def b15 : Ss := (.cons (.ret (.and (.blt .istup (.cons (.var 0) .nil)) (.blt .all (.cons (.comp (.blt .isint (.cons (.var 1) .nil)) (.name 1) (.e (.var 0)) .nil [1]) .nil)))) .nil)
def f15 : FM := ⟨dd "_law_is_row" "_law_is_row" 31, ["term", "entry"], ["term"], [.r], [], ⟨1, 2, b15⟩⟩
def b16 : Ss := (.cons (.ret (.and (.blt .istup (.cons (.var 0) .nil)) (.blt .all (.cons (.comp (.call 15 (.cons .r (.var 1) .nil)) (.name 1) (.e (.var 0)) .nil [1]) .nil)))) .nil)
def f16 : FM := ⟨dd "_law_are_pairs" "_law_are_pairs" 32, ["term", "entry"], ["term"], [.r], [], ⟨1, 2, b16⟩⟩
def b17 : Ss := (.cons (.ifs (.cmp .eq (.var 0) (.cst (.str ⟨#[114, 111, 119]⟩))) (.cons (.ret (.call 15 (.cons .r (.var 1) .nil))) .nil) .nil) (.cons (.ret (.and (.blt .istup (.cons (.var 1) .nil)) (.blt .all (.cons (.comp (.and (.call 16 (.cons .r (.var 2) .nil)) (.cmp .eq (.blt .len (.cons (.var 2) .nil)) (.cst (.int (2))))) (.name 2) (.e (.var 1)) .nil [2]) .nil)))) .nil))
def f17 : FM := ⟨dd "_law_due" "_law_due" 33, ["thing", "term", "entry"], ["thing", "term"], [.r, .r], [], ⟨2, 3, b17⟩⟩
def b18 : Ss := (.cons (.ifs (.or (.not (.blt .istup (.cons (.var 1) .nil))) (.cmp .eq (.bin .mod (.blt .int (.cons (.call 10 (.cons .m (.var 0) .nil)) .nil)) (.cst (.int (6)))) (.cst (.int (0))))) (.cons (.ret (.call 12 (.cons .m (.var 0) (.cons .r (.lst (.cons (.cst .none) (.cons (.cst (.str ⟨#[97, 100, 97]⟩)) (.cons (.cst (.str ⟨#[]⟩)) (.cons (.cst (.int (5))) (.cons (.tup .nil) (.cons (.tup (.cons (.cst (.int (1))) .nil)) (.cons (.tup (.cons (.tup .nil) .nil)) (.cons (.tup (.cons (.cst (.str ⟨#[97]⟩)) .nil)) (.cons (.var 1) .nil)))))))))) .nil)))) .nil) .nil) (.cons (.ifs (.cmp .eq (.var 1) (.tup .nil)) (.cons (.ret (.call 12 (.cons .m (.var 0) (.cons .r (.lst (.cons (.tup (.cons (.cst (.int (0))) .nil)) (.cons (.tup (.cons (.cst (.str ⟨#[]⟩)) .nil)) (.cons (.tup (.cons (.tup .nil) .nil)) (.cons (.cst .none) .nil))))) .nil)))) .nil) .nil) (.cons (.set 2 true (.bin .mod (.blt .int (.cons (.call 10 (.cons .m (.var 0) .nil)) .nil)) (.blt .len (.cons (.var 1) .nil)))) (.cons (.set 3 true (.bin .mod (.blt .int (.cons (.call 10 (.cons .m (.var 0) .nil)) .nil)) (.cst (.int (5))))) (.cons (.ifs (.cmp .eq (.var 3) (.cst (.int (0)))) (.cons (.ret (.bin .add (.slc .hi (.var 1) (.var 2)) (.slc .lo (.var 1) (.bin .add (.var 2) (.cst (.int (1))))))) .nil) .nil) (.cons (.ret (.ife (.cmp .eq (.var 3) (.cst (.int (1)))) (.bin .add (.var 1) (.slc2 (.var 1) (.var 2) (.bin .add (.var 2) (.cst (.int (1)))))) (.bin .add (.bin .add (.slc .hi (.var 1) (.var 2)) (.tup (.cons (.call 18 (.cons .m (.var 0) (.cons .r (.sub (.var 1) (.var 2)) .nil))) .nil))) (.slc .lo (.var 1) (.bin .add (.var 2) (.cst (.int (1)))))))) .nil))))))
def f18 : FM := ⟨dd "_law_spoilt" "_law_spoilt" 34, ["draws", "term", "at", "kind"], ["draws", "term"], [.m, .r], [0], ⟨2, 4, b18⟩⟩
def b19 : Ss := (.cons (.set 1 false (.call 9 (.cons .r (.var 0) .nil))) (.cons (.set 1 false (.call 11 (.cons .m (.var 1) (.cons .r (.cst (.int (200))) .nil)))) (.cons (.ifs (.cmp .ne (.lst (.cons (.call 5 (.cons .r (.cst (.str ⟨#[97, 32, 98]⟩)) .nil)) (.cons (.call 6 (.cons .r (.cst (.str ⟨#[97, 98, 99, 100, 101, 102, 103, 104, 105, 106, 107, 108]⟩)) .nil)) (.cons (.call 6 (.cons .r (.cst (.str ⟨#[97, 98, 99, 100, 101, 102, 103, 104, 105, 106, 107, 108, 109]⟩)) .nil)) (.cons (.call 7 (.cons .r (.cst (.str ⟨#[48, 55]⟩)) .nil)) (.cons (.call 7 (.cons .r (.cst (.str ⟨#[57, 57]⟩)) .nil)) .nil)))))) (.lst (.cons (.lst (.cons (.cst (.str ⟨#[97]⟩)) (.cons (.cst (.str ⟨#[98]⟩)) .nil))) (.cons (.cst (.bool true)) (.cons (.cst (.bool false)) (.cons (.cst .none) (.cons (.cst (.int (99))) .nil))))))) (.cons (.ret (.cst (.bool false))) .nil) .nil) (.cons (.fors (.name 2) (.range (.cons (.cst (.int (6))) .nil)) (.cons (.set 6 true (.meth .join (.cst (.str ⟨#[]⟩)) (.cons (.comp (.call 12 (.cons .m (.var 1) (.cons .r (.lst (.cons (.cst (.str ⟨#[97]⟩)) (.cons (.cst (.str ⟨#[98]⟩)) (.cons (.cst (.str ⟨#[32]⟩)) (.cons (.cst (.str ⟨#[48]⟩)) (.cons (.cst (.str ⟨#[55]⟩)) (.cons (.cst (.str ⟨#[126]⟩)) (.cons (.cst (.str ⟨#[33]⟩)) (.cons (.cst (.str ⟨#[40]⟩)) (.cons (.cst (.str ⟨#[65]⟩)) (.cons (.cst (.str ⟨#[9]⟩)) (.cons (.cst (.str ⟨#[45]⟩)) (.cons (.cst (.str ⟨#[122]⟩)) (.cons (.cst (.str ⟨#[32, 32]⟩)) .nil)))))))))))))) .nil))) (.name 11) (.range (.cons (.bin .mod (.blt .int (.cons (.call 10 (.cons .m (.var 1) .nil)) .nil)) (.cst (.int (9)))) .nil)) .nil [11]) .nil))) (.cons (.ifs (.cmp .ne (.blt .repr (.cons (.call 5 (.cons .r (.var 6) .nil)) .nil)) (.blt .repr (.cons (.call 13 (.cons .r (.var 6) .nil)) .nil))) (.cons (.ret (.cst (.bool false))) .nil) .nil) (.cons (.set 7 true (.meth .join (.cst (.str ⟨#[]⟩)) (.cons (.comp (.call 12 (.cons .m (.var 1) (.cons .r (.lst (.cons (.cst (.str ⟨#[97]⟩)) (.cons (.cst (.str ⟨#[107]⟩)) (.cons (.cst (.str ⟨#[122]⟩)) (.cons (.cst (.str ⟨#[57]⟩)) (.cons (.cst (.str ⟨#[48]⟩)) (.cons (.cst (.str ⟨#[49]⟩)) (.cons (.cst (.str ⟨#[]⟩)) (.cons (.cst (.str ⟨#[]⟩)) (.cons (.cst (.str ⟨#[66]⟩)) .nil)))))))))) .nil))) (.name 11) (.range (.cons (.bin .mod (.blt .int (.cons (.call 10 (.cons .m (.var 1) .nil)) .nil)) (.cst (.int (15)))) .nil)) .nil [11]) .nil))) (.cons (.set 8 true (.and (.cmp2 .le .le (.cst (.int (1))) (.blt .len (.cons (.var 7) .nil)) (.cst (.int (12)))) (.blt .all (.cons (.comp (.cmp .isin (.var 13) (.cst (.str ⟨#[97, 98, 99, 100, 101, 102, 103, 104, 105, 106, 107, 108, 109, 110, 111, 112, 113, 114, 115, 116, 117, 118, 119, 120, 121, 122]⟩))) (.name 13) (.e (.var 7)) .nil [13]) .nil)))) (.cons (.ifs (.cmp .ne (.blt .repr (.cons (.lst (.cons (.call 6 (.cons .r (.var 7) .nil)) (.cons (.call 7 (.cons .r (.var 7) .nil)) .nil))) .nil)) (.blt .repr (.cons (.lst (.cons (.var 8) (.cons (.call 14 (.cons .r (.var 7) .nil)) .nil))) .nil))) (.cons (.ret (.cst (.bool false))) .nil) .nil) .nil)))))) (.cons (.ifs (.cmp .ne (.comp (.blt .repr (.cons (.call 7 (.cons .r (.var 7) .nil)) .nil)) (.name 7) (.e (.lst (.cons (.cst (.str ⟨#[]⟩)) (.cons (.cst (.str ⟨#[48]⟩)) (.cons (.cst (.str ⟨#[48, 48]⟩)) (.cons (.cst (.str ⟨#[49, 48, 48]⟩)) (.cons (.cst (.str ⟨#[45, 49]⟩)) (.cons (.cst (.str ⟨#[53]⟩)) (.cons (.cst (.str ⟨#[43, 53]⟩)) (.cons (.cst (.str ⟨#[32, 53]⟩)) (.cons (.cst (.str ⟨#[53, 32]⟩)) .nil))))))))))) .nil [7]) (.lst (.cons (.cst (.str ⟨#[78, 111, 110, 101]⟩)) (.cons (.cst (.str ⟨#[48]⟩)) (.cons (.cst (.str ⟨#[78, 111, 110, 101]⟩)) (.cons (.cst (.str ⟨#[78, 111, 110, 101]⟩)) (.cons (.cst (.str ⟨#[78, 111, 110, 101]⟩)) (.cons (.cst (.str ⟨#[53]⟩)) (.cons (.cst (.str ⟨#[78, 111, 110, 101]⟩)) (.cons (.cst (.str ⟨#[78, 111, 110, 101]⟩)) (.cons (.cst (.str ⟨#[78, 111, 110, 101]⟩)) .nil))))))))))) (.cons (.ret (.cst (.bool false))) .nil) .nil) (.cons (.set 3 true (.lst (.cons (.tup (.cons (.tup (.cons (.tup (.cons (.cst (.int (0))) (.cons (.cst (.int (1))) .nil))) (.cons (.tup (.cons (.cst (.int (1))) (.cons (.cst (.int (2))) .nil))) .nil))) (.cons (.tup (.cons (.tup (.cons (.cst (.int (1))) (.cons (.cst (.int (1))) .nil))) (.cons (.tup (.cons (.cst (.int (0))) (.cons (.cst (.int (1))) .nil))) .nil))) .nil))) (.cons (.tup (.cons (.tup (.cons (.cst (.int (1))) (.cons (.cst (.int (2))) .nil))) (.cons (.tup (.cons (.cst (.int (3))) .nil)) .nil))) (.cons (.tup (.cons (.tup (.cons (.tup (.cons (.cst (.int (1))) .nil)) (.cons (.tup (.cons (.cst (.int (2))) .nil)) (.cons (.tup (.cons (.cst (.int (3))) .nil)) .nil)))) .nil)) (.cons (.tup (.cons (.cst (.int (0))) (.cons (.cst (.int (1))) (.cons (.cst (.int (1))) .nil)))) (.cons (.tup (.cons (.tup .nil) (.cons (.tup (.cons (.tup (.cons (.cst (.int (1))) .nil)) .nil)) .nil))) (.cons (.tup .nil) .nil)))))))) (.cons (.fors (.name 4) (.e (.bin .add (.bin .add (.var 3) (.comp (.call 18 (.cons .m (.var 1) (.cons .r (.call 12 (.cons .m (.var 1) (.cons .r (.var 3) .nil))) .nil))) (.name 2) (.range (.cons (.cst (.int (12))) .nil)) .nil [2])) (.lst (.cons (.tup .nil) (.cons (.cst .none) (.cons (.cst (.str ⟨#[]⟩)) (.cons (.cst (.int (0))) .nil))))))) (.cons (.set 9 true (.lst (.cons (.cst (.str ⟨#[109, 97, 112]⟩)) (.cons (.cst (.str ⟨#[114, 111, 119]⟩)) .nil)))) (.cons (.ifs (.cmp .ne (.comp (.call 4 (.cons .r (.var 12) (.cons .r (.var 4) .nil))) (.name 12) (.e (.var 9)) .nil [12]) (.comp (.call 17 (.cons .r (.var 12) (.cons .r (.var 4) .nil))) (.name 12) (.e (.var 9)) .nil [12])) (.cons (.ret (.cst (.bool false))) .nil) .nil) .nil))) (.cons (.fors (.name 5) (.e (.lst (.cons (.cst (.str ⟨#[]⟩)) (.cons (.cst (.str ⟨#[70, 111, 114, 109]⟩)) (.cons (.cst (.str ⟨#[116, 101, 114, 109]⟩)) .nil))))) (.cons (.tryk (.cons (.expr (.call 4 (.cons .r (.var 5) (.cons .r (.tup .nil) .nil)))) (.cons (.ret (.cst (.bool false))) .nil)) 10 [⟨#[33, 109, 97, 112]⟩, ⟨#[33, 99, 121, 99, 108, 101]⟩, ⟨#[33, 116, 97, 98, 108, 101]⟩, ⟨#[33, 112, 97, 112, 101, 114]⟩, ⟨#[33, 110, 117, 109, 98, 101, 114]⟩, ⟨#[33, 110, 111, 110, 101]⟩, ⟨#[33, 108, 97, 114, 103, 101]⟩] (some (⟨#[33, 110, 117, 109, 98, 101, 114]⟩, false))) .nil)) (.cons (.ret (.cst (.bool true))) .nil)))))))))
def f19 : FM := ⟨dd "law" "law" 35, ["script", "draws", "turn", "terms", "term", "wrong", "line", "word", "small", "kinds", "error", "at", "thing", "sign"], ["script"], [.r], [1], ⟨1, 14, b19⟩⟩
def kd : He.DefD := dd "_law_kind" "_law_kind" 28
def l : LD := ⟨[f0, f1, f2, f3, f4, f5, f6, f7, f8, f9, f10, f11, f12, f13, f14, f15, f16, f17, f18, f19], kd, ["error", "names", "found"], "error", ["NotMap", "NotCycle", "NotTable", "NotPaper", "BadNumber", "NoAnswer", "TooLarge"], "MapError", ["!map", "!cycle", "!table", "!paper", "!number", "!none", "!large"], ["isinstance", "len", "all", "tuple", "int", "repr", "str", "range"], [], [("SMALL", "abcdefghijklmnopqrstuvwxyz"), ("FIGURES", "0123456789")], [("FORMS", [("map", "is_told_map"), ("row", "is_row")])]⟩
end LK
end
section
set_option maxRecDepth 100000
namespace LK
open PySem L2 DK PySem.Spec PyProof.Rows
theorem ss_next {C : Nat → List Slot → CRes} {G : List D} {s : S} {r : Ss} {g g' : Gam} (h : evalS C G s g = .next g') : evalSs C G (.cons s r) g = evalSs C G r g' := by
  rw [evalSs, seqF, h]
theorem callN_by {P : List Fn} {G : List D} {n f : Nat} {as : List Slot} {fn : Fn} {w : DK.Flow} {c : CRes} (e : P[f]? = some fn) (hl : as.length = fn.np) (h : evalSs (callN P G n) G fn.body (as ++ List.replicate (fn.ns - fn.np) .no) = w) (hc : DK.finish as w = c) : callN P G (n + 1) f as = c := by
  rw [callN, e, ← hc, ← h]
  exact if_pos hl
theorem log_lt {n m : Nat} (h : n < 2 ^ m) (hm : 0 < m) : n.log2 < m := by
  by_cases h0 : n = 0
  · subst h0; simpa using hm
  · exact (Nat.log2_lt h0).2 h
theorem compF_map {α : Type} {own : List Nat} {set : D → Gam → Option Gam} {cs : Ev Bool} {elt : Ev D} {g : Gam} (e : α → D) (g1 : α → Gam) (K : α → Bool) (F : α → D) : ∀ (xs : List α) (acc : List D), (∀ x ∈ xs, set (e x) g = some (g1 x) ∧ cs (g1 x) = .ok (K x) (g1 x) ∧ (K x = true → elt (g1 x) = .ok (F x) (g1 x)) ∧ wipeG (g1 x) own = g) → compF own set cs elt (xs.map e) acc g = .ok (acc ++ (xs.filter K).map F) g := by
  intro xs
  induction xs with
  | nil => intro acc _; simp [compF, pur]
  | cons x xs ih =>
    intro acc h
    obtain ⟨h1, h2, h3, h4⟩ := h x (List.mem_cons_self ..)
    have ih := fun acc => ih acc (fun y hy => h y (List.mem_cons_of_mem _ hy))
    rw [List.map_cons, compF]
    simp only [h1, h2]
    cases hk : K x with
    | true =>
      simp only [h3 hk, h4, ih]
      simp [hk]
    | false =>
      simp only [h4, ih]
      simp [hk]
theorem rangeL_eq : ∀ (n : Nat) (lo : Nat), rangeL (lo : Int) n = (List.range' lo n).map fun k => PyData.int (k : Nat) := by
  intro n
  induction n with
  | zero => intro lo; rfl
  | succ n ih =>
    intro lo
    rw [rangeL, List.range'_succ, List.map_cons, ← ih (lo + 1)]
    rfl
abbrev nD (k : Nat) : D := .int (k : Int)
theorem rangeL_map (n : Nat) : rangeL 0 n = (List.range n).map nD := by
  have := rangeL_eq n 0
  rw [List.range_eq_range']
  exact this
theorem range_of (n : Nat) (h : n ≤ 1000000) : rangeD [.int (n : Int)] = some ((List.range n).map nD) := by
  have h1 : small (n : Int) = true := by
    unfold small
    rw [Bool.and_eq_true]
    constructor <;> (rw [decide_eq_true_iff]; omega)
  rw [← rangeL_map, rangeD, if_pos h1, Int.toNat_natCast]
theorem ite_ok {α : Type} {n m : Nat} {a b : α} (h : n < m) : (if n < m then a else b) = a := if_pos h
theorem comp_ok {C : Nat → List Slot → CRes} {G : List D} {elt : E} {tg : Tg} {it : I} {cs : Es} {own : List Nat} {g g2 : Gam} {xs acc : List D} (h1 : evalI C G it g = .ok (xs, []) g) (h2 : xs.length < DK.lim) (h3 : compF own (assignT tg) (evalCs C G cs) (bnd (evalE C G elt) DK.freeze) xs [] (wipeG g own) = .ok acc g2) : evalE C G (.comp elt tg it cs own) g = .ok (.own acc) (restoreG g g2 own) := by
  unfold evalE
  unfold bnd at h3 ⊢
  rw [h1]
  refine (ite_ok h2).trans ?_
  unfold lockG
  dsimp only
  rw [h3]
  rfl
theorem lim_of {n : Nat} (h : n ≤ 1000000) : n < DK.lim := by unfold DK.lim; omega
theorem comp_map {C : Nat → List Slot → CRes} {G : List D} {elt : E} {tg : Tg} {it : I} {cs : Es} {own : List Nat} {g g0 : Gam} {α : Type} (xs : List α) (e : α → D) (g1 : α → Gam) (K : α → Bool) (F : α → D) (h1 : evalI C G it g = .ok (xs.map e, []) g) (h2 : xs.length ≤ 1000000) (hw : wipeG g own = g0) (hr : restoreG g g0 own = g)
    (h : ∀ x ∈ xs, assignT tg (e x) g0 = some (g1 x) ∧ evalCs C G cs (g1 x) = .ok (K x) (g1 x) ∧ (K x = true → bnd (evalE C G elt) DK.freeze (g1 x) = .ok (F x) (g1 x)) ∧ wipeG (g1 x) own = g0) : evalE C G (.comp elt tg it cs own) g = .ok (.own ((xs.filter K).map F)) g := by
  have hc := compF_map (own := own) (set := assignT tg) (cs := evalCs C G cs) (elt := bnd (evalE C G elt) DK.freeze) (g := g0) e g1 K F xs [] h
  rw [← hw, List.nil_append] at hc
  rw [comp_ok h1 (by rw [List.length_map]; exact lim_of h2) hc, hw, hr]
theorem filter_tt {α : Type} (xs : List α) : xs.filter (fun _ => true) = xs := List.filter_eq_self.2 fun _ _ => rfl
theorem comp_all {C : Nat → List Slot → CRes} {G : List D} {elt : E} {tg : Tg} {it : I} {own : List Nat} {g g0 : Gam} {α : Type} (xs : List α) (e : α → D) (g1 : α → Gam) (F : α → D) (h1 : evalI C G it g = .ok (xs.map e, []) g) (h2 : xs.length ≤ 1000000) (hw : wipeG g own = g0) (hr : restoreG g g0 own = g)
    (h : ∀ x ∈ xs, assignT tg (e x) g0 = some (g1 x) ∧ bnd (evalE C G elt) DK.freeze (g1 x) = .ok (F x) (g1 x) ∧ wipeG (g1 x) own = g0) : evalE C G (.comp elt tg it .nil own) g = .ok (.own (xs.map F)) g := by
  have := comp_map (cs := .nil) xs e g1 (fun _ => true) F h1 h2 hw hr (fun x hx => ⟨(h x hx).1, rfl, fun _ => (h x hx).2.1, (h x hx).2.2⟩)
  rwa [filter_tt] at this
theorem for_run {α σ : Type} {set : D → Gam → Option Gam} {b : Gam → DK.Flow} (e : α → D) (g : σ → Gam) (step : σ → α → σ) : ∀ (xs : List α) (s : σ), (∀ pre x post, xs = pre ++ x :: post → ∃ g1, set (e x) (g (pre.foldl step s)) = some g1 ∧ b g1 = .next (g (step (pre.foldl step s) x))) → forF set b (unlock [] []) (xs.map e) (g s) = .next (g (xs.foldl step s)) := by
  intro xs
  induction xs with
  | nil => intro s _; rfl
  | cons x xs ih =>
    intro s h
    obtain ⟨g1, h1, h2⟩ := h [] x xs rfl
    rw [List.foldl_nil] at h1 h2
    have ih := ih (step s x) (fun pre y post he => by
      have := h (x :: pre) y post (by rw [he]; rfl)
      rwa [List.foldl_cons] at this)
    rw [List.map_cons, forF]
    simp only [h1, h2, ih]
    rfl
theorem for_ok {C : Nat → List Slot → CRes} {G : List D} {t : Tg} {it : I} {b : Ss} {g : Gam} {xs : List D} {w : DK.Flow} (h1 : evalI C G it g = .ok (xs, []) g) (h2 : forF (assignT t) (evalSs C G b) (unlock [] []) xs g = w) : evalS C G (.fors t it b) g = w := by
  unfold evalS runE
  rw [h1]
  exact h2
theorem for_inv {α σ : Type} {set : D → Gam → Option Gam} {b : Gam → DK.Flow} (Inv : σ → Prop) (e : α → D) (g : σ → Gam) (step : σ → α → σ) : ∀ (xs : List α) (s : σ), Inv s → (∀ s, ∀ x ∈ xs, Inv s → ∃ g1, set (e x) (g s) = some g1 ∧ b g1 = .next (g (step s x)) ∧ Inv (step s x)) → forF set b (unlock [] []) (xs.map e) (g s) = .next (g (xs.foldl step s)) ∧ Inv (xs.foldl step s) := by
  intro xs
  induction xs with
  | nil => intro s h0 _; exact ⟨rfl, h0⟩
  | cons x xs ih =>
    intro s h0 h
    obtain ⟨g1, h1, h2, h3⟩ := h s x (List.mem_cons_self ..) h0
    have ih := ih (step s x) h3 (fun s y hy => h s y (List.mem_cons_of_mem _ hy))
    rw [List.map_cons, forF]
    simp only [h1, h2]
    exact ih
def oS : Option D → Slot
  | none => .no
  | some d => .val d
theorem range_d {C : Nat → List Slot → CRes} {G : List D} {g g' : Gam} {as : Es} {vs : List EV} {ds xs : List D} (h : evalPs C G as g = .ok vs g') (h2 : contents vs g' = .ok ds g') (h3 : rangeD ds = some xs) : evalI C G (.range as) g = .ok (xs, []) g' := by
  unfold evalI bnd
  rw [h]; dsimp only
  rw [h2]; dsimp only
  rw [h3]; rfl
theorem range_e {C : Nat → List Slot → CRes} {G : List D} {g g' : Gam} {as : Es} (n : Nat) (h : evalPs C G as g = .ok [.val (nD n)] g') (hn : n ≤ 1000000) : evalI C G (.range as) g = .ok ((List.range n).map nD, []) g' :=
  range_d h rfl (range_of n hn)
theorem range_len {C : Nat → List Slot → CRes} {G : List D} {g : Gam} {i : Nat} {xs : List D} (h : g[i]? = some (.val (.tuple xs))) (hl : xs.length ≤ 1000000) : evalI C G (.range (.cons (.blt .len (.cons (.var i) .nil)) .nil)) g = .ok ((List.range xs.length).map nD, []) g := by
  refine range_e xs.length ?_ hl
  simp [evalSs, evalS, seqF, evalE, evalEs, evalPs, evalAs, contents, content, runE, bnd, opt, pur, bltD, binD, freeze, store, argOf, doCall, slotsOf, Arg.slot, refsOf, noTwice, giveBack, retF, setF, lim, h]
theorem small_of (n : Nat) (h : n ≤ 1000000) : small (n : Int) = true := by
  unfold small
  rw [Bool.and_eq_true]
  constructor <;> (rw [decide_eq_true_iff]; omega)
theorem ix_of (n k : Nat) (h : k < n) : ixOf (k : Int) n = some k := by
  unfold ixOf
  rw [if_pos (by omega), if_pos (by omega)]; rfl
theorem sub_list (xs : List D) (k : Nat) (h : k < xs.length) (h2 : k ≤ 1000000) : subD (.list xs) (nD k) = some (xs[k]) := by
  rw [subD, if_pos (small_of k h2), ix_of _ _ h]
  exact List.getElem?_eq_getElem h
theorem sub_tup (xs : List D) (k : Nat) (h : k < xs.length) (h2 : k ≤ 1000000) : subD (.tuple xs) (nD k) = some (xs[k]) := by
  rw [subD, if_pos (small_of k h2), ix_of _ _ h]
  exact List.getElem?_eq_getElem h
theorem boolL_tt {α : Type} : ∀ (xs : List α), boolL (xs.map fun _ => PyData.bool true) = some (xs.map fun _ => true) := by
  intro xs
  induction xs with
  | nil => rfl
  | cons x xs ih => rw [List.map_cons, boolL, ih]; rfl
theorem all_tt {α : Type} (xs : List α) : bltD .all [.list (xs.map fun _ => PyData.bool true)] = some (.val (.bool true)) := by
  rw [bltD, boolL_tt, Option.map_some]
  simp
theorem all_e {C : Nat → List Slot → CRes} {G : List D} {ce : E} {g : Gam} {ds : List D} (h1 : evalE C G ce g = .ok (.own ds) g) {b : Bool} (h2 : bltD .all [.list ds] = some (.val (.bool b))) : evalE C G (.blt .all (.cons ce .nil)) g = .ok (.val (.bool b)) g := by
  simp [evalSs, evalS, seqF, evalE, evalEs, evalPs, evalAs, contents, content, runE, bnd, opt, pur, bltD, binD, freeze, store, argOf, doCall, slotsOf, Arg.slot, refsOf, noTwice, giveBack, retF, setF, lim, h1]
  rw [bltD] at h2
  rw [h2]; rfl
theorem for_range' {set : D → Gam → Option Gam} {b : Gam → DK.Flow} (g : Nat → Option D → Gam) : ∀ (m lo : Nat) (o : Option D), (∀ k, lo ≤ k → k < lo + m → ∀ o, ∃ g1, set (nD k) (g k o) = some g1 ∧ b g1 = .next (g (k + 1) (some (nD k)))) → ∃ o', forF set b (unlock [] []) ((List.range' lo m).map nD) (g lo o) = .next (g (lo + m) o') := by
  intro m
  induction m with
  | zero => intro lo o _; exact ⟨o, rfl⟩
  | succ m ih =>
    intro lo o h
    obtain ⟨g1, h1, h2⟩ := h lo (Nat.le_refl _) (by omega) o
    obtain ⟨o', ih⟩ := ih (lo + 1) (some (nD lo)) (fun k hk hk2 o => h k (by omega) (by omega) o)
    refine ⟨o', ?_⟩
    rw [List.range'_succ, List.map_cons, forF]
    simp only [h1, h2, ih]
    rw [show lo + 1 + m = lo + (m + 1) by omega]
theorem for_range {set : D → Gam → Option Gam} {b : Gam → DK.Flow} (g : Nat → Option D → Gam) (n : Nat) (h : ∀ k, k < n → ∀ o, ∃ g1, set (nD k) (g k o) = some g1 ∧ b g1 = .next (g (k + 1) (some (nD k)))) : ∃ o', forF set b (unlock [] []) ((List.range n).map nD) (g 0 none) = .next (g n o') := by
  have := for_range' g n 0 none (fun k _ hk o => h k (by omega) o)
  rwa [← List.range_eq_range', Nat.zero_add] at this
theorem for_list' {α : Type} {set : D → Gam → Option Gam} {b : Gam → DK.Flow} (e : α → D) (g : List α → Option D → Gam) : ∀ (ys pre : List α) (o : Option D), (∀ p x q, pre ++ ys = p ++ x :: q → ∀ o, ∃ g1, set (e x) (g p o) = some g1 ∧ b g1 = .next (g (p ++ [x]) (some (e x)))) → ∃ o', forF set b (unlock [] []) (ys.map e) (g pre o) = .next (g (pre ++ ys) o') := by
  intro ys
  induction ys with
  | nil => intro pre o _; exact ⟨o, by rw [List.append_nil]; rfl⟩
  | cons y ys ih =>
    intro pre o h
    obtain ⟨g1, h1, h2⟩ := h pre y ys rfl o
    obtain ⟨o', ih⟩ := ih (pre ++ [y]) (some (e y)) (fun p x q he o => h p x q (by rw [← he]; simp) o)
    refine ⟨o', ?_⟩
    rw [List.map_cons, forF]
    simp only [h1, h2, ih]
    simp
theorem for_list {α : Type} {set : D → Gam → Option Gam} {b : Gam → DK.Flow} (e : α → D) (g : List α → Option D → Gam) (xs : List α) (h : ∀ p x q, xs = p ++ x :: q → ∀ o, ∃ g1, set (e x) (g p o) = some g1 ∧ b g1 = .next (g (p ++ [x]) (some (e x)))) : ∃ o', forF set b (unlock [] []) (xs.map e) (g [] none) = .next (g xs o') := for_list' e g xs [] none h
theorem last_sub (xs : List D) (a : D) (h : xs.length ≤ 1000000) : subD (.list (xs ++ [a])) (.int (-1)) = some a := by
  have e : ixOf (-1) (xs ++ [a]).length = some xs.length := by
    unfold ixOf
    rw [if_neg (by decide), if_pos (by simp; omega), List.length_append]
    simp
    omega
  rw [subD, if_pos (by decide), e]
  simp
theorem blt1 {C : Nat → List Slot → CRes} {G : List D} {e : E} {g : Gam} {v r : EV} {d : D} {b : Blt} (h1 : evalE C G e g = .ok v g) (h2 : content v g = .ok d g) (h3 : bltD b [d] = some r) : evalE C G (.blt b (.cons e .nil)) g = .ok r g := by
  have hp : evalPs C G (.cons e .nil) g = .ok [v] g := by
    rw [evalPs, evalPs]; unfold bnd pur; rw [h1]
  have hc : contents [v] g = .ok [d] g := by
    rw [contents, contents]; unfold bnd pur; rw [h2]
  rw [evalE]
  unfold bnd
  rw [hp]; dsimp only
  rw [hc]; dsimp only
  rw [h3]; rfl

theorem ss_exc {C : Nat → List Slot → CRes} {G : List D} {s : S} {r : Ss} {g g' : Gam} {c : Nat} (h : evalS C G s g = .exc c g') : evalSs C G (.cons s r) g = .exc c g' := by
  rw [evalSs, seqF, h]
theorem for_rel {α : Type} {set : D → Gam → Option Gam} {b : Gam → DK.Flow} (e : α → D) (Inv : Nat → Gam → Prop) (Fin : Gam → Prop) (N : Nat) : ∀ (xs : List α) (k : Nat) (g : Gam), k + xs.length = N → Inv k g → (∀ k x g, k < N → x ∈ xs → Inv k g → ∃ g1 g2, set (e x) g = some g1 ∧ ((b g1 = .next g2 ∧ Inv (k + 1) g2) ∨ (b g1 = .brk g2 ∧ Fin g2))) → (∀ g, Inv N g → Fin g) → ∃ g', forF set b (unlock [] []) (xs.map e) g = .next g' ∧ Fin g' := by
  intro xs
  induction xs with
  | nil => intro k g hN h0 _ hf; exact ⟨g, rfl, hf g (by rw [← hN]; exact h0)⟩
  | cons x xs ih =>
    intro k g hN h0 h hf
    rw [List.length_cons] at hN
    obtain ⟨g1, g2, h1, h2 | h2⟩ := h k x g (by omega) (List.mem_cons_self ..) h0
    · obtain ⟨g', h3, h4⟩ := ih (k + 1) g2 (by omega) h2.2 (fun k y g hk hy hi => h k y g hk (List.mem_cons_of_mem _ hy) hi) hf
      refine ⟨g', ?_, h4⟩
      rw [List.map_cons, forF]
      simp only [h1, h2.1, h3]
    · refine ⟨g2, ?_, h2.2⟩
      rw [List.map_cons, forF]
      simp only [h1, h2.1]
      rfl
abbrev iL (zs : List Int) : List D := zs.map PyData.int
def B3 (zs : List Int) : Prop := ∀ z ∈ zs, 0 ≤ z ∧ z < 1000
theorem B3.snoc {zs : List Int} (h : B3 zs) (v : Int) : B3 (zs ++ [v % 1000]) := by
  intro z hz
  rcases List.mem_append.1 hz with hz | hz
  · exact h z hz
  · rw [List.mem_singleton] at hz; subst hz; omega
theorem num_ok (n : Nat) (i : Int) : callN l.P l.G (n + 1) 8 [.val (.int i)] = .ret (.val (.int (if i < 0 then -i else i))) [.no] := by
  have hb : evalSs (callN l.P l.G n) l.G b8 [.val (.int i)] = .ret (.val (.int (if i < 0 then -i else i))) [.val (.int i)] := by
    by_cases h : i < 0 <;> simp [evalSs, evalS, seqF, evalE, evalEs, evalPs, evalAs, contents, content, runE, bnd, opt, pur, bltD, binD, freeze, store, argOf, doCall, slotsOf, Arg.slot, refsOf, noTwice, giveBack, retF, setF, lim, b8, testE, cmpD, truth, h]
  exact callN_by (fn := f8.fn) rfl rfl hb rfl
abbrev dwI : Ss := (.cons (.ifs (.cmp .eq (.var 3) (.cst (.int (0)))) (.cons .brk .nil) .nil) (.cons (.expr (.mut .append 1 (.cons (.bin .mod (.blt .int (.cons (.var 3) .nil)) (.cst (.int (1000)))) .nil))) (.cons (.set 3 true (.bin .div (.var 3) (.cst (.int (1000))))) .nil)))
theorem l2_1000 : Nat.log2 1000 < 9000 := by decide
theorem dw_in (C : Nat → List Slot → CRes) (T c : D) (xs : List D) (r : Int) (k : D) (s5 s6 : Slot) (hx : xs.length < 16777216) (h0 : r ≠ 0) : evalSs C l.G dwI [.val T, .own .mine xs, .val c, .val (.int r), .val k, s5, s6] = .next [.val T, .own .mine (xs ++ [.int (r % 1000)]), .val c, .val (.int (r / 1000)), .val k, s5, s6] := by
  simp [evalSs, evalS, seqF, evalE, evalEs, evalPs, evalAs, contents, content, runE, bnd, opt, pur, bltD, binD, freeze, store, argOf, doCall, slotsOf, Arg.slot, refsOf, noTwice, giveBack, retF, setF, lim, testE, cmpD, truth, shapedD, SeqAt.shaped, PyData.eqv, PyData.canLay0, PyData.depth, h0, hx, doMut, mutD, l2_1000]
theorem dw_out (C : Nat → List Slot → CRes) (T c : D) (xs : List D) (k : D) (s5 s6 : Slot) : evalSs C l.G dwI [.val T, .own .mine xs, .val c, .val (.int 0), .val k, s5, s6] = .brk [.val T, .own .mine xs, .val c, .val (.int 0), .val k, s5, s6] := by
  simp [evalSs, evalS, seqF, evalE, evalEs, evalPs, evalAs, contents, content, runE, bnd, opt, pur, bltD, binD, freeze, store, argOf, doCall, slotsOf, Arg.slot, refsOf, noTwice, giveBack, retF, setF, lim, testE, cmpD, truth, shapedD, SeqAt.shaped, PyData.eqv, PyData.canLay0, PyData.depth]
theorem range60 (C : Nat → List Slot → CRes) (g : Gam) : evalI C l.G (.range (.cons (.cst (.int (60))) .nil)) g = .ok ((List.range 60).map nD, []) g := range_e 60 rfl (by decide)
theorem dw_for (C : Nat → List Slot → CRes) (T c : D) (zs : List Int) (r : Int) (o4 : Option D) (s5 s6 : Slot) (hz : B3 zs) (hl : zs.length ≤ 10000) : ∃ zs' r' o, evalS C l.G (.fors (.name 4) (.range (.cons (.cst (.int (60))) .nil)) dwI) [.val T, .own .mine (iL zs), .val c, .val (.int r), oS o4, s5, s6] = .next [.val T, .own .mine (iL zs'), .val c, .val (.int r'), oS o, s5, s6] ∧ B3 zs' ∧ zs'.length ≤ zs.length + 60 := by
  obtain ⟨g', h1, zs', r', o, rfl, h2, h3⟩ := for_rel (set := assignT (.name 4)) (b := evalSs C l.G dwI) nD (fun k g => ∃ zs' r' o, g = [.val T, .own .mine (iL zs'), .val c, .val (.int r'), oS o, s5, s6] ∧ B3 zs' ∧ zs'.length ≤ zs.length + k) (fun g => ∃ zs' r' o, g = [.val T, .own .mine (iL zs'), .val c, .val (.int r'), oS o, s5, s6] ∧ B3 zs' ∧ zs'.length ≤ zs.length + 60) 60 (List.range 60) 0 [.val T, .own .mine (iL zs), .val c, .val (.int r), oS o4, s5, s6] (by simp) ⟨zs, r, o4, rfl, hz, Nat.le_refl _⟩ (by
    intro k x g hk hx hi
    obtain ⟨zs', r', o, rfl, hb, hl'⟩ := hi
    by_cases h0 : r' = 0
    · subst h0
      exact ⟨[.val T, .own .mine (iL zs'), .val c, .val (.int 0), .val (nD x), s5, s6], _, by cases o <;> rfl, Or.inr ⟨dw_out C T c _ _ s5 s6, zs', 0, some (nD x), rfl, hb, by omega⟩⟩
    · refine ⟨[.val T, .own .mine (iL zs'), .val c, .val (.int r'), .val (nD x), s5, s6], _, by cases o <;> rfl, Or.inl ⟨dw_in C T c _ _ _ s5 s6 (by rw [List.length_map]; omega) h0, zs' ++ [r' % 1000], r' / 1000, some (nD x), ?_, hb.snoc r', by simp; omega⟩⟩
      unfold iL; rw [List.map_append]; rfl) (fun g hg => hg)
  exact ⟨zs', r', o, for_ok (range60 C _) h1, h2, h3⟩
abbrev dwE : Ss := (.cons (.set 5 true (.bin .mod (.blt .int (.cons (.bin .add (.bin .mul (.var 3) (.cst (.int (48271)))) (.cst (.int (11)))) .nil)) (.cst (.int (2147483647))))) (.cons (.set 6 true (.bin .mod (.blt .int (.cons (.bin .add (.bin .mul (.var 5) (.cst (.int (69621)))) (.var 3)) .nil)) (.cst (.int (2147483629))))) (.cons (.expr (.mut .extend 1 (.cons (.lst (.cons (.bin .mod (.blt .int (.cons (.var 3) .nil)) (.cst (.int (1000)))) (.cons (.bin .mod (.blt .int (.cons (.var 5) .nil)) (.cst (.int (1000)))) (.cons (.bin .mod (.blt .int (.cons (.var 6) .nil)) (.cst (.int (1000)))) .nil)))) .nil))) .nil)))
theorem dw_els (C : Nat → List Slot → CRes) (T c : D) (xs : List D) (r : Int) (s4 : Slot) (o5 o6 : Option D) (hx : xs.length + 3 ≤ 16777216) (h1 : r.natAbs.log2 + Nat.log2 48271 < 1000000) (h2 : ((r * 48271 + 11) % 2147483647).natAbs.log2 + Nat.log2 69621 < 1000000) : evalSs C l.G dwE [.val T, .own .mine xs, .val c, .val (.int r), s4, oS o5, oS o6] = .next [.val T, .own .mine (xs ++ [.int (r % 1000), .int ((r * 48271 + 11) % 2147483647 % 1000), .int ((((r * 48271 + 11) % 2147483647) * 69621 + r) % 2147483629 % 1000)]), .val c, .val (.int r), s4, .val (.int ((r * 48271 + 11) % 2147483647)), .val (.int ((((r * 48271 + 11) % 2147483647) * 69621 + r) % 2147483629))] := by
  cases o5 <;> cases o6 <;> simp [evalSs, evalS, seqF, evalE, evalEs, evalPs, evalAs, contents, content, runE, bnd, opt, pur, bltD, binD, freeze, store, argOf, doCall, slotsOf, Arg.slot, refsOf, noTwice, giveBack, retF, setF, lim, h1, h2, hx, doMut, mutD, oS]
theorem log_small {r : Int} (h0 : 0 ≤ r) (h : r < 1000000000000000000) : r.natAbs.log2 < 60 := by
  apply log_lt
  · have : (2 : Nat) ^ 60 = 1152921504606846976 := by decide
    omega
  · decide
theorem l2_48271 : Nat.log2 48271 < 20 := by decide
theorem l2_69621 : Nat.log2 69621 < 20 := by decide
abbrev dwB : Ss := (.cons (.set 3 true (.call 8 (.cons .r (.var 2) .nil))) (.cons (.ifs (.cmp .ge (.var 3) (.cst (.int (1000000000000000000)))) (.cons (.fors (.name 4) (.range (.cons (.cst (.int (60))) .nil)) dwI) .nil) dwE) .nil))
theorem dw_set (C : Nat → List Slot → CRes) (T S : Slot) (c : Int) (r : Int) (o3 : Option D) (s4 s5 s6 : Slot) (h : C 8 [.val (.int c)] = .ret (.val (.int r)) [.no]) : evalS C l.G (.set 3 true (.call 8 (.cons .r (.var 2) .nil))) [T, S, .val (.int c), oS o3, s4, s5, s6] = .next [T, S, .val (.int c), .val (.int r), s4, s5, s6] := by
  cases o3 <;> simp [evalSs, evalS, seqF, evalE, evalEs, evalPs, evalAs, contents, content, runE, bnd, opt, pur, bltD, binD, freeze, store, argOf, doCall, slotsOf, Arg.slot, refsOf, noTwice, giveBack, retF, setF, lim, h, oS]
theorem dw_ift (C : Nat → List Slot → CRes) (T S s4 s5 s6 : Slot) (c : D) (r : Int) (a b : Ss) (h : 1000000000000000000 ≤ r) : evalSs C l.G (.cons (.ifs (.cmp .ge (.var 3) (.cst (.int (1000000000000000000)))) a b) .nil) [T, S, .val c, .val (.int r), s4, s5, s6] = seqF (evalSs C l.G a) (evalSs C l.G .nil) [T, S, .val c, .val (.int r), s4, s5, s6] := by
  simp [evalSs, evalS, seqF, evalE, evalEs, evalPs, evalAs, contents, content, runE, bnd, opt, pur, bltD, binD, freeze, store, argOf, doCall, slotsOf, Arg.slot, refsOf, noTwice, giveBack, retF, setF, lim, testE, cmpD, truth, h]
theorem dw_iff (C : Nat → List Slot → CRes) (T S s4 s5 s6 : Slot) (c : D) (r : Int) (a b : Ss) (h : ¬ 1000000000000000000 ≤ r) : evalSs C l.G (.cons (.ifs (.cmp .ge (.var 3) (.cst (.int (1000000000000000000)))) a b) .nil) [T, S, .val c, .val (.int r), s4, s5, s6] = seqF (evalSs C l.G b) (evalSs C l.G .nil) [T, S, .val c, .val (.int r), s4, s5, s6] := by
  simp [evalSs, evalS, seqF, evalE, evalEs, evalPs, evalAs, contents, content, runE, bnd, opt, pur, bltD, binD, freeze, store, argOf, doCall, slotsOf, Arg.slot, refsOf, noTwice, giveBack, retF, setF, lim, testE, cmpD, truth, h]
theorem seq_next {m n : Gam → DK.Flow} {g g' : Gam} (h : m g = .next g') : seqF m n g = n g' := by unfold seqF; rw [h]
theorem dw_turn (C : Nat → List Slot → CRes) (hC : ∀ i, C 8 [.val (.int i)] = .ret (.val (.int (if i < 0 then -i else i))) [.no]) (T : D) (c : Int) (zs : List Int) (hz : B3 zs) (hl : zs.length ≤ 10000) (o3 o4 o5 o6 : Option D) : ∃ zs' p3 p4 p5 p6, evalSs C l.G dwB [.val T, .own .mine (iL zs), .val (.int c), oS o3, oS o4, oS o5, oS o6] = .next [.val T, .own .mine (iL zs'), .val (.int c), oS p3, oS p4, oS p5, oS p6] ∧ B3 zs' ∧ zs'.length ≤ zs.length + 60 := by
  have h1 := dw_set C (.val T) (.own .mine (iL zs)) c _ o3 (oS o4) (oS o5) (oS o6) (hC c)
  have h0 : 0 ≤ (if c < 0 then -c else c) := by split <;> omega
  generalize (if c < 0 then -c else c) = r at h0 h1
  by_cases h : 1000000000000000000 ≤ r
  · obtain ⟨zs', r', o, e, hz', hl'⟩ := dw_for C T (.int c) zs r o4 (oS o5) (oS o6) hz hl
    refine ⟨zs', some (.int r'), o, o5, o6, ?_, hz', hl'⟩
    refine (ss_next h1).trans ?_
    rw [dw_ift C _ _ _ _ _ _ r _ _ h]
    refine (seq_next (g' := [.val T, .own .mine (iL zs'), .val (.int c), oS (some (.int r')), oS o, oS o5, oS o6]) ?_).trans rfl
    exact (ss_next e).trans rfl
  · have hr := log_small h0 (by omega)
    have hs := log_small (r := (r * 48271 + 11) % 2147483647) (by omega) (by omega)
    have h4 := l2_48271
    have h5 := l2_69621
    have e := dw_els C T (.int c) (iL zs) r (oS o4) o5 o6 (by rw [List.length_map]; omega) (by omega) (by omega)
    refine ⟨zs ++ [r % 1000] ++ [(r * 48271 + 11) % 2147483647 % 1000] ++ [(((r * 48271 + 11) % 2147483647) * 69621 + r) % 2147483629 % 1000], some (.int r), o4, some (.int ((r * 48271 + 11) % 2147483647)), some (.int ((((r * 48271 + 11) % 2147483647) * 69621 + r) % 2147483629)), ?_, ((hz.snoc _).snoc _).snoc _, by simp⟩
    refine (ss_next h1).trans ?_
    rw [dw_iff C _ _ _ _ _ _ r _ _ h]
    refine (seq_next e).trans ?_
    unfold iL
    simp only [List.map_append, List.append_assoc]
    rfl
theorem dw_body (C : Nat → List Slot → CRes) (hC : ∀ i, C 8 [.val (.int i)] = .ret (.val (.int (if i < 0 then -i else i))) [.no]) (ns : List Int) (hn : ns.length ≤ 63) : ∃ zs g, evalSs C l.G b9 [.val (.list (iL ns)), .no, .no, .no, .no, .no, .no] = .ret (.own (iL zs)) (.val (.list (iL ns)) :: g) ∧ B3 zs ∧ zs.length ≤ 60 * 63 := by
  obtain ⟨g', h1, zs, o2, o3, o4, o5, o6, rfl, h2, h3⟩ := for_rel (set := assignT (.name 2)) (b := evalSs C l.G dwB) PyData.int (fun k g => ∃ zs o2 o3 o4 o5 o6, g = [.val (.list (iL ns)), .own .mine (iL zs), oS o2, oS o3, oS o4, oS o5, oS o6] ∧ B3 zs ∧ zs.length ≤ 60 * k) (fun g => ∃ zs o2 o3 o4 o5 o6, g = [.val (.list (iL ns)), .own .mine (iL zs), oS o2, oS o3, oS o4, oS o5, oS o6] ∧ B3 zs ∧ zs.length ≤ 60 * ns.length) ns.length ns 0 [.val (.list (iL ns)), .own .mine (iL []), .no, .no, .no, .no, .no] (by simp) ⟨[], none, none, none, none, none, rfl, (fun z hz => nomatch hz), Nat.zero_le _⟩ (by
    intro k x g hk hx hi
    obtain ⟨zs, o2, o3, o4, o5, o6, rfl, hb, hl⟩ := hi
    obtain ⟨zs', p3, p4, p5, p6, e, hb', hl'⟩ := dw_turn C hC (.list (iL ns)) x zs hb (by omega) o3 o4 o5 o6
    exact ⟨[.val (.list (iL ns)), .own .mine (iL zs), .val (.int x), oS o3, oS o4, oS o5, oS o6], _, by cases o2 <;> rfl, Or.inl ⟨e, zs', some (.int x), p3, p4, p5, p6, rfl, hb', by omega⟩⟩) (fun g hg => hg)
  refine ⟨zs.reverse, [.no, oS o2, oS o3, oS o4, oS o5, oS o6], ?_, fun z hz => h2 z (List.mem_reverse.1 hz), by simp; omega⟩
  refine (ss_next (g' := [.val (.list (iL ns)), .own .mine (iL []), .no, .no, .no, .no, .no]) rfl).trans ?_
  refine (ss_next (for_ok rfl h1)).trans ?_
  unfold iL
  rw [List.map_reverse]
  rfl
theorem dw_ok (n : Nat) (ns : List Int) (hn : ns.length ≤ 63) : ∃ zs, callN l.P l.G (n + 2) 9 [.val (.list (iL ns))] = .ret (.own (iL zs)) [.no] ∧ B3 zs ∧ zs.length ≤ 60 * 63 := by
  obtain ⟨zs, g, h, h2, h3⟩ := dw_body (callN l.P l.G (n + 1)) (fun i => num_ok n i) ns hn
  exact ⟨zs, callN_by (fn := f9.fn) rfl rfl h rfl, h2, h3⟩
def nx (zs : List Int) : Int := zs.getLast?.getD 0
def rs (zs : List Int) : List Int := zs.dropLast
theorem nx_some (C : Nat → List Slot → CRes) (k : Kd) (hk : k = .loan) (xs : List D) (v : D) : evalSs C l.G b10 [.own k (xs ++ [v])] = .ret (.val v) [.own k xs] := by
  subst hk
  have h : (xs ++ [v]).isEmpty = false := by cases xs <;> rfl
  simp [evalSs, evalS, seqF, evalE, evalEs, evalPs, evalAs, contents, content, runE, bnd, opt, pur, bltD, binD, freeze, store, argOf, doCall, slotsOf, Arg.slot, refsOf, noTwice, giveBack, retF, setF, lim, b10, testE, truth, doMut, mutD]
theorem nx_none (C : Nat → List Slot → CRes) : evalSs C l.G b10 [.own .loan []] = .ret (.val (.int 0)) [.own .loan []] := rfl
theorem nx_ok (n : Nat) (zs : List Int) : callN l.P l.G (n + 1) 10 [.own .loan (iL zs)] = .ret (.val (.int (nx zs))) [.own .loan (iL (rs zs))] := by
  rcases List.eq_nil_or_concat zs with rfl | ⟨ys, y, rfl⟩
  · exact callN_by (fn := f10.fn) rfl rfl (nx_none _) rfl
  · have h := nx_some (callN l.P l.G n) .loan rfl (iL ys) (.int y)
    have e1 : nx (ys ++ [y]) = y := by simp [nx]
    have e2 : rs (ys ++ [y]) = ys := by simp [rs]
    have e3 : iL (ys ++ [y]) = iL ys ++ [.int y] := by unfold iL; rw [List.map_append]; rfl
    rw [List.concat_eq_append, e1, e2, e3]
    exact callN_by (fn := f10.fn) rfl rfl h rfl
theorem rs_B3 {zs : List Int} (h : B3 zs) : B3 (rs zs) := fun z hz => h z (List.dropLast_subset _ hz)
theorem nx_B3 {zs : List Int} (h : B3 zs) : 0 ≤ nx zs ∧ nx zs < 1000 := by
  rcases List.eq_nil_or_concat zs with rfl | ⟨ys, y, rfl⟩
  · exact ⟨by decide, by decide⟩
  · have e1 : nx (ys.concat y) = y := by simp [nx]
    rw [e1]; exact h y (by simp)
abbrev moB : Ss := (.cons (.set 2 true (.bin .mod (.blt .int (.cons (.bin .add (.bin .mul (.var 2) (.cst (.int (48271)))) (.cst (.int (12345)))) .nil)) (.cst (.int (2147483647))))) (.cons (.expr (.mut .append 3 (.cons (.bin .mod (.blt .int (.cons (.bin .div (.var 2) (.cst (.int (7)))) .nil)) (.cst (.int (1000)))) .nil))) .nil))
theorem l2_7 : Nat.log2 7 < 9000 := by decide
theorem mo_step (C : Nat → List Slot → CRes) (Z M : DK.Slot) (K : D) (xs : List D) (s : Int) (hx : xs.length < 16777216) (h : s.natAbs.log2 + Nat.log2 48271 < 1000000) : evalSs C l.G moB [Z, M, .val (.int s), .own .mine xs, .val K] = .next [Z, M, .val (.int ((s * 48271 + 12345) % 2147483647)), .own .mine (xs ++ [.int ((s * 48271 + 12345) % 2147483647 / 7 % 1000)]), .val K] := by
  simp [evalSs, evalS, seqF, evalE, evalEs, evalPs, evalAs, contents, content, runE, bnd, opt, pur, bltD, binD, freeze, store, argOf, doCall, slotsOf, Arg.slot, refsOf, noTwice, giveBack, retF, setF, lim, h, hx, doMut, mutD, l2_7]
theorem mo_seed (C : Nat → List Slot → CRes) (z0 z1 z2 : List D) (M : D) (v w : Int) (h1 : C 10 [.own .loan z0] = .ret (.val (.int v)) [.own .loan z1]) (h2 : C 10 [.own .loan z1] = .ret (.val (.int w)) [.own .loan z2]) (h3 : Nat.log2 1000 + v.natAbs.log2 < 1000000) (r : Ss) : evalSs C l.G (.cons (.set 2 true (.bin .add (.bin .add (.bin .mul (.cst (.int (1000))) (.call 10 (.cons .m (.var 0) .nil))) (.call 10 (.cons .m (.var 0) .nil))) (.cst (.int (1))))) (.cons (.set 3 false (.lst .nil)) r)) [.own .loan z0, .val M, .no, .no, .no] = evalSs C l.G r [.own .loan z2, .val M, .val (.int (1000 * v + w + 1)), .own .mine [], .no] := by
  simp [evalSs, evalS, seqF, evalE, evalEs, evalPs, evalAs, contents, content, runE, bnd, opt, pur, bltD, binD, freeze, store, argOf, doCall, slotsOf, Arg.slot, refsOf, noTwice, giveBack, retF, setF, lim, h1, h2, h3]
theorem mo_end (C : Nat → List Slot → CRes) (z xs : List D) (M S K : DK.Slot) (h : xs.length + z.length ≤ 16777216) : evalSs C l.G (.cons (.ret (.bin .add (.var 3) (.var 0))) .nil) [.own .loan z, M, S, .own .mine xs, K] = .ret (.own (xs ++ z)) [.own .loan z, M, S, .own .mine xs, K] := by
  simp [evalSs, evalS, seqF, evalE, evalEs, evalPs, evalAs, contents, content, runE, bnd, opt, pur, bltD, binD, freeze, store, argOf, doCall, slotsOf, Arg.slot, refsOf, noTwice, giveBack, retF, setF, lim, h]
theorem mo_ok (n : Nat) (zs : List Int) (hz : B3 zs) (hl : zs.length ≤ 10000) : ∃ ys, callN l.P l.G (n + 2) 11 [.own .loan (iL zs), .val (.int 200)] = .ret (.own (iL ys)) [.own .loan (iL (rs (rs zs))), .no] ∧ ys.length ≤ zs.length + 200 := by
  have a1 := nx_B3 hz
  have a2 := nx_B3 (rs_B3 hz)
  have b1 := log_small a1.1 (by omega)
  have b2 : Nat.log2 1000 < 9000 := l2_1000
  have b3 := l2_48271
  have hs := mo_seed (callN l.P l.G (n + 1)) (iL zs) (iL (rs zs)) (iL (rs (rs zs))) (.int 200) _ _ (nx_ok n zs) (nx_ok n (rs zs)) (by omega)
  have lrs : (rs (rs zs)).length ≤ zs.length := by unfold rs; simp; omega
  obtain ⟨g', h1, ys, s', o, rfl, h2, h3⟩ := for_rel (set := assignT (.name 4)) (b := evalSs (callN l.P l.G (n + 1)) l.G moB) nD (fun k g => ∃ ys s o, g = [.own .loan (iL (rs (rs zs))), .val (.int 200), .val (.int s), .own .mine (iL ys), oS o] ∧ ys.length ≤ k ∧ (0 ≤ s ∧ s < 2147483647)) (fun g => ∃ ys s o, g = [.own .loan (iL (rs (rs zs))), .val (.int 200), .val (.int s), .own .mine (iL ys), oS o] ∧ ys.length ≤ 200 ∧ (0 ≤ s ∧ s < 2147483647)) 200 (List.range 200) 0 [.own .loan (iL (rs (rs zs))), .val (.int 200), .val (.int (1000 * nx zs + nx (rs zs) + 1)), .own .mine (iL []), .no] (by simp) ⟨[], _, none, rfl, Nat.le_refl _, by omega, by omega⟩ (by
    intro k x g hk hx hi
    obtain ⟨ys, s, o, rfl, hl, h0, h1⟩ := hi
    have b4 := log_small h0 (by omega)
    refine ⟨[.own .loan (iL (rs (rs zs))), .val (.int 200), .val (.int s), .own .mine (iL ys), .val (nD x)], _, by cases o <;> rfl, Or.inl ⟨mo_step (callN l.P l.G (n + 1)) _ _ _ _ s (by rw [List.length_map]; omega) (by omega), ys ++ [(s * 48271 + 12345) % 2147483647 / 7 % 1000], (s * 48271 + 12345) % 2147483647, some (nD x), ?_, by simp; omega, by omega, by omega⟩⟩
    unfold iL; rw [List.map_append]; rfl) (fun g hg => hg)
  refine ⟨ys ++ rs (rs zs), ?_, by simp; omega⟩
  have hb : evalSs (callN l.P l.G (n + 1)) l.G b11 [.own .loan (iL zs), .val (.int 200), .no, .no, .no] = .ret (.own (iL ys ++ iL (rs (rs zs)))) [.own .loan (iL (rs (rs zs))), .val (.int 200), .val (.int s'), .own .mine (iL ys), oS o] := by
    refine (hs _).trans ?_
    refine (ss_next (for_ok (range_e 200 rfl (by decide)) h1)).trans ?_
    exact mo_end _ _ _ _ _ _ (by simp; omega)
  have e : iL (ys ++ rs (rs zs)) = iL ys ++ iL (rs (rs zs)) := by unfold iL; rw [List.map_append]
  rw [e]
  exact callN_by (fn := f11.fn) rfl rfl hb rfl
theorem pk_body (C : Nat → List Slot → CRes) (z0 z1 ss : List D) (v : Int) (R : D) (hl : (0 : Int) < ss.length) (h1 : C 10 [.own .loan z0] = .ret (.val (.int v)) [.own .loan z1]) (h2 : subD (.list ss) (.int (v % ss.length)) = some R) : evalSs C l.G b12 [.own .loan z0, .val (.list ss)] = .ret (.val R) [.own .loan z1, .val (.list ss)] := by
  have h3 : 0 < ss.length := by omega
  simp [evalSs, evalS, seqF, evalE, evalEs, evalPs, evalAs, contents, content, runE, bnd, opt, pur, bltD, binD, freeze, store, argOf, doCall, slotsOf, Arg.slot, refsOf, noTwice, giveBack, retF, setF, lim, b12, h1, hl, h2, h3]
theorem pk_ok (n : Nat) (zs : List Int) (ss : List D) (h0 : 0 < ss.length) (h1 : ss.length ≤ 1000) : ∃ k, ∃ h : k < ss.length, callN l.P l.G (n + 2) 12 [.own .loan (iL zs), .val (.list ss)] = .ret (.val ss[k]) [.own .loan (iL (rs zs)), .no] := by
  have hp := Int.emod_nonneg (nx zs) (show (ss.length : Int) ≠ 0 by omega)
  have hq := Int.emod_lt_of_pos (nx zs) (show (0 : Int) < ss.length by omega)
  obtain ⟨k, hk⟩ : ∃ k : Nat, nx zs % (ss.length : Int) = k := ⟨(nx zs % (ss.length : Int)).toNat, by omega⟩
  have hk2 : k < ss.length := by omega
  refine ⟨k, hk2, ?_⟩
  have hb := pk_body (callN l.P l.G (n + 1)) (iL zs) (iL (rs zs)) ss (nx zs) (ss[k]) (by omega) (nx_ok n zs) (by rw [hk]; exact sub_list ss k hk2 (by omega))
  exact callN_by (fn := f12.fn) rfl rfl hb rfl
theorem call4 {C : Nat → List Slot → CRes} {G : List D} {g : Gam} {f : Nat} {e1 e2 e3 e4 : E} {d1 d2 d3 d4 R : D} (h1 : evalE C G e1 g = .ok (.val d1) g) (h2 : evalE C G e2 g = .ok (.val d2) g) (h3 : evalE C G e3 g = .ok (.val d3) g) (h4 : evalE C G e4 g = .ok (.val d4) g) (h : C f [.val d1, .val d2, .val d3, .val d4] = .ret (.val R) [.no, .no, .no, .no]) : evalE C G (.call f (.cons .r e1 (.cons .r e2 (.cons .r e3 (.cons .r e4 .nil))))) g = .ok (.val R) g := by
  simp [evalSs, evalS, seqF, evalE, evalEs, evalPs, evalAs, contents, content, runE, bnd, opt, pur, bltD, binD, freeze, store, argOf, doCall, slotsOf, Arg.slot, refsOf, noTwice, giveBack, retF, setF, lim, h1, h2, h3, h4, h]
theorem frz_val {C : Nat → List Slot → CRes} {G : List D} {g : Gam} {e : E} {R : D} (h : evalE C G e g = .ok (.val R) g) : bnd (evalE C G e) DK.freeze g = .ok R g := by unfold bnd; rw [h]; rfl
theorem frz_own {C : Nat → List Slot → CRes} {G : List D} {g : Gam} {e : E} {xs : List D} (h : evalE C G e g = .ok (.own xs) g) : bnd (evalE C G e) DK.freeze g = .ok (.list xs) g := by unfold bnd; rw [h]; rfl
theorem call_flat {C : Nat → List Slot → CRes} {G : List D} {g : Gam} {f : Nat} {e : E} {L R : List D} (h : evalE C G e g = .ok (.own L) g) (hc : C f [.val (.list L)] = .ret (.own R) [.no]) : evalE C G (.call f (.cons .r e .nil)) g = .ok (.own R) g := by
  simp [evalSs, evalS, seqF, evalE, evalEs, evalPs, evalAs, contents, content, runE, bnd, opt, pur, bltD, binD, freeze, store, argOf, doCall, slotsOf, Arg.slot, refsOf, noTwice, giveBack, retF, setF, lim, h, hc]
theorem set_own {C : Nat → List Slot → CRes} {G : List D} {g g' : Gam} {i : Nat} {e : E} {xs : List D} (h : evalE C G e g = .ok (.own xs) g) (hs : store i (.val (.list xs)) g = some g') : evalS C G (.set i true e) g = .next g' := by
  unfold evalS runE; rw [h]; unfold setF; simp [hs]
theorem addL {C : Nat → List Slot → CRes} {G : List D} {g : Gam} {a b : E} {va vb : EV} {xs ys : List D} (h1 : evalE C G a g = .ok va g) (h2 : evalE C G b g = .ok vb g) (c1 : content va g = .ok (.list xs) g) (c2 : content vb g = .ok (.list ys) g) (hl : xs.length + ys.length ≤ 1000000) : evalE C G (.bin .add a b) g = .ok (.own (xs ++ ys)) g := by
  have hl2 : xs.length + ys.length ≤ DK.lim := Nat.le_of_lt (lim_of hl)
  have hb : binD .add (.list xs) (.list ys) = some (.own (xs ++ ys)) := by rw [binD]; rw [if_pos hl2]
  rw [evalE]
  unfold bnd
  rw [h1]; dsimp only
  rw [h2]; dsimp only
  rw [c1]; dsimp only
  rw [c2]; dsimp only
  rw [hb]; rfl
theorem and_tt {C : Nat → List Slot → CRes} {G : List D} {g : Gam} {a b : E} {r : Res EV} (h1 : evalE C G a g = .ok (.val (.bool true)) g) (h2 : evalE C G b g = r) : evalE C G (.and a b) g = r := by
  simp [evalSs, evalS, seqF, evalE, evalEs, evalPs, evalAs, contents, content, runE, bnd, opt, pur, bltD, binD, freeze, store, argOf, doCall, slotsOf, Arg.slot, refsOf, noTwice, giveBack, retF, setF, lim, h1, truth, h2]
theorem cmp_e {C : Nat → List Slot → CRes} {G : List D} {g : Gam} {o : Cop} {a b : E} {va vb : EV} {x y : D} {k : Bool} (h1 : evalE C G a g = .ok va g) (h2 : evalE C G b g = .ok vb g) (c1 : content va g = .ok x g) (c2 : content vb g = .ok y g) (hk : cmpD o x y = some k) : evalE C G (.cmp o a b) g = .ok (.val (.bool k)) g := by
  rw [evalE]
  unfold bnd
  rw [h1]; dsimp only
  rw [h2]; dsimp only
  rw [c1]; dsimp only
  rw [c2]; dsimp only
  rw [hk]; rfl
theorem ret_val {C : Nat → List Slot → CRes} {G : List D} {g : Gam} {e : E} {d : D} {r : Ss} (h : evalE C G e g = .ok (.val d) g) : evalSs C G (.cons (.ret e) r) g = .ret (.val d) g := by
  simp [evalSs, evalS, seqF, evalE, evalEs, evalPs, evalAs, contents, content, runE, bnd, opt, pur, bltD, binD, freeze, store, argOf, doCall, slotsOf, Arg.slot, refsOf, noTwice, giveBack, retF, setF, lim, h]
section
variable {C : Nat → List Slot → CRes} {G : List D}
theorem add_i {a b : E} {g g1 g2 : Gam} {x y : Int} (h1 : evalE C G a g = .ok (.val (.int x)) g1) (h2 : evalE C G b g1 = .ok (.val (.int y)) g2) : evalE C G (.bin .add a b) g = .ok (.val (.int (x + y))) g2 := by
  simp [evalSs, evalS, seqF, evalE, evalEs, evalPs, evalAs, contents, content, runE, bnd, opt, pur, bltD, binD, freeze, store, argOf, doCall, slotsOf, Arg.slot, refsOf, noTwice, giveBack, retF, setF, lim, h1, h2]
theorem sub_i {a b : E} {g g1 g2 : Gam} {x y : Int} (h1 : evalE C G a g = .ok (.val (.int x)) g1) (h2 : evalE C G b g1 = .ok (.val (.int y)) g2) : evalE C G (.bin .sub a b) g = .ok (.val (.int (x - y))) g2 := by
  simp [evalSs, evalS, seqF, evalE, evalEs, evalPs, evalAs, contents, content, runE, bnd, opt, pur, bltD, binD, freeze, store, argOf, doCall, slotsOf, Arg.slot, refsOf, noTwice, giveBack, retF, setF, lim, h1, h2]
theorem mod_i {a b : E} {g g1 g2 : Gam} {x y : Int} (h1 : evalE C G a g = .ok (.val (.int x)) g1) (h2 : evalE C G b g1 = .ok (.val (.int y)) g2) (hy : 0 < y) : evalE C G (.bin .mod a b) g = .ok (.val (.int (x % y))) g2 := by
  simp [evalSs, evalS, seqF, evalE, evalEs, evalPs, evalAs, contents, content, runE, bnd, opt, pur, bltD, binD, freeze, store, argOf, doCall, slotsOf, Arg.slot, refsOf, noTwice, giveBack, retF, setF, lim, h1, h2, hy]
theorem sub_e {a b : E} {g g1 g2 : Gam} {x y r : D} (h1 : evalE C G a g = .ok (.val x) g1) (h2 : evalE C G b g1 = .ok (.val y) g2) (h3 : subD x y = some r) : evalE C G (.sub a b) g = .ok (.val r) g2 := by
  simp [evalSs, evalS, seqF, evalE, evalEs, evalPs, evalAs, contents, content, runE, bnd, opt, pur, bltD, binD, freeze, store, argOf, doCall, slotsOf, Arg.slot, refsOf, noTwice, giveBack, retF, setF, lim, h1, h2, h3]
theorem int_e {a : E} {g g1 : Gam} {x : Int} (h1 : evalE C G a g = .ok (.val (.int x)) g1) : evalE C G (.blt .int (.cons a .nil)) g = .ok (.val (.int x)) g1 := by
  simp [evalSs, evalS, seqF, evalE, evalEs, evalPs, evalAs, contents, content, runE, bnd, opt, pur, bltD, binD, freeze, store, argOf, doCall, slotsOf, Arg.slot, refsOf, noTwice, giveBack, retF, setF, lim, h1]
theorem set_v {i : Nat} {f : Bool} {e : E} {g g1 g2 : Gam} {d : D} (h1 : evalE C G e g = .ok (.val d) g1) (hs : store i (.val d) g1 = some g2) : evalS C G (.set i f e) g = .next g2 := by
  unfold evalS runE; rw [h1]; unfold setF; simp only [hs]
theorem set_o {i : Nat} {e : E} {g g1 g2 : Gam} {xs : List D} (h1 : evalE C G e g = .ok (.own xs) g1) (hs : store i (.val (.list xs)) g1 = some g2) : evalS C G (.set i true e) g = .next g2 := by
  unfold evalS runE; rw [h1]; unfold setF; simp [hs]
theorem set_m {i : Nat} {e : E} {g g1 g2 : Gam} {xs : List D} (h1 : evalE C G e g = .ok (.own xs) g1) (hs : store i (.own .mine xs) g1 = some g2) : evalS C G (.set i false e) g = .next g2 := by
  unfold evalS runE; rw [h1]; unfold setF; simp [hs]
theorem test_of {c : E} {g g1 : Gam} {k : Bool} (h1 : evalE C G c g = .ok (.val (.bool k)) g1) : testE C G c g = .ok k g1 := by
  simp [evalSs, evalS, seqF, evalE, evalEs, evalPs, evalAs, contents, content, runE, bnd, opt, pur, bltD, binD, freeze, store, argOf, doCall, slotsOf, Arg.slot, refsOf, noTwice, giveBack, retF, setF, lim, testE, h1, truth]
theorem if_f {c : E} {g g1 : Gam} {a : Ss} (h1 : evalE C G c g = .ok (.val (.bool false)) g1) : evalS C G (.ifs c a .nil) g = .next g1 := by
  unfold evalS runE; rw [test_of h1]; simp [evalSs]
theorem if_t {c : E} {g g1 g2 : Gam} {a b : Ss} (h1 : evalE C G c g = .ok (.val (.bool true)) g1) (h2 : evalSs C G a g1 = .next g2) : evalS C G (.ifs c a b) g = .next g2 := by
  unfold evalS runE; rw [test_of h1]; simp [h2]
theorem or_ff {a b : E} {g g1 : Gam} {r : Res EV} (h1 : evalE C G a g = .ok (.val (.bool false)) g1) (h2 : evalE C G b g1 = r) : evalE C G (.or a b) g = r := by
  simp [evalSs, evalS, seqF, evalE, evalEs, evalPs, evalAs, contents, content, runE, bnd, opt, pur, bltD, binD, freeze, store, argOf, doCall, slotsOf, Arg.slot, refsOf, noTwice, giveBack, retF, setF, lim, h1, truth, h2]
theorem cmp_v {o : Cop} {a b : E} {g g1 g2 : Gam} {x y : D} {k : Bool} (h1 : evalE C G a g = .ok (.val x) g1) (h2 : evalE C G b g1 = .ok (.val y) g2) (h3 : cmpD o x y = some k) : evalE C G (.cmp o a b) g = .ok (.val (.bool k)) g2 := by
  simp [evalSs, evalS, seqF, evalE, evalEs, evalPs, evalAs, contents, content, runE, bnd, opt, pur, bltD, binD, freeze, store, argOf, doCall, slotsOf, Arg.slot, refsOf, noTwice, giveBack, retF, setF, lim, h1, h2, h3]
theorem sett_e {t : Tg} {e : E} {g g1 g2 : Gam} {d : D} (h1 : evalE C G e g = .ok (.val d) g1) (hs : assignT t d g1 = some g2) : evalS C G (.sett t e) g = .next g2 := by
  unfold evalS runE bnd; rw [h1]; simp [DK.freeze, setT, hs]
theorem call1v {f : Nat} {e1 : E} {g : Gam} {d1 R : D} (h1 : evalE C G e1 g = .ok (.val d1) g) (h : C f [.val d1] = .ret (.val R) [.no]) : evalE C G (.call f (.cons .r e1 .nil)) g = .ok (.val R) g := by
  simp [evalSs, evalS, seqF, evalE, evalEs, evalPs, evalAs, contents, content, runE, bnd, opt, pur, bltD, binD, freeze, store, argOf, doCall, slotsOf, Arg.slot, refsOf, noTwice, giveBack, retF, setF, lim, h1, h]
theorem call1o {f : Nat} {e1 : E} {g : Gam} {d1 : D} {R : List D} (h1 : evalE C G e1 g = .ok (.val d1) g) (h : C f [.val d1] = .ret (.own R) [.no]) : evalE C G (.call f (.cons .r e1 .nil)) g = .ok (.own R) g := by
  simp [evalSs, evalS, seqF, evalE, evalEs, evalPs, evalAs, contents, content, runE, bnd, opt, pur, bltD, binD, freeze, store, argOf, doCall, slotsOf, Arg.slot, refsOf, noTwice, giveBack, retF, setF, lim, h1, h]
theorem call2 {f : Nat} {e1 e2 : E} {g : Gam} {d1 d2 R : D} (h1 : evalE C G e1 g = .ok (.val d1) g) (h2 : evalE C G e2 g = .ok (.val d2) g) (h : C f [.val d1, .val d2] = .ret (.val R) [.no, .no]) : evalE C G (.call f (.cons .r e1 (.cons .r e2 .nil))) g = .ok (.val R) g := by
  simp [evalSs, evalS, seqF, evalE, evalEs, evalPs, evalAs, contents, content, runE, bnd, opt, pur, bltD, binD, freeze, store, argOf, doCall, slotsOf, Arg.slot, refsOf, noTwice, giveBack, retF, setF, lim, h1, h2, h]
theorem call2s {f : Nat} {e1 e2 : E} {g g1 g2 : Gam} {d1 d2 R : D} (h1 : evalE C G e1 g = .ok (.val d1) g1) (h2 : evalE C G e2 g1 = .ok (.val d2) g2) (h : C f [.val d1, .val d2] = .ret (.val R) [.no, .no]) : evalE C G (.call f (.cons .r e1 (.cons .r e2 .nil))) g = .ok (.val R) g2 := by
  simp [evalSs, evalS, seqF, evalE, evalEs, evalPs, evalAs, contents, content, runE, bnd, opt, pur, bltD, binD, freeze, store, argOf, doCall, slotsOf, Arg.slot, refsOf, noTwice, giveBack, retF, setF, lim, h1, h2, h]
theorem tup2 {a b : E} {g g1 g2 : Gam} {x y : D} (h1 : evalE C G a g = .ok (.val x) g1) (h2 : evalE C G b g1 = .ok (.val y) g2) : evalE C G (.tup (.cons a (.cons b .nil))) g = .ok (.val (.tuple [x, y])) g2 := by
  simp [evalSs, evalS, seqF, evalE, evalEs, evalPs, evalAs, contents, content, runE, bnd, opt, pur, bltD, binD, freeze, store, argOf, doCall, slotsOf, Arg.slot, refsOf, noTwice, giveBack, retF, setF, lim, h1, h2]
theorem lst1 {a : E} {g g1 : Gam} {x : D} (h1 : evalE C G a g = .ok (.val x) g1) : evalE C G (.lst (.cons a .nil)) g = .ok (.own [x]) g1 := by
  simp [evalSs, evalS, seqF, evalE, evalEs, evalPs, evalAs, contents, content, runE, bnd, opt, pur, bltD, binD, freeze, store, argOf, doCall, slotsOf, Arg.slot, refsOf, noTwice, giveBack, retF, setF, lim, h1]
theorem lst2 {a b : E} {g g1 g2 : Gam} {x y : D} (h1 : evalE C G a g = .ok (.val x) g1) (h2 : evalE C G b g1 = .ok (.val y) g2) : evalE C G (.lst (.cons a (.cons b .nil))) g = .ok (.own [x, y]) g2 := by
  simp [evalSs, evalS, seqF, evalE, evalEs, evalPs, evalAs, contents, content, runE, bnd, opt, pur, bltD, binD, freeze, store, argOf, doCall, slotsOf, Arg.slot, refsOf, noTwice, giveBack, retF, setF, lim, h1, h2]
theorem lst3 {a b c : E} {g g1 g2 g3 : Gam} {x y z : D} (h1 : evalE C G a g = .ok (.val x) g1) (h2 : evalE C G b g1 = .ok (.val y) g2) (h3 : evalE C G c g2 = .ok (.val z) g3) : evalE C G (.lst (.cons a (.cons b (.cons c .nil)))) g = .ok (.own [x, y, z]) g3 := by
  simp [evalSs, evalS, seqF, evalE, evalEs, evalPs, evalAs, contents, content, runE, bnd, opt, pur, bltD, binD, freeze, store, argOf, doCall, slotsOf, Arg.slot, refsOf, noTwice, giveBack, retF, setF, lim, h1, h2, h3]
theorem lst4 {a b c e : E} {g g1 g2 g3 g4 : Gam} {x y z u : D} (h1 : evalE C G a g = .ok (.val x) g1) (h2 : evalE C G b g1 = .ok (.val y) g2) (h3 : evalE C G c g2 = .ok (.val z) g3) (h4 : evalE C G e g3 = .ok (.val u) g4) : evalE C G (.lst (.cons a (.cons b (.cons c (.cons e .nil))))) g = .ok (.own [x, y, z, u]) g4 := by
  simp [evalSs, evalS, seqF, evalE, evalEs, evalPs, evalAs, contents, content, runE, bnd, opt, pur, bltD, binD, freeze, store, argOf, doCall, slotsOf, Arg.slot, refsOf, noTwice, giveBack, retF, setF, lim, h1, h2, h3, h4]
theorem tuple_o {e : E} {g g1 : Gam} {xs : List D} (h : evalE C G e g = .ok (.own xs) g1) : evalE C G (.blt .tuple (.cons e .nil)) g = .ok (.val (.tuple xs)) g1 := by
  simp [evalSs, evalS, seqF, evalE, evalEs, evalPs, evalAs, contents, content, runE, bnd, opt, pur, bltD, binD, freeze, store, argOf, doCall, slotsOf, Arg.slot, refsOf, noTwice, giveBack, retF, setF, lim, h]
theorem walk_o {e : E} {g g1 : Gam} {xs : List D} (h : evalE C G e g = .ok (.own xs) g1) : evalI C G (.e e) g = .ok (xs, []) g1 := by
  unfold evalI
  simp [evalSs, evalS, seqF, evalE, evalEs, evalPs, evalAs, contents, content, runE, bnd, opt, pur, bltD, binD, freeze, store, argOf, doCall, slotsOf, Arg.slot, refsOf, noTwice, giveBack, retF, setF, lim, h, walkOf, itemsW, lockOf]
def okR (d : D) : Prop := (shapedD d && d.showable && decide (reprCost d ≤ DK.lim)) = true ∧ PyData.strOk d.shown = true
theorem repr_b {d : D} (h : okR d) : bltD .repr [d] = some (.val (.str d.shown)) := by
  rw [bltD, if_pos h.1]
theorem repr_e {e : E} {g g1 : Gam} {v : EV} {d : D} (h1 : evalE C G e g = .ok v g1) (h2 : content v g1 = .ok d g1) (h : okR d) : evalE C G (.blt .repr (.cons e .nil)) g = .ok (.val (.str d.shown)) g1 := by
  have hp : evalPs C G (.cons e .nil) g = .ok [v] g1 := by
    rw [evalPs, evalPs]; unfold bnd pur; rw [h1]
  have hc : contents [v] g1 = .ok [d] g1 := by
    rw [contents, contents]; unfold bnd pur; rw [h2]
  rw [evalE]
  unfold bnd
  rw [hp]; dsimp only
  rw [hc]; dsimp only
  rw [repr_b h]; rfl
theorem str_eqv {s : PySem.Str} (h : PyData.strOk s = true) : cmpD .eq (.str s) (.str s) = some true ∧ cmpD .ne (.str s) (.str s) = some false := by
  constructor <;> simp [cmpD, shapedD, SeqAt.shaped, PyData.eqv, PyData.canLay0, PyData.depth, h]
theorem repr_ne {a b : E} {g g1 g2 : Gam} {v w : EV} {d : D} (h1 : evalE C G a g = .ok v g1) (c1 : content v g1 = .ok d g1) (h2 : evalE C G b g1 = .ok w g2) (c2 : content w g2 = .ok d g2) (h : okR d) : evalE C G (.cmp .ne (.blt .repr (.cons a .nil)) (.blt .repr (.cons b .nil))) g = .ok (.val (.bool false)) g2 :=
  cmp_v (repr_e h1 c1 h) (repr_e h2 c2 h) (str_eqv h.2).2
theorem repr_eq {a b : E} {g g1 g2 : Gam} {v w : EV} {d : D} (h1 : evalE C G a g = .ok v g1) (c1 : content v g1 = .ok d g1) (h2 : evalE C G b g1 = .ok w g2) (c2 : content w g2 = .ok d g2) (h : okR d) : evalE C G (.cmp .eq (.blt .repr (.cons a .nil)) (.blt .repr (.cons b .nil))) g = .ok (.val (.bool true)) g2 :=
  cmp_v (repr_e h1 c1 h) (repr_e h2 c2 h) (str_eqv h.2).1
/-! comprehensions in general -/
theorem comp_lk {elt : E} {tg : Tg} {it : I} {cs : Es} {own : List Nat} {g g1 g2 g3 g4 : Gam} {xs acc : List D} {lk : List Nat} {ks : List Kd} (h1 : evalI C G it g = .ok (xs, lk) g1) (h2 : xs.length ≤ 1000000) (hl : lockG lk g1 = some (g2, ks)) (h3 : compF own (assignT tg) (evalCs C G cs) (bnd (evalE C G elt) DK.freeze) xs [] (wipeG g2 own) = .ok acc g3) (hu : unlock lk ks (restoreG g2 g3 own) = some g4) : evalE C G (.comp elt tg it cs own) g = .ok (.own acc) g4 := by
  unfold evalE
  unfold bnd at h3 ⊢
  rw [h1]
  refine (ite_ok (lim_of h2)).trans ?_
  dsimp only
  rw [hl]
  dsimp only
  rw [h3]
  dsimp only
  rw [hu]
theorem compF_rel {α : Type} {own : List Nat} {set : D → Gam → Option Gam} {cs : Ev Bool} {elt : Ev D} (e : α → D) (Inv : Gam → Prop) (P : α → D → Prop) : ∀ (xs : List α) (acc : List D) (g : Gam), Inv g → (∀ x ∈ xs, ∀ g, Inv g → ∃ g1 d g3, set (e x) g = some g1 ∧ cs g1 = .ok true g1 ∧ elt g1 = .ok d g3 ∧ P x d ∧ Inv (wipeG g3 own)) → ∃ ds g', compF own set cs elt (xs.map e) acc g = .ok (acc ++ ds) g' ∧ Inv g' ∧ ds.length = xs.length ∧ ∀ d ∈ ds, ∃ x ∈ xs, P x d := by
  intro xs
  induction xs with
  | nil => intro acc g h0 _; exact ⟨[], g, by simp [compF, pur], h0, rfl, fun d hd => nomatch hd⟩
  | cons x xs ih =>
    intro acc g h0 h
    obtain ⟨g1, d, g3, h1, h2, h3, h4, h5⟩ := h x (List.mem_cons_self ..) g h0
    obtain ⟨ds, g', k1, k2, k3, k4⟩ := ih (acc ++ [d]) (wipeG g3 own) h5 (fun y hy => h y (List.mem_cons_of_mem _ hy))
    refine ⟨d :: ds, g', ?_, k2, by simp [k3], ?_⟩
    · rw [List.map_cons, compF]
      simp only [h1, h2, h3, k1]
      simp
    · intro d' hd'
      rcases List.mem_cons.1 hd' with rfl | hd'
      · exact ⟨x, List.mem_cons_self .., h4⟩
      · obtain ⟨y, hy, hp⟩ := k4 d' hd'
        exact ⟨y, List.mem_cons_of_mem _ hy, hp⟩
theorem next_e {zs : List Int} {g : Gam} (hC : C 10 [.own .loan (iL zs)] = .ret (.val (.int (nx zs))) [.own .loan (iL (rs zs))]) (hg : g[1]? = some (.own .mine (iL zs))) : evalE C G (.blt .int (.cons (.call 10 (.cons .m (.var 1) .nil)) .nil)) g = .ok (.val (.int (nx zs))) (g.set 1 (.own .mine (iL (rs zs)))) := by
  refine int_e ?_
  simp [evalSs, evalS, seqF, evalE, evalEs, evalPs, evalAs, contents, content, runE, bnd, opt, pur, bltD, binD, freeze, store, argOf, doCall, slotsOf, Arg.slot, refsOf, noTwice, giveBack, retF, setF, lim, hg, hC]
end
theorem as_map {α : Type} {e : α → D} {Q : α → Prop} : ∀ (ds : List D), (∀ d ∈ ds, ∃ a, d = e a ∧ Q a) → ∃ xs : List α, ds = xs.map e ∧ (∀ a ∈ xs, Q a) ∧ xs.length = ds.length := by
  intro ds
  induction ds with
  | nil => intro _; exact ⟨[], rfl, (fun a h => nomatch h), rfl⟩
  | cons d ds ih =>
    intro h
    obtain ⟨a, rfl, ha⟩ := h d (List.mem_cons_self ..)
    obtain ⟨xs, rfl, h2, h3⟩ := ih (fun d hd => h d (List.mem_cons_of_mem _ hd))
    refine ⟨a :: xs, rfl, ?_, by simp⟩
    intro b hb
    rcases List.mem_cons.1 hb with rfl | hb
    · exact ha
    · exact h2 b hb
structure Nz (c p : Nat) (d : D) : Prop where
  lay : PyData.canLay0 d = true
  dep : PyData.depth d ≤ p
  sho : PyData.showable d = true
  cost : reprCost d ≤ c
  free : ∀ k, 1114112 ≤ k → k ∉ d.shown.cps.toList
theorem Nz.okR {c p : Nat} {d : D} (h : Nz c p d) (hc : c ≤ 16000000) (hp : p ≤ 64) : okR d := by
  have h1 : shapedD d = true := by
    unfold shapedD SeqAt.shaped
    rw [h.lay, Bool.true_and]
    exact decide_eq_true (Nat.le_trans h.dep hp)
  refine ⟨?_, ?_⟩
  · rw [h1, h.sho, Bool.true_and, Bool.true_and]
    exact decide_eq_true (by have := h.cost; unfold DK.lim; omega)
  · unfold PyData.strOk
    rw [Array.all_eq_true_iff_forall_mem]
    intro k hk
    rw [decide_eq_true_iff]
    rcases Nat.lt_or_ge k 1114112 with hh | hh
    · exact hh
    · exact absurd (Array.mem_toList_iff.2 hk) (h.free k hh)
theorem Nz.shaped {c p : Nat} {d : D} (h : Nz c p d) (hp : p ≤ 64) : shapedD d = true := by
  unfold shapedD SeqAt.shaped
  rw [h.lay, Bool.true_and]
  exact decide_eq_true (Nat.le_trans h.dep hp)
theorem nz_int {i : Int} (h : i.natAbs < 2 ^ 1000) : Nz 2000 0 (.int i) := by
  refine ⟨rfl, Nat.le_refl _, ?_, Nat.le_refl _, fun k hk => shown_int_free' ⟨by omega, by omega⟩ i⟩
  rw [PyData.showable]
  exact decide_eq_true (Nat.lt_trans (log_lt h (by decide)) (by decide))
theorem nz_all {c p : Nat} : ∀ (ds : List D), (∀ d ∈ ds, Nz c p d) → PyData.canLayAll0 ds = true ∧ PyData.depthAll ds ≤ p ∧ PyData.showableAll ds = true ∧ reprCostL ds ≤ ds.length * (c + 2) ∧ ∀ k, 1114112 ≤ k → ∀ t ∈ PyData.shownAll ds, k ∉ t.cps.toList := by
  intro ds
  induction ds with
  | nil => intro _; exact ⟨rfl, Nat.zero_le _, rfl, Nat.zero_le _, fun k _ t ht => nomatch ht⟩
  | cons d ds ih =>
    intro h
    obtain ⟨h1, h2, h3, h4, h5⟩ := ih (fun e he => h e (List.mem_cons_of_mem _ he))
    have hd := h d (List.mem_cons_self ..)
    refine ⟨?_, ?_, ?_, ?_, fun k hk => shownAll_free (fun x hx => (h x hx).free k hk)⟩
    · rw [PyData.canLayAll0, hd.lay, h1]; rfl
    · rw [PyData.depthAll]; exact Nat.max_le.2 ⟨hd.dep, h2⟩
    · rw [PyData.showableAll, hd.sho, h3]; rfl
    · rw [reprCostL, List.length_cons, Nat.succ_mul]; have := hd.cost; omega
theorem nz_tuple {c p : Nat} {ds : List D} (h : ∀ d ∈ ds, Nz c p d) : Nz (ds.length * (c + 2) + 4) (p + 1) (.tuple ds) := by
  obtain ⟨h1, h2, h3, h4, h5⟩ := nz_all ds h
  refine ⟨by rw [PyData.canLay0]; exact h1, by rw [PyData.depth]; omega, by rw [PyData.showable]; exact h3, by rw [reprCost]; omega, ?_⟩
  intro k hk
  rw [PyData.shown]
  unfold tupleText
  rw [mem_cps_append, mem_cps_append, mem_join, signs_lparen, signs_sep]
  have e1 : ((",)" : String) : Str).cps.toList = [44, 41] := by decide
  have e2 : ((")" : String) : Str).cps.toList = [41] := by decide
  rintro ((hm | ⟨t, ht, hm⟩ | ⟨_, hm⟩) | hm)
  · simp at hm; omega
  · exact h5 k hk t ht hm
  · simp at hm; omega
  · split at hm
    · rw [e1] at hm; simp at hm; omega
    · rw [e2] at hm; simp at hm; omega
theorem nz_list {c p : Nat} {ds : List D} (h : ∀ d ∈ ds, Nz c p d) : Nz (ds.length * (c + 2) + 4) (p + 1) (.list ds) := by
  obtain ⟨h1, h2, h3, h4, h5⟩ := nz_all ds h
  refine ⟨by rw [PyData.canLay0]; exact h1, by rw [PyData.depth]; omega, by rw [PyData.showable]; exact h3, by rw [reprCost]; omega, ?_⟩
  intro k hk
  rw [PyData.shown_list, mem_cps_append, mem_cps_append, mem_join, signs_lbrack, signs_sep, signs_rbrack]
  rintro ((hm | ⟨t, ht, hm⟩ | ⟨_, hm⟩) | hm)
  · simp at hm; omega
  · exact h5 k hk t ht hm
  · simp at hm; omega
  · simp at hm; omega
theorem Nz.mono {c c' p p' : Nat} {d : D} (h : Nz c p d) (hc : c ≤ c') (hp : p ≤ p') : Nz c' p' d := ⟨h.lay, Nat.le_trans h.dep hp, h.sho, Nat.le_trans h.cost hc, h.free⟩
theorem nz_two {c p : Nat} {a b : D} (ha : Nz c p a) (hb : Nz c p b) : Nz (2 * (c + 2) + 4) (p + 1) (.tuple [a, b]) :=
  nz_tuple (ds := [a, b]) (fun d hd => by
    rcases List.mem_cons.1 hd with rfl | hd
    · exact ha
    · rw [List.mem_singleton] at hd; subst hd; exact hb)
theorem nz_l2 {c p : Nat} {a b : D} (ha : Nz c p a) (hb : Nz c p b) : Nz (2 * (c + 2) + 4) (p + 1) (.list [a, b]) :=
  nz_list (ds := [a, b]) (fun d hd => by
    rcases List.mem_cons.1 hd with rfl | hd
    · exact ha
    · rw [List.mem_singleton] at hd; subst hd; exact hb)
theorem nz_l3 {c p : Nat} {a b e : D} (ha : Nz c p a) (hb : Nz c p b) (he : Nz c p e) : Nz (3 * (c + 2) + 4) (p + 1) (.list [a, b, e]) :=
  nz_list (ds := [a, b, e]) (fun d hd => by
    rcases List.mem_cons.1 hd with rfl | hd
    · exact ha
    · rcases List.mem_cons.1 hd with rfl | hd
      · exact hb
      · rw [List.mem_singleton] at hd; subst hd; exact he)
theorem nz_nD {k : Nat} (h : k < 2 ^ 1000) : Nz 2000 0 (nD k) := nz_int (by simpa using h)
section
variable {C : Nat → List Slot → CRes} {G : List D}
theorem evalPs1 {e : E} {g g1 : Gam} {v : EV} (h : evalE C G e g = .ok v g1) : evalPs C G (.cons e .nil) g = .ok [v] g1 := by
  rw [evalPs, evalPs]; unfold bnd pur; rw [h]
theorem range_n {e : E} {g g1 : Gam} {i : Int} (k : Nat) (h : evalE C G e g = .ok (.val (.int i)) g1) (hi : i = k) (hk : k ≤ 1000000) : evalI C G (.range (.cons e .nil)) g = .ok ((List.range k).map nD, []) g1 := by
  subst hi; exact range_e k (evalPs1 h) hk
theorem more_e {zs ys : List Int} {g : Gam} (hC : C 11 [.own .loan (iL zs), .val (.int 200)] = .ret (.own (iL ys)) [.own .loan (iL (rs (rs zs))), .no]) (hg : g[1]? = some (.own .mine (iL zs))) : evalE C G (.call 11 (.cons .m (.var 1) (.cons .r (.cst (.int (200))) .nil))) g = .ok (.own (iL ys)) (g.set 1 (.own .mine (iL (rs (rs zs))))) := by
  simp [evalSs, evalS, seqF, evalE, evalEs, evalPs, evalAs, contents, content, runE, bnd, opt, pur, bltD, binD, freeze, store, argOf, doCall, slotsOf, Arg.slot, refsOf, noTwice, giveBack, retF, setF, lim, hg, hC]
theorem pick_e {zs : List Int} {g : Gam} {e : E} {ss : List D} {R : D} (he : evalE C G e g = .ok (.own ss) g) (hC : C 12 [.own .loan (iL zs), .val (.list ss)] = .ret (.val R) [.own .loan (iL (rs zs)), .no]) (hg : g[1]? = some (.own .mine (iL zs))) : evalE C G (.call 12 (.cons .m (.var 1) (.cons .r e .nil))) g = .ok (.val R) (g.set 1 (.own .mine (iL (rs zs)))) := by
  simp [evalSs, evalS, seqF, evalE, evalEs, evalPs, evalAs, contents, content, runE, bnd, opt, pur, bltD, binD, freeze, store, argOf, doCall, slotsOf, Arg.slot, refsOf, noTwice, giveBack, retF, setF, lim, hg, hC, he]
end
section
variable {C : Nat → List Slot → CRes} {G : List D}
theorem dcomp {α : Type} {elt : E} {it : I} (g : List Int → Gam) (h : List Int → D → Gam) (i : Nat) {zs0 zs : List Int} (xs : List α) (e : α → D) (hI : evalI C G it (g zs0) = .ok (xs.map e, []) (g zs)) (hl : xs.length ≤ 1000000) (h1 : ∀ zs d, assignT (.name i) d (g zs) = some (h zs d)) (h2 : ∀ zs d, wipeG (h zs d) [i] = g zs) (h3 : ∀ zs, wipeG (g zs) [i] = g zs) (h4 : ∀ zs zs', restoreG (g zs) (g zs') [i] = g zs') (P : α → D → Prop) (helt : ∀ x ∈ xs, ∀ zs, ∃ v zs', evalE C G elt (h zs (e x)) = .ok (.val v) (h zs' (e x)) ∧ P x v) : ∃ ds zs', evalE C G (.comp elt (.name i) it .nil [i]) (g zs0) = .ok (.own ds) (g zs') ∧ ds.length = xs.length ∧ ∀ d ∈ ds, ∃ x ∈ xs, P x d := by
  obtain ⟨ds, g', k1, ⟨zs', rfl⟩, k3, k4⟩ := compF_rel (own := [i]) (set := assignT (.name i)) (cs := evalCs C G .nil) (elt := bnd (evalE C G elt) DK.freeze) e (fun q => ∃ zs, q = g zs) P xs [] (g zs) ⟨zs, rfl⟩ (by
    intro x hx q hq
    obtain ⟨zs1, rfl⟩ := hq
    obtain ⟨v, zs2, e1, e2⟩ := helt x hx zs1
    exact ⟨h zs1 (e x), v, h zs2 (e x), h1 _ _, rfl, by unfold bnd; rw [e1]; rfl, e2, zs2, h2 _ _⟩)
  refine ⟨ds, zs', ?_, k3, k4⟩
  rw [← h3 zs, List.nil_append] at k1
  have := comp_lk (lk := []) (ks := []) (g2 := g zs) hI (by rw [List.length_map]; exact hl) rfl k1 rfl
  rw [h4] at this
  exact this
end
theorem nat_of {i : Int} {a b : Nat} (h1 : (a : Int) ≤ i) (h2 : i < b) : ∃ k : Nat, i = k ∧ a ≤ k ∧ k < b := ⟨i.toNat, by omega, by omega, by omega⟩
theorem mod_nat (v : Int) (m : Nat) (hm : 0 < m) : ∃ k : Nat, v % (m : Int) = k ∧ k < m := by
  have := Int.emod_nonneg v (show (m : Int) ≠ 0 by omega)
  have := Int.emod_lt_of_pos v (show (0 : Int) < m by omega)
  exact ⟨(v % (m : Int)).toNat, by omega, by omega⟩
end LK
end
section
set_option maxRecDepth 100000
namespace LK
open PySem L2 DK PySem.Spec PyProof.Rows
/-! ### terms -/
def Leaf (d : D) : Prop := isTupD d = false ∧ PyData.canLay0 d = true ∧ PyData.depth d = 0
def Tm (m : Nat) : Nat → D → Prop
  | 0, d => Leaf d
  | p + 1, d => Leaf d ∨ ∃ xs, d = .tuple xs ∧ xs.length ≤ m ∧ ∀ x ∈ xs, Tm m p x
theorem Tm.mono {m m' : Nat} (hm : m ≤ m') : ∀ {p p' : Nat} {d : D}, p ≤ p' → Tm m p d → Tm m' p' d
  | 0, 0, _, _, h => h
  | 0, p' + 1, _, _, h => Or.inl h
  | p + 1, 0, _, hp, _ => absurd hp (by omega)
  | p + 1, p' + 1, d, hp, h => by
    rcases h with h | ⟨xs, rfl, h1, h2⟩
    · exact Or.inl h
    · exact Or.inr ⟨xs, rfl, by omega, fun x hx => Tm.mono hm (by omega) (h2 x hx)⟩
theorem Tm.lay {m : Nat} : ∀ {p : Nat} {d : D}, Tm m p d → PyData.canLay0 d = true ∧ PyData.depth d ≤ p
  | 0, d, h => ⟨h.2.1, by rw [h.2.2]; exact Nat.le_refl _⟩
  | p + 1, d, h => by
    rcases h with h | ⟨xs, rfl, h1, h2⟩
    · exact ⟨h.2.1, by rw [h.2.2]; omega⟩
    · have key : ∀ ys : List D, (∀ x ∈ ys, Tm m p x) → PyData.canLayAll0 ys = true ∧ PyData.depthAll ys ≤ p := by
        intro ys
        induction ys with
        | nil => intro _; exact ⟨rfl, Nat.zero_le _⟩
        | cons y ys ih =>
          intro h
          obtain ⟨a1, a2⟩ := Tm.lay (h y (List.mem_cons_self ..))
          obtain ⟨b1, b2⟩ := ih (fun x hx => h x (List.mem_cons_of_mem _ hx))
          exact ⟨by rw [PyData.canLayAll0, a1, b1]; rfl, by rw [PyData.depthAll]; exact Nat.max_le.2 ⟨a2, b2⟩⟩
      obtain ⟨k1, k2⟩ := key xs h2
      exact ⟨by rw [PyData.canLay0]; exact k1, by rw [PyData.depth]; omega⟩
theorem Tm.shaped {m p : Nat} {d : D} (h : Tm m p d) (hp : p ≤ 64) : shapedD d = true := by
  obtain ⟨h1, h2⟩ := h.lay
  unfold shapedD SeqAt.shaped
  rw [h1, Bool.true_and]
  exact decide_eq_true (by omega)
theorem leaf_int (i : Int) : Leaf (.int i) := ⟨rfl, rfl, rfl⟩
theorem leaf_none : Leaf .none := ⟨rfl, rfl, rfl⟩
theorem leaf_str {s : PySem.Str} (h : PyData.strOk s = true) : Leaf (.str s) := ⟨rfl, h, rfl⟩
theorem Tm.items {m p : Nat} {xs : List D} (h : Tm m p (.tuple xs)) : xs.length ≤ m ∧ 1 ≤ p ∧ ∀ x ∈ xs, Tm m (p - 1) x := by
  cases p with
  | zero => have := h.1; cases this
  | succ p =>
    rcases h with h | ⟨ys, e, h1, h2⟩
    · have := h.1; cases this
    · cases e; exact ⟨h1, by omega, h2⟩
theorem tm_tuple {m p : Nat} {xs : List D} (h1 : xs.length ≤ m) (h2 : ∀ x ∈ xs, Tm m p x) : Tm m (p + 1) (.tuple xs) := Or.inr ⟨xs, rfl, h1, h2⟩
/-! ### the forms -/
def tupAll (f : D → Bool) : D → Bool
  | .tuple xs => xs.all f
  | _ => false
def rowB : D → Bool := tupAll isIntD
def prB : D → Bool := tupAll rowB
def lenD : D → Nat
  | .tuple xs => xs.length
  | _ => 0
def mapB : D → Bool := tupAll fun d => prB d && decide (lenD d = 2)
theorem boolL_f {α : Type} (f : α → Bool) : ∀ (xs : List α), boolL (xs.map fun x => PyData.bool (f x)) = some (xs.map f) := by
  intro xs
  induction xs with
  | nil => rfl
  | cons x xs ih => rw [List.map_cons, boolL, ih]; rfl
theorem all_f {α : Type} (f : α → Bool) (xs : List α) : bltD .all [.list (xs.map fun x => PyData.bool (f x))] = some (.val (.bool (xs.all f))) := by
  rw [bltD, boolL_f, Option.map_some]
  simp [List.all_map]
section
variable {C : Nat → List Slot → CRes}
theorem istup_e {i : Nat} {d : D} {g : Gam} (h : g[i]? = some (.val d)) : evalE C l.G (.blt .istup (.cons (.var i) .nil)) g = .ok (.val (.bool (isTupD d))) g := by
  simp [evalSs, evalS, seqF, evalE, evalEs, evalPs, evalAs, contents, content, runE, bnd, opt, pur, bltD, binD, freeze, store, argOf, doCall, slotsOf, Arg.slot, refsOf, noTwice, giveBack, retF, setF, lim, h]
theorem and_ff {G : List D} {a b : E} {g g1 : Gam} (h1 : evalE C G a g = .ok (.val (.bool false)) g1) : evalE C G (.and a b) g = .ok (.val (.bool false)) g1 := by
  simp [evalSs, evalS, seqF, evalE, evalEs, evalPs, evalAs, contents, content, runE, bnd, opt, pur, bltD, binD, freeze, store, argOf, doCall, slotsOf, Arg.slot, refsOf, noTwice, giveBack, retF, setF, lim, h1, truth]
theorem forms_e {elt : E} {i j : Nat} {d : D} {g g0 : Gam} {m p : Nat} (hT : Tm m p d) (hm : m ≤ 1000000) (f : D → Bool) (h : g[i]? = some (.val d)) (hw : wipeG g [j] = g0) (hr : restoreG g g0 [j] = g) (g1 : D → Gam)
    (he : ∀ x, Tm m (p - 1) x → assignT (.name j) x g0 = some (g1 x) ∧ evalE C l.G elt (g1 x) = .ok (.val (.bool (f x))) (g1 x) ∧ wipeG (g1 x) [j] = g0) :
    evalE C l.G (.and (.blt .istup (.cons (.var i) .nil)) (.blt .all (.cons (.comp elt (.name j) (.e (.var i)) .nil [j]) .nil))) g = .ok (.val (.bool (tupAll f d))) g := by
  have ht := istup_e (C := C) h
  by_cases hd : isTupD d = true
  · cases d with
    | tuple xs =>
      obtain ⟨h1, h2, h3⟩ := hT.items
      rw [hd] at ht
      refine and_tt ht ?_
      have hI : evalI C l.G (.e (.var i)) g = .ok (xs.map id, []) g := by
        unfold evalI
        rw [List.map_id]
        simp [evalSs, evalS, seqF, evalE, evalEs, evalPs, evalAs, contents, content, runE, bnd, opt, pur, bltD, binD, freeze, store, argOf, doCall, slotsOf, Arg.slot, refsOf, noTwice, giveBack, retF, setF, lim, h, walkOf, itemsW, lockOf]
      have hm' := comp_all (C := C) (G := l.G) (elt := elt) (tg := .name j) (own := [j]) xs id g1 (fun x => PyData.bool (f x)) hI (by omega) hw hr (fun x hx => by
        obtain ⟨a, b, c⟩ := he x (h3 x hx)
        exact ⟨a, frz_val b, c⟩)
      exact all_e hm' (all_f f xs)
    | _ => cases hd
  · have hd : isTupD d = false := by simpa using hd
    rw [hd] at ht
    refine (and_ff ht).trans ?_
    cases d <;> first | rfl | cases hd
theorem isint_e {i : Nat} {d : D} {g : Gam} (h : g[i]? = some (.val d)) : evalE C l.G (.blt .isint (.cons (.var i) .nil)) g = .ok (.val (.bool (isIntD d))) g := by
  simp [evalSs, evalS, seqF, evalE, evalEs, evalPs, evalAs, contents, content, runE, bnd, opt, pur, bltD, binD, freeze, store, argOf, doCall, slotsOf, Arg.slot, refsOf, noTwice, giveBack, retF, setF, lim, h]
theorem ret1 {e : E} {d r : D} (h : evalE C l.G e [.val d, .no] = .ok (.val r) [.val d, .no]) : evalSs C l.G (.cons (.ret e) .nil) [.val d, .no] = .ret (.val r) [.val d, .no] := ret_val h
end
theorem int_ok (n : Nat) (d : D) : callN l.P l.G (n + 1) 0 [.val d] = .ret (.val (.bool (isIntD d))) [.no] :=
  callN_by (fn := f0.fn) rfl rfl (ret_val (isint_e (i := 0) (g := [.val d]) rfl)) rfl
theorem row_ok (n : Nat) {m p : Nat} {d : D} (hT : Tm m p d) (hm : m ≤ 1000000) : callN l.P l.G (n + 2) 1 [.val d] = .ret (.val (.bool (rowB d))) [.no] := by
  have h := forms_e (C := callN l.P l.G (n + 1)) (elt := .call 0 (.cons .r (.var 1) .nil)) (i := 0) (j := 1) (g := [.val d, .no]) (g0 := [.val d, .no]) hT hm isIntD rfl rfl rfl (fun x => [.val d, .val x]) (fun x _ => ⟨rfl, call1v rfl (int_ok n x), rfl⟩)
  exact callN_by (fn := f1.fn) rfl rfl (ret1 h) rfl
theorem lrow_ok (n : Nat) {m p : Nat} {d : D} (hT : Tm m p d) (hm : m ≤ 1000000) : callN l.P l.G (n + 1) 15 [.val d] = .ret (.val (.bool (rowB d))) [.no] := by
  have h := forms_e (C := callN l.P l.G n) (elt := .blt .isint (.cons (.var 1) .nil)) (i := 0) (j := 1) (g := [.val d, .no]) (g0 := [.val d, .no]) hT hm isIntD rfl rfl rfl (fun x => [.val d, .val x]) (fun x _ => ⟨rfl, isint_e rfl, rfl⟩)
  exact callN_by (fn := f15.fn) rfl rfl (ret1 h) rfl
theorem pr_ok (n : Nat) {m p : Nat} {d : D} (hT : Tm m p d) (hm : m ≤ 1000000) : callN l.P l.G (n + 3) 2 [.val d] = .ret (.val (.bool (prB d))) [.no] := by
  have h := forms_e (C := callN l.P l.G (n + 2)) (elt := .call 1 (.cons .r (.var 1) .nil)) (i := 0) (j := 1) (g := [.val d, .no]) (g0 := [.val d, .no]) hT hm rowB rfl rfl rfl (fun x => [.val d, .val x]) (fun x hx => ⟨rfl, call1v rfl (row_ok n hx hm), rfl⟩)
  exact callN_by (fn := f2.fn) rfl rfl (ret1 h) rfl
theorem lpr_ok (n : Nat) {m p : Nat} {d : D} (hT : Tm m p d) (hm : m ≤ 1000000) : callN l.P l.G (n + 2) 16 [.val d] = .ret (.val (.bool (prB d))) [.no] := by
  have h := forms_e (C := callN l.P l.G (n + 1)) (elt := .call 15 (.cons .r (.var 1) .nil)) (i := 0) (j := 1) (g := [.val d, .no]) (g0 := [.val d, .no]) hT hm rowB rfl rfl rfl (fun x => [.val d, .val x]) (fun x hx => ⟨rfl, call1v rfl (lrow_ok n hx hm), rfl⟩)
  exact callN_by (fn := f16.fn) rfl rfl (ret1 h) rfl
theorem pr_elt {C : Nat → List Slot → CRes} {f i : Nat} {x : D} {g : Gam} (hg : g[i]? = some (.val x)) (h : C f [.val x] = .ret (.val (.bool (prB x))) [.no]) : evalE C l.G (.and (.call f (.cons .r (.var i) .nil)) (.cmp .eq (.blt .len (.cons (.var i) .nil)) (.cst (.int (2))))) g = .ok (.val (.bool (prB x && decide (lenD x = 2)))) g := by
  have hv : evalE C l.G (.var i) g = .ok (.val x) g := by simp [evalSs, evalS, seqF, evalE, evalEs, evalPs, evalAs, contents, content, runE, bnd, opt, pur, bltD, binD, freeze, store, argOf, doCall, slotsOf, Arg.slot, refsOf, noTwice, giveBack, retF, setF, lim, hg]
  have hc := call1v (G := l.G) hv h
  cases hp : prB x with
  | false => rw [hp] at hc; exact and_ff hc
  | true =>
    rw [hp] at hc
    refine and_tt hc ?_
    cases x with
    | tuple xs =>
      have hl : evalE C l.G (.blt .len (.cons (.var i) .nil)) g = .ok (.val (nD xs.length)) g := by simp [evalSs, evalS, seqF, evalE, evalEs, evalPs, evalAs, contents, content, runE, bnd, opt, pur, bltD, binD, freeze, store, argOf, doCall, slotsOf, Arg.slot, refsOf, noTwice, giveBack, retF, setF, lim, hg]
      refine cmp_v hl rfl ?_
      by_cases e : xs.length = 2 <;> simp [cmpD, shapedD, SeqAt.shaped, PyData.eqv, PyData.canLay0, PyData.depth, lenD, e]
      omega
    | _ => cases hp
theorem map_ok' (n : Nat) {m p : Nat} {d : D} (hT : Tm m p d) (hm : m ≤ 1000000) : callN l.P l.G (n + 4) 3 [.val d] = .ret (.val (.bool (mapB d))) [.no] := by
  have h := forms_e (C := callN l.P l.G (n + 3)) (elt := .and (.call 2 (.cons .r (.var 1) .nil)) (.cmp .eq (.blt .len (.cons (.var 1) .nil)) (.cst (.int (2))))) (i := 0) (j := 1) (g := [.val d, .no]) (g0 := [.val d, .no]) hT hm (fun d => prB d && decide (lenD d = 2)) rfl rfl rfl (fun x => [.val d, .val x]) (fun x hx => ⟨rfl, pr_elt rfl (pr_ok n hx hm), rfl⟩)
  exact callN_by (fn := f3.fn) rfl rfl (ret1 h) rfl
def sMap : PySem.Str := ⟨#[109, 97, 112]⟩
def sRow : PySem.Str := ⟨#[114, 111, 119]⟩
theorem hf_map (C : Nat → List Slot → CRes) (d r : D) (h : C 3 [.val d] = .ret (.val r) [.no]) : evalSs C l.G b4 [.val (.str sMap), .val d] = .ret (.val r) [.val (.str sMap), .val d] := by
  refine (ss_next (g' := [.val (.str sMap), .val d]) rfl).trans (ret_val ?_)
  simp [evalSs, evalS, seqF, evalE, evalEs, evalPs, evalAs, contents, content, runE, bnd, opt, pur, bltD, binD, freeze, store, argOf, doCall, slotsOf, Arg.slot, refsOf, noTwice, giveBack, retF, setF, lim, dposD, kpos, h, sMap]
theorem hf_row (C : Nat → List Slot → CRes) (d r : D) (h : C 1 [.val d] = .ret (.val r) [.no]) : evalSs C l.G b4 [.val (.str sRow), .val d] = .ret (.val r) [.val (.str sRow), .val d] := by
  refine (ss_next (g' := [.val (.str sRow), .val d]) rfl).trans (ret_val ?_)
  simp [evalSs, evalS, seqF, evalE, evalEs, evalPs, evalAs, contents, content, runE, bnd, opt, pur, bltD, binD, freeze, store, argOf, doCall, slotsOf, Arg.slot, refsOf, noTwice, giveBack, retF, setF, lim, dposD, kpos, h, sRow]
theorem hfm_ok (n : Nat) {m p : Nat} {d : D} (hT : Tm m p d) (hm : m ≤ 1000000) : callN l.P l.G (n + 5) 4 [.val (.str sMap), .val d] = .ret (.val (.bool (mapB d))) [.no, .no] :=
  callN_by (fn := f4.fn) rfl rfl (hf_map (callN l.P l.G (n + 4)) d _ (map_ok' n hT hm)) rfl
theorem hfr_ok (n : Nat) {m p : Nat} {d : D} (hT : Tm m p d) (hm : m ≤ 1000000) : callN l.P l.G (n + 5) 4 [.val (.str sRow), .val d] = .ret (.val (.bool (rowB d))) [.no, .no] :=
  callN_by (fn := f4.fn) rfl rfl (hf_row (callN l.P l.G (n + 4)) d _ (row_ok (n + 2) hT hm)) rfl
theorem due_row (C : Nat → List Slot → CRes) (d r : D) (h : C 15 [.val d] = .ret (.val r) [.no]) : evalSs C l.G b17 [.val (.str sRow), .val d, .no] = .ret (.val r) [.val (.str sRow), .val d, .no] := by
  have hc : evalE C l.G (.cmp .eq (.var 0) (.cst (.str ⟨#[114, 111, 119]⟩))) [.val (.str sRow), .val d, .no] = .ok (.val (.bool true)) [.val (.str sRow), .val d, .no] := cmp_v (x := .str sRow) rfl rfl (by kernel_rfl)
  have h1 := call1v (C := C) (G := l.G) (e1 := .var 1) (g := [.val (.str sRow), .val d, .no]) rfl h
  have hs : evalS C l.G (.ifs (.cmp .eq (.var 0) (.cst (.str ⟨#[114, 111, 119]⟩))) (.cons (.ret (.call 15 (.cons .r (.var 1) .nil))) .nil) .nil) [.val (.str sRow), .val d, .no] = .ret (.val r) [.val (.str sRow), .val d, .no] := by
    unfold evalS runE
    rw [test_of hc]
    exact ret_val h1
  unfold b17
  rw [evalSs, seqF, hs]
theorem due_map (C : Nat → List Slot → CRes) (d r : D) (e : E) (h : evalE C l.G e [.val (.str sMap), .val d, .no] = .ok (.val r) [.val (.str sMap), .val d, .no]) : evalSs C l.G (.cons (.ifs (.cmp .eq (.var 0) (.cst (.str ⟨#[114, 111, 119]⟩))) (.cons (.ret (.call 15 (.cons .r (.var 1) .nil))) .nil) .nil) (.cons (.ret e) .nil)) [.val (.str sMap), .val d, .no] = .ret (.val r) [.val (.str sMap), .val d, .no] := by
  refine (ss_next (if_f (cmp_v (x := .str sMap) rfl rfl (by kernel_rfl)))).trans ?_
  exact ret_val h
theorem ldr_ok (n : Nat) {m p : Nat} {d : D} (hT : Tm m p d) (hm : m ≤ 1000000) : callN l.P l.G (n + 2) 17 [.val (.str sRow), .val d] = .ret (.val (.bool (rowB d))) [.no, .no] :=
  callN_by (fn := f17.fn) rfl rfl (due_row (callN l.P l.G (n + 1)) d _ (lrow_ok n hT hm)) rfl
theorem ldm_ok (n : Nat) {m p : Nat} {d : D} (hT : Tm m p d) (hm : m ≤ 1000000) : callN l.P l.G (n + 3) 17 [.val (.str sMap), .val d] = .ret (.val (.bool (mapB d))) [.no, .no] := by
  have h := forms_e (C := callN l.P l.G (n + 2)) (elt := .and (.call 16 (.cons .r (.var 2) .nil)) (.cmp .eq (.blt .len (.cons (.var 2) .nil)) (.cst (.int (2))))) (i := 1) (j := 2) (g := [.val (.str sMap), .val d, .no]) (g0 := [.val (.str sMap), .val d, .no]) hT hm (fun d => prB d && decide (lenD d = 2)) rfl rfl rfl (fun x => [.val (.str sMap), .val d, .val x]) (fun x hx => ⟨rfl, pr_elt rfl (lpr_ok n hx hm), rfl⟩)
  exact callN_by (fn := f17.fn) rfl rfl (due_map (callN l.P l.G (n + 2)) d _ _ h) rfl
theorem hf_bad (n : Nat) (s : PySem.Str) (d : D) (h : s ∈ [(⟨#[]⟩ : PySem.Str), ⟨#[70, 111, 114, 109]⟩, ⟨#[116, 101, 114, 109]⟩]) : callN l.P l.G (n + 1) 4 [.val (.str s), .val d] = .exc 4 [.no, .no] := by
  simp only [List.mem_cons, List.not_mem_nil, or_false] at h
  rcases h with rfl | rfl | rfl <;> kernel_rfl
end LK
end
section
set_option maxRecDepth 100000
namespace LK
open PySem L2 DK PySem.Spec PyProof.Rows
abbrev y1 : S := (.ifs (.or (.not (.blt .istup (.cons (.var 1) .nil))) (.cmp .eq (.bin .mod (.blt .int (.cons (.call 10 (.cons .m (.var 0) .nil)) .nil)) (.cst (.int (6)))) (.cst (.int (0))))) (.cons (.ret (.call 12 (.cons .m (.var 0) (.cons .r (.lst (.cons (.cst .none) (.cons (.cst (.str ⟨#[97, 100, 97]⟩)) (.cons (.cst (.str ⟨#[]⟩)) (.cons (.cst (.int (5))) (.cons (.tup .nil) (.cons (.tup (.cons (.cst (.int (1))) .nil)) (.cons (.tup (.cons (.tup .nil) .nil)) (.cons (.tup (.cons (.cst (.str ⟨#[97]⟩)) .nil)) (.cons (.var 1) .nil)))))))))) .nil)))) .nil) .nil)
abbrev y2 : S := (.ifs (.cmp .eq (.var 1) (.tup .nil)) (.cons (.ret (.call 12 (.cons .m (.var 0) (.cons .r (.lst (.cons (.tup (.cons (.cst (.int (0))) .nil)) (.cons (.tup (.cons (.cst (.str ⟨#[]⟩)) .nil)) (.cons (.tup (.cons (.tup .nil) .nil)) (.cons (.cst .none) .nil))))) .nil)))) .nil) .nil)
abbrev y3 : S := (.set 2 true (.bin .mod (.blt .int (.cons (.call 10 (.cons .m (.var 0) .nil)) .nil)) (.blt .len (.cons (.var 1) .nil))))
abbrev y4 : S := (.set 3 true (.bin .mod (.blt .int (.cons (.call 10 (.cons .m (.var 0) .nil)) .nil)) (.cst (.int (5)))))
abbrev y5 : S := (.ifs (.cmp .eq (.var 3) (.cst (.int (0)))) (.cons (.ret (.bin .add (.slc .hi (.var 1) (.var 2)) (.slc .lo (.var 1) (.bin .add (.var 2) (.cst (.int (1))))))) .nil) .nil)
abbrev y6 : S := (.ret (.ife (.cmp .eq (.var 3) (.cst (.int (1)))) (.bin .add (.var 1) (.slc2 (.var 1) (.var 2) (.bin .add (.var 2) (.cst (.int (1)))))) (.bin .add (.bin .add (.slc .hi (.var 1) (.var 2)) (.tup (.cons (.call 18 (.cons .m (.var 0) (.cons .r (.sub (.var 1) (.var 2)) .nil))) .nil))) (.slc .lo (.var 1) (.bin .add (.var 2) (.cst (.int (1))))))))
abbrev z7 : Ss := .nil
abbrev z6 : Ss := .cons y6 z7
abbrev z5 : Ss := .cons y5 z6
abbrev z4 : Ss := .cons y4 z5
abbrev z3 : Ss := .cons y3 z4
abbrev z2 : Ss := .cons y2 z3
abbrev z1 : Ss := .cons y1 z2
abbrev e9 : E := (.lst (.cons (.cst .none) (.cons (.cst (.str ⟨#[97, 100, 97]⟩)) (.cons (.cst (.str ⟨#[]⟩)) (.cons (.cst (.int (5))) (.cons (.tup .nil) (.cons (.tup (.cons (.cst (.int (1))) .nil)) (.cons (.tup (.cons (.tup .nil) .nil)) (.cons (.tup (.cons (.cst (.str ⟨#[97]⟩)) .nil)) (.cons (.var 1) .nil))))))))))
abbrev e4 : E := (.lst (.cons (.tup (.cons (.cst (.int (0))) .nil)) (.cons (.tup (.cons (.cst (.str ⟨#[]⟩)) .nil)) (.cons (.tup (.cons (.tup .nil) .nil)) (.cons (.cst .none) .nil)))))
theorem cut_lo (xs : List D) (k : Nat) (h : k ≤ xs.length) : DK.cutD xs (some (k : Int)) none = xs.drop k := by
  unfold DK.cutD
  have e1 : HT.sIx xs.length xs.length none = xs.length := rfl
  have e2 : HT.sIx xs.length 0 (some (k : Int)) = k := by
    unfold HT.sIx
    have : ¬ ((k : Int) < 0) := by omega
    simp [this]
    omega
  rw [e1, e2, List.take_of_length_le (by simp)]
theorem cut_hi (xs : List D) (k : Nat) (h : k ≤ xs.length) : DK.cutD xs none (some (k : Int)) = xs.take k := by
  unfold DK.cutD
  have e1 : HT.sIx xs.length 0 none = 0 := rfl
  have e2 : HT.sIx xs.length xs.length (some (k : Int)) = k := by
    unfold HT.sIx
    have : ¬ ((k : Int) < 0) := by omega
    simp [this]
    omega
  rw [e1, e2]; simp
theorem cut_both (xs : List D) (k j : Nat) (h : k ≤ xs.length) (hj : j ≤ xs.length) : DK.cutD xs (some (k : Int)) (some (j : Int)) = (xs.drop k).take (j - k) := by
  unfold DK.cutD
  have e2 : HT.sIx xs.length 0 (some (k : Int)) = k := by
    unfold HT.sIx
    have : ¬ ((k : Int) < 0) := by omega
    simp [this]
    omega
  have e3 : HT.sIx xs.length xs.length (some (j : Int)) = j := by
    unfold HT.sIx
    have : ¬ ((j : Int) < 0) := by omega
    simp [this]
    omega
  rw [e2, e3]
section
variable {C : Nat → List Slot → CRes} {G : List D}
theorem slc_hi {a b : E} {g g1 g2 : Gam} {xs : List D} {i : Int} {k : Nat} (h1 : evalE C G a g = .ok (.val (.tuple xs)) g1) (h2 : evalE C G b g1 = .ok (.val (.int i)) g2) (hi : i = k) (hk : k ≤ xs.length) : evalE C G (.slc .hi a b) g = .ok (.val (.tuple (xs.take k))) g2 := by
  subst hi
  have h3 := cut_hi xs k hk
  simp [evalSs, evalS, seqF, evalE, evalEs, evalPs, evalAs, contents, content, runE, bnd, opt, pur, bltD, binD, freeze, store, argOf, doCall, slotsOf, Arg.slot, refsOf, noTwice, giveBack, retF, setF, lim, h1, h2, intV, slcD, sliceD, h3]
theorem slc_lo {a b : E} {g g1 g2 : Gam} {xs : List D} {i : Int} {k : Nat} (h1 : evalE C G a g = .ok (.val (.tuple xs)) g1) (h2 : evalE C G b g1 = .ok (.val (.int i)) g2) (hi : i = k) (hk : k ≤ xs.length) : evalE C G (.slc .lo a b) g = .ok (.val (.tuple (xs.drop k))) g2 := by
  subst hi
  have h3 := cut_lo xs k hk
  simp [evalSs, evalS, seqF, evalE, evalEs, evalPs, evalAs, contents, content, runE, bnd, opt, pur, bltD, binD, freeze, store, argOf, doCall, slotsOf, Arg.slot, refsOf, noTwice, giveBack, retF, setF, lim, h1, h2, intV, slcD, sliceD, h3]
theorem slc_both {a b c : E} {g g1 g2 g3 : Gam} {xs : List D} {i j : Int} {k m : Nat} (h1 : evalE C G a g = .ok (.val (.tuple xs)) g1) (h2 : evalE C G b g1 = .ok (.val (.int i)) g2) (h2' : evalE C G c g2 = .ok (.val (.int j)) g3) (hi : i = k) (hj : j = m) (hk : k ≤ xs.length) (hm : m ≤ xs.length) : evalE C G (.slc2 a b c) g = .ok (.val (.tuple ((xs.drop k).take (m - k)))) g3 := by
  subst hi hj
  have h3 := cut_both xs k m hk hm
  simp [evalSs, evalS, seqF, evalE, evalEs, evalPs, evalAs, contents, content, runE, bnd, opt, pur, bltD, binD, freeze, store, argOf, doCall, slotsOf, Arg.slot, refsOf, noTwice, giveBack, retF, setF, lim, h1, h2, h2', intV, slcD, sliceD, h3]
theorem addT {a b : E} {g g1 g2 : Gam} {xs ys : List D} (h1 : evalE C G a g = .ok (.val (.tuple xs)) g1) (h2 : evalE C G b g1 = .ok (.val (.tuple ys)) g2) (hl : xs.length + ys.length ≤ 1000000) : evalE C G (.bin .add a b) g = .ok (.val (.tuple (xs ++ ys))) g2 := by
  have hl2 : xs.length + ys.length ≤ DK.lim := Nat.le_of_lt (lim_of hl)
  have hb : binD .add (.tuple xs) (.tuple ys) = some (.val (.tuple (xs ++ ys))) := by rw [binD]; rw [if_pos hl2]
  rw [evalE]
  unfold bnd
  rw [h1]; dsimp only
  rw [h2]; dsimp only
  rw [show content (.val (.tuple xs)) g2 = .ok (.tuple xs) g2 from rfl]; dsimp only
  rw [show content (.val (.tuple ys)) g2 = .ok (.tuple ys) g2 from rfl]; dsimp only
  rw [hb]; rfl
theorem tup1 {a : E} {g g1 : Gam} {x : D} (h1 : evalE C G a g = .ok (.val x) g1) : evalE C G (.tup (.cons a .nil)) g = .ok (.val (.tuple [x])) g1 := by
  simp [evalSs, evalS, seqF, evalE, evalEs, evalPs, evalAs, contents, content, runE, bnd, opt, pur, bltD, binD, freeze, store, argOf, doCall, slotsOf, Arg.slot, refsOf, noTwice, giveBack, retF, setF, lim, h1]
theorem ife_t {c a b : E} {g g1 : Gam} {r : Res EV} (h1 : evalE C G c g = .ok (.val (.bool true)) g1) (h2 : evalE C G a g1 = r) : evalE C G (.ife c a b) g = r := by
  simp [evalSs, evalS, seqF, evalE, evalEs, evalPs, evalAs, contents, content, runE, bnd, opt, pur, bltD, binD, freeze, store, argOf, doCall, slotsOf, Arg.slot, refsOf, noTwice, giveBack, retF, setF, lim, h1, truth, h2]
theorem ife_f {c a b : E} {g g1 : Gam} {r : Res EV} (h1 : evalE C G c g = .ok (.val (.bool false)) g1) (h2 : evalE C G b g1 = r) : evalE C G (.ife c a b) g = r := by
  simp [evalSs, evalS, seqF, evalE, evalEs, evalPs, evalAs, contents, content, runE, bnd, opt, pur, bltD, binD, freeze, store, argOf, doCall, slotsOf, Arg.slot, refsOf, noTwice, giveBack, retF, setF, lim, h1, truth, h2]
theorem or_tt {a b : E} {g g1 : Gam} (h1 : evalE C G a g = .ok (.val (.bool true)) g1) : evalE C G (.or a b) g = .ok (.val (.bool true)) g1 := by
  simp [evalSs, evalS, seqF, evalE, evalEs, evalPs, evalAs, contents, content, runE, bnd, opt, pur, bltD, binD, freeze, store, argOf, doCall, slotsOf, Arg.slot, refsOf, noTwice, giveBack, retF, setF, lim, h1, truth]
theorem not_e {a : E} {g g1 : Gam} {k : Bool} (h1 : evalE C G a g = .ok (.val (.bool k)) g1) : evalE C G (.not a) g = .ok (.val (.bool (!k))) g1 := by
  simp [evalSs, evalS, seqF, evalE, evalEs, evalPs, evalAs, contents, content, runE, bnd, opt, pur, bltD, binD, freeze, store, argOf, doCall, slotsOf, Arg.slot, refsOf, noTwice, giveBack, retF, setF, lim, h1, truth]
theorem if_ret {c : E} {a b r : Ss} {g g1 g2 : Gam} {v : EV} (h1 : evalE C G c g = .ok (.val (.bool true)) g1) (h2 : evalSs C G a g1 = .ret v g2) : evalSs C G (.cons (.ifs c a b) r) g = .ret v g2 := by
  have hs : evalS C G (.ifs c a b) g = .ret v g2 := by
    unfold evalS runE
    rw [test_of h1]
    exact h2
  rw [evalSs, seqF, hs]
theorem ret_s {e : E} {d : D} {r : Ss} {g g1 : Gam} (h : evalE C G e g = .ok (.val d) g1) : evalSs C G (.cons (.ret e) r) g = .ret (.val d) g1 := by
  simp [evalSs, evalS, seqF, evalE, evalEs, evalPs, evalAs, contents, content, runE, bnd, opt, pur, bltD, binD, freeze, store, argOf, doCall, slotsOf, Arg.slot, refsOf, noTwice, giveBack, retF, setF, lim, h]
theorem nx0 {zs : List Int} {g : Gam} (hC : C 10 [.own .loan (iL zs)] = .ret (.val (.int (nx zs))) [.own .loan (iL (rs zs))]) (hg : g[0]? = some (.own .loan (iL zs))) : evalE C G (.blt .int (.cons (.call 10 (.cons .m (.var 0) .nil)) .nil)) g = .ok (.val (.int (nx zs))) (g.set 0 (.own .loan (iL (rs zs)))) := by
  refine int_e ?_
  simp [evalSs, evalS, seqF, evalE, evalEs, evalPs, evalAs, contents, content, runE, bnd, opt, pur, bltD, binD, freeze, store, argOf, doCall, slotsOf, Arg.slot, refsOf, noTwice, giveBack, retF, setF, lim, hg, hC]
theorem pk0 {zs : List Int} {g : Gam} {e : E} {ss : List D} {R : D} (he : evalE C G e g = .ok (.own ss) g) (hC : C 12 [.own .loan (iL zs), .val (.list ss)] = .ret (.val R) [.own .loan (iL (rs zs)), .no]) (hg : g[0]? = some (.own .loan (iL zs))) : evalE C G (.call 12 (.cons .m (.var 0) (.cons .r e .nil))) g = .ok (.val R) (g.set 0 (.own .loan (iL (rs zs)))) := by
  simp [evalSs, evalS, seqF, evalE, evalEs, evalPs, evalAs, contents, content, runE, bnd, opt, pur, bltD, binD, freeze, store, argOf, doCall, slotsOf, Arg.slot, refsOf, noTwice, giveBack, retF, setF, lim, hg, hC, he]
theorem sp0 {zs zs' : List Int} {g g1 : Gam} {e : E} {x R : D} (he : evalE C G e g = .ok (.val x) g) (hC : C 18 [.own .loan (iL zs), .val x] = .ret (.val R) [.own .loan (iL zs'), .no]) (hg : g[0]? = some (.own .loan (iL zs))) (h1 : g.set 0 (.own .loan (iL zs')) = g1) : evalE C G (.call 18 (.cons .m (.var 0) (.cons .r e .nil))) g = .ok (.val R) g1 := by
  subst h1
  simp [evalSs, evalS, seqF, evalE, evalEs, evalPs, evalAs, contents, content, runE, bnd, opt, pur, bltD, binD, freeze, store, argOf, doCall, slotsOf, Arg.slot, refsOf, noTwice, giveBack, retF, setF, lim, hg, hC, he]
end
theorem cmp_eq_int (a b : Int) : cmpD .eq (.int a) (.int b) = some (decide (a = b)) := by
  simp [cmpD, shapedD, SeqAt.shaped, PyData.eqv, PyData.canLay0, PyData.depth]
  by_cases h : a = b <;> simp [h]
theorem cmp_eq_nil {m p : Nat} {xs : List D} (h : Tm m p (.tuple xs)) (hp : p ≤ 64) : cmpD .eq (.tuple xs) (.tuple []) = some xs.isEmpty := by
  have h1 := h.shaped hp
  have h2 : shapedD (.tuple []) = true := rfl
  unfold cmpD
  rw [h1, h2]
  cases xs with
  | nil => rfl
  | cons x xs => rfl
def ss9 (d : D) : List D := [.none, .str ⟨#[97, 100, 97]⟩, .str ⟨#[]⟩, .int 5, .tuple [], .tuple [.int 1], .tuple [.tuple []], .tuple [.str ⟨#[97]⟩], d]
def ss4 : List D := [.tuple [.int 0], .tuple [.str ⟨#[]⟩], .tuple [.tuple []], .none]
theorem tm_nil (m p : Nat) : Tm m (p + 1) (.tuple []) := tm_tuple (Nat.zero_le _) (fun x hx => nomatch hx)
theorem tm_one {m p : Nat} {x : D} (h : Tm (m + 1) p x) : Tm (m + 1) (p + 1) (.tuple [x]) := tm_tuple (by simp) (fun y hy => by rw [List.mem_singleton] at hy; subst hy; exact h)
theorem tm_leaf {m p : Nat} {x : D} (h : Leaf x) : Tm m p x := by cases p with | zero => exact h | succ p => exact Or.inl h
theorem ss9_tm {m p : Nat} {d : D} (hT : Tm m p d) : ∀ x ∈ ss9 d, Tm (m + 1) (p + 2) x := by
  intro x hx
  unfold ss9 at hx
  simp only [List.mem_cons, List.not_mem_nil, or_false] at hx
  rcases hx with rfl | rfl | rfl | rfl | rfl | rfl | rfl | rfl | rfl
  · exact tm_leaf leaf_none
  · exact tm_leaf (leaf_str (by kernel_rfl))
  · exact tm_leaf (leaf_str (by kernel_rfl))
  · exact tm_leaf (leaf_int _)
  · exact tm_nil _ _
  · exact tm_one (tm_leaf (leaf_int _))
  · exact tm_one (tm_nil _ _)
  · exact tm_one (tm_leaf (leaf_str (by kernel_rfl)))
  · exact hT.mono (by omega) (by omega)
theorem ss4_tm (m p : Nat) : ∀ x ∈ ss4, Tm (m + 1) (p + 2) x := by
  intro x hx
  unfold ss4 at hx
  simp only [List.mem_cons, List.not_mem_nil, or_false] at hx
  rcases hx with rfl | rfl | rfl | rfl
  · exact tm_one (tm_leaf (leaf_int _))
  · exact tm_one (tm_leaf (leaf_str (by kernel_rfl)))
  · exact tm_one (tm_nil _ _)
  · exact tm_leaf leaf_none
theorem pk_in (n : Nat) (zs : List Int) (ss : List D) (h0 : 0 < ss.length) (h1 : ss.length ≤ 1000) : ∃ R ∈ ss, callN l.P l.G (n + 2) 12 [.own .loan (iL zs), .val (.list ss)] = .ret (.val R) [.own .loan (iL (rs zs)), .no] := by
  obtain ⟨k, h, e⟩ := pk_ok n zs ss h0 h1
  exact ⟨_, List.getElem_mem h, e⟩
theorem y1_ret (C : Nat → List Slot → CRes) (d R : D) (zs zs1 : List Int) (r : Ss) (hc : evalE C l.G (.or (.not (.blt .istup (.cons (.var 1) .nil))) (.cmp .eq (.bin .mod (.blt .int (.cons (.call 10 (.cons .m (.var 0) .nil)) .nil)) (.cst (.int (6)))) (.cst (.int (0))))) [.own .loan (iL zs), .val d, .no, .no] = .ok (.val (.bool true)) [.own .loan (iL zs1), .val d, .no, .no]) (hC : C 12 [.own .loan (iL zs1), .val (.list (ss9 d))] = .ret (.val R) [.own .loan (iL (rs zs1)), .no]) : evalSs C l.G (.cons y1 r) [.own .loan (iL zs), .val d, .no, .no] = .ret (.val R) [.own .loan (iL (rs zs1)), .val d, .no, .no] :=
  if_ret hc (ret_s (pk0 (e := e9) (ss := ss9 d) (g := [.own .loan (iL zs1), .val d, .no, .no]) (by kernel_rfl) hC rfl))
theorem sp_ok : ∀ (p n m : Nat) (d : D) (zs : List Int), Tm m p d → m ≤ 1000 → p ≤ 50 → ∃ d' zs', callN l.P l.G (n + p + 4) 18 [.own .loan (iL zs), .val d] = .ret (.val d') [.own .loan (iL zs'), .no] ∧ Tm (m + 1) (p + 2) d' := by
  intro p
  induction p with
  | zero =>
    intro n m d zs hT hm hp
    have hd : isTupD d = false := hT.1
    obtain ⟨R, hR, hC⟩ := pk_in (n + 1) zs (ss9 d) (by simp [ss9]) (by simp [ss9])
    have hb := y1_ret (callN l.P l.G (n + 3)) d R zs zs z2 (or_tt (not_e (k := false) (by rw [← hd]; exact istup_e (d := d) rfl))) hC
    exact ⟨R, rs zs, callN_by (fn := f18.fn) rfl rfl hb rfl, ss9_tm hT R hR⟩
  | succ q ih =>
    intro n m d zs hT hm hp
    by_cases hd : isTupD d = true
    · cases d with
      | tuple xs =>
        obtain ⟨i1, i2, i3⟩ := hT.items
        have hne := nx0 (C := callN l.P l.G (n + (q + 1) + 3)) (G := l.G) (g := [.own .loan (iL zs), .val (.tuple xs), .no, .no]) (nx_ok (n + (q + 1) + 2) zs) rfl
        have hcond := or_ff (not_e (istup_e (C := callN l.P l.G (n + (q + 1) + 3)) (i := 1) (d := .tuple xs) (g := [.own .loan (iL zs), .val (.tuple xs), .no, .no]) rfl)) (cmp_v (b := .cst (.int (0))) (mod_i (b := .cst (.int (6))) hne rfl (by decide)) rfl (cmp_eq_int _ _))
        by_cases h6 : nx zs % 6 = 0
        · rw [decide_eq_true h6] at hcond
          obtain ⟨R, hR, hC⟩ := pk_in (n + (q + 1) + 1) (rs zs) (ss9 (.tuple xs)) (by simp [ss9]) (by simp [ss9])
          have hb := y1_ret (callN l.P l.G (n + (q + 1) + 3)) (.tuple xs) R zs (rs zs) z2 hcond hC
          exact ⟨R, rs (rs zs), callN_by (fn := f18.fn) rfl rfl hb rfl, ss9_tm hT R hR⟩
        · rw [decide_eq_false h6] at hcond
          have hn := cmp_eq_nil hT (by omega)
          cases xs with
          | nil =>
            obtain ⟨R, hR, hC⟩ := pk_in (n + (q + 1) + 1) (rs zs) ss4 (by decide) (by decide)
            have hb : evalSs (callN l.P l.G (n + (q + 1) + 3)) l.G b18 [.own .loan (iL zs), .val (.tuple []), .no, .no] = .ret (.val R) [.own .loan (iL (rs (rs zs))), .val (.tuple []), .no, .no] :=
              (ss_next (if_f hcond)).trans (if_ret (g1 := [.own .loan (iL (rs zs)), .val (.tuple []), .no, .no]) (cmp_v (x := .tuple []) (y := .tuple []) rfl rfl hn) (ret_s (pk0 (e := e4) (ss := ss4) (g := [.own .loan (iL (rs zs)), .val (.tuple []), .no, .no]) (by kernel_rfl) hC rfl)))
            exact ⟨R, _, callN_by (fn := f18.fn) rfl rfl hb rfl, ss4_tm m (q + 1) R hR⟩
          | cons x r =>
            obtain ⟨a, ha, ha2⟩ := mod_nat (nx (rs zs)) (x :: r).length (by simp)
            obtain ⟨k, hk, hk2⟩ := mod_nat (nx (rs (rs zs))) 5 (by decide)
            have hxs : (x :: r).length ≤ m := i1
            generalize hX : x :: r = X at *
            have hlen : evalE (callN l.P l.G (n + (q + 1) + 3)) l.G (.blt .len (.cons (.var 1) .nil)) [.own .loan (iL (rs (rs zs))), .val (.tuple X), .no, .no] = .ok (.val (nD X.length)) [.own .loan (iL (rs (rs zs))), .val (.tuple X), .no, .no] := blt1 rfl rfl rfl
            have e3 := mod_i (nx0 (C := callN l.P l.G (n + (q + 1) + 3)) (G := l.G) (g := [.own .loan (iL (rs zs)), .val (.tuple X), .no, .no]) (nx_ok (n + (q + 1) + 2) (rs zs)) rfl) hlen (by omega)
            rw [ha] at e3
            have e4 := mod_i (b := .cst (.int (5))) (nx0 (C := callN l.P l.G (n + (q + 1) + 3)) (G := l.G) (g := [.own .loan (iL (rs (rs zs))), .val (.tuple X), .val (nD a), .no]) (nx_ok (n + (q + 1) + 2) (rs (rs zs))) rfl) rfl (by decide)
            have hk' : nx (rs (rs zs)) % 5 = (k : Int) := hk
            rw [hk'] at e4
            have hempty : X.isEmpty = false := by rw [← hX]; rfl
            rw [hempty] at hn
            have pre : evalSs (callN l.P l.G (n + (q + 1) + 3)) l.G b18 [.own .loan (iL zs), .val (.tuple X), .no, .no] = evalSs (callN l.P l.G (n + (q + 1) + 3)) l.G z5 [.own .loan (iL (rs (rs (rs zs)))), .val (.tuple X), .val (nD a), .val (nD k)] := by
              refine (ss_next (if_f hcond)).trans ?_
              refine (ss_next (if_f (g1 := [.own .loan (iL (rs zs)), .val (.tuple X), .no, .no]) (cmp_v (x := .tuple X) (y := .tuple []) rfl rfl hn))).trans ?_
              refine (ss_next (set_v e3 rfl)).trans ?_
              exact ss_next (set_v e4 rfl)
            let g5 : Gam := [.own .loan (iL (rs (rs (rs zs)))), .val (.tuple X), .val (nD a), .val (nD k)]
            have hHi : evalE (callN l.P l.G (n + (q + 1) + 3)) l.G (.slc .hi (.var 1) (.var 2)) g5 = .ok (.val (.tuple (X.take a))) g5 := slc_hi (g1 := g5) (xs := X) rfl rfl rfl (by omega)
            have hA1 : evalE (callN l.P l.G (n + (q + 1) + 3)) l.G (.bin .add (.var 2) (.cst (.int (1)))) g5 = .ok (.val (.int ((a : Int) + 1))) g5 := add_i (x := (a : Int)) (y := 1) rfl rfl
            have hLo : ∀ g : Gam, g[1]? = some (.val (.tuple X)) → g[2]? = some (.val (nD a)) → evalE (callN l.P l.G (n + (q + 1) + 3)) l.G (.slc .lo (.var 1) (.bin .add (.var 2) (.cst (.int (1))))) g = .ok (.val (.tuple (X.drop (a + 1)))) g := fun g h1 h2 => slc_lo (xs := X) (g1 := g) (i := (a : Int) + 1) (k := a + 1) (by simp [evalSs, evalS, seqF, evalE, evalEs, evalPs, evalAs, contents, content, runE, bnd, opt, pur, bltD, binD, freeze, store, argOf, doCall, slotsOf, Arg.slot, refsOf, noTwice, giveBack, retF, setF, lim, h1]) (add_i (x := (a : Int)) (y := 1) (g1 := g) (by simp [evalSs, evalS, seqF, evalE, evalEs, evalPs, evalAs, contents, content, runE, bnd, opt, pur, bltD, binD, freeze, store, argOf, doCall, slotsOf, Arg.slot, refsOf, noTwice, giveBack, retF, setF, lim, h2]) rfl) rfl (by omega)
            have htk : ∀ y ∈ X.take a, Tm (m + 1) (q + 2) y := fun y hy => (i3 y (List.mem_of_mem_take hy)).mono (by omega) (by omega)
            have hdr : ∀ y ∈ X.drop (a + 1), Tm (m + 1) (q + 2) y := fun y hy => (i3 y (List.mem_of_mem_drop hy)).mono (by omega) (by omega)
            by_cases hk0 : k = 0
            · have hc5 : evalE (callN l.P l.G (n + (q + 1) + 3)) l.G (.cmp .eq (.var 3) (.cst (.int (0)))) g5 = .ok (.val (.bool true)) g5 := cmp_v (x := nD k) (y := .int 0) rfl rfl (by rw [cmp_eq_int]; simp [hk0])
              have hb := pre.trans (if_ret hc5 (ret_s (addT (g1 := g5) (g2 := g5) hHi (hLo g5 rfl rfl) (by simp; omega))))
              refine ⟨_, _, callN_by (fn := f18.fn) rfl rfl hb rfl, tm_tuple (by simp; omega) (fun y hy => ?_)⟩
              rcases List.mem_append.1 hy with hy | hy
              · exact (htk y hy).mono (Nat.le_refl _) (by omega)
              · exact (hdr y hy).mono (Nat.le_refl _) (by omega)
            · have hc5 : evalE (callN l.P l.G (n + (q + 1) + 3)) l.G (.cmp .eq (.var 3) (.cst (.int (0)))) g5 = .ok (.val (.bool false)) g5 := cmp_v (x := nD k) (y := .int 0) rfl rfl (by rw [cmp_eq_int, decide_eq_false (by omega)])
              have pre2 := pre.trans (ss_next (g' := g5) (if_f hc5))
              by_cases hk1 : k = 1
              · have hc6 : evalE (callN l.P l.G (n + (q + 1) + 3)) l.G (.cmp .eq (.var 3) (.cst (.int (1)))) g5 = .ok (.val (.bool true)) g5 := cmp_v (x := nD k) (y := .int 1) rfl rfl (by rw [cmp_eq_int]; simp [hk1])
                have hs : evalE (callN l.P l.G (n + (q + 1) + 3)) l.G (.slc2 (.var 1) (.var 2) (.bin .add (.var 2) (.cst (.int (1))))) g5 = .ok (.val (.tuple ((X.drop a).take (a + 1 - a)))) g5 := slc_both (g1 := g5) (g2 := g5) (xs := X) (i := (a : Int)) (j := (a : Int) + 1) rfl rfl hA1 rfl rfl (by omega) (by omega)
                have hb := pre2.trans (ret_s (ife_t hc6 (addT (g1 := g5) (g2 := g5) (xs := X) rfl hs (by simp; omega))))
                refine ⟨_, _, callN_by (fn := f18.fn) rfl rfl hb rfl, tm_tuple (by simp; omega) (fun y hy => ?_)⟩
                rcases List.mem_append.1 hy with hy | hy
                · exact (i3 y hy).mono (by omega) (by omega)
                · exact (i3 y (List.mem_of_mem_drop (List.mem_of_mem_take hy))).mono (by omega) (by omega)
              · have hc6 : evalE (callN l.P l.G (n + (q + 1) + 3)) l.G (.cmp .eq (.var 3) (.cst (.int (1)))) g5 = .ok (.val (.bool false)) g5 := cmp_v (x := nD k) (y := .int 1) rfl rfl (by rw [cmp_eq_int, decide_eq_false (by omega)])
                obtain ⟨d', zs', hC, hT'⟩ := ih n m X[a] (rs (rs (rs zs))) (i3 _ (List.getElem_mem ha2)) hm (by omega)
                have hC' : callN l.P l.G (n + (q + 1) + 3) 18 [.own .loan (iL (rs (rs (rs zs)))), .val X[a]] = .ret (.val d') [.own .loan (iL zs'), .no] := by
                  rw [show n + (q + 1) + 3 = n + q + 4 by omega]; exact hC
                let g6 : Gam := [.own .loan (iL zs'), .val (.tuple X), .val (nD a), .val (nD k)]
                have hsub : evalE (callN l.P l.G (n + (q + 1) + 3)) l.G (.sub (.var 1) (.var 2)) g5 = .ok (.val X[a]) g5 := sub_e (g1 := g5) (x := .tuple X) (y := nD a) rfl rfl (sub_tup X a ha2 (by omega))
                have hcall := sp0 (g1 := g6) hsub hC' rfl rfl
                have hb := pre2.trans (ret_s (ife_f hc6 (addT (g1 := g6) (g2 := g6) (addT (g1 := g5) (g2 := g6) hHi (tup1 hcall) (by simp; omega)) (hLo g6 rfl rfl) (by simp; omega))))
                refine ⟨_, _, callN_by (fn := f18.fn) rfl rfl hb rfl, tm_tuple (by simp; omega) (fun y hy => ?_)⟩
                rcases List.mem_append.1 hy with hy | hy
                · rcases List.mem_append.1 hy with hy | hy
                  · exact (htk y hy).mono (Nat.le_refl _) (by omega)
                  · rw [List.mem_singleton] at hy; subst hy; exact hT'.mono (Nat.le_refl _) (by omega)
                · exact (hdr y hy).mono (Nat.le_refl _) (by omega)
      | _ => cases hd
    · have hd : isTupD d = false := by simpa using hd
      obtain ⟨R, hR, hC⟩ := pk_in (n + (q + 1) + 1) zs (ss9 d) (by simp [ss9]) (by simp [ss9])
      have hb := y1_ret (callN l.P l.G (n + (q + 1) + 3)) d R zs zs z2 (or_tt (not_e (k := false) (by rw [← hd]; exact istup_e (d := d) rfl))) hC
      exact ⟨R, rs zs, callN_by (fn := f18.fn) rfl rfl hb rfl, ss9_tm hT R hR⟩
end LK
end
section
set_option maxRecDepth 100000
namespace LK
open PySem L2 DK PySem.Spec PyProof.Rows
/-! ### texts of plain signs -/
def Pl (m : Nat) (s : PySem.Str) : Prop := s.length ≤ m ∧ ∀ c ∈ s.cps.toList, c < 128
theorem pl_ok {m : Nat} {s : PySem.Str} (h : Pl m s) : PyData.strOk s = true := by
  unfold PyData.strOk
  rw [Array.all_eq_true_iff_forall_mem]
  intro k hk
  have := h.2 k (Array.mem_toList_iff.2 hk)
  rw [decide_eq_true_iff]; omega
theorem reprChar_lt : ∀ c ∈ List.range 128, ∀ q ∈ [34, 39], ∀ k ∈ PySem.Builtin.Str.reprChar q c, k < 1114112 := by decide +kernel
theorem fold_mem {f : Nat → List Nat} {k : Nat} : ∀ (l : List Nat) (acc : Array Nat), k ∈ (l.foldl (fun out c => out ++ (f c).toArray) acc).toList → k ∈ acc.toList ∨ ∃ c ∈ l, k ∈ f c := by
  intro l
  induction l with
  | nil => intro acc h; exact Or.inl h
  | cons c l ih =>
    intro acc h
    rw [List.foldl_cons] at h
    rcases ih _ h with h | ⟨c', h1, h2⟩
    · rw [Array.toList_append, List.mem_append] at h
      rcases h with h | h
      · exact Or.inl h
      · exact Or.inr ⟨c, List.mem_cons_self .., by simpa using h⟩
    · exact Or.inr ⟨c', List.mem_cons_of_mem _ h1, h2⟩
theorem quote_two (x : PySem.Str) : reprQuote x ∈ [34, 39] := by
  unfold reprQuote
  split <;> simp
theorem nz_str {m : Nat} {s : PySem.Str} (h : Pl m s) : Nz (10 * m + 2) 0 (.str s) := by
  refine ⟨pl_ok h, Nat.le_refl _, rfl, by rw [reprCost]; have := h.1; omega, ?_⟩
  intro k hk hm
  rw [PyData.shown_str] at hm
  have hq : reprQuote s < 128 := by have := quote_two s; simp at this; omega
  unfold reprText at hm
  rw [Array.toList_push, List.mem_append, ← Array.foldl_toList] at hm
  rcases hm with hm | hm
  · rcases fold_mem _ _ hm with hm | ⟨c, h1, h2⟩
    · simp at hm; omega
    · have := reprChar_lt c (List.mem_range.2 (h.2 c h1)) _ (quote_two s) k h2
      omega
  · simp at hm; omega
/-! ### a line's words -/
theorem spl_in (S : List Nat) : ∀ (L : List Nat) (k : Nat) (acc : List Nat), (TL.spl S k acc L).length ≤ L.length + 1 ∧ ∀ p ∈ TL.spl S k acc L, p.length ≤ acc.length + L.length ∧ ∀ c ∈ p, c ∈ acc ∨ c ∈ L := by
  intro L
  induction L with
  | nil =>
    intro k acc
    rw [TL.spl_nil]
    exact ⟨by simp, fun p hp => by rw [List.mem_singleton] at hp; subst hp; exact ⟨by simp, fun c hc => Or.inl hc⟩⟩
  | cons c r ih =>
    intro k acc
    have weak : ∀ {k : Nat} {acc' : List Nat}, (acc'.length ≤ acc.length + 1) → (∀ x ∈ acc', x ∈ acc ∨ x ∈ c :: r) → ((TL.spl S k acc' r).length ≤ r.length + 1 ∧ ∀ p ∈ TL.spl S k acc' r, p.length ≤ acc.length + (c :: r).length ∧ ∀ x ∈ p, x ∈ acc ∨ x ∈ c :: r) := by
      intro k acc' h1 h2
      obtain ⟨a, b⟩ := ih k acc'
      refine ⟨a, fun p hp => ?_⟩
      obtain ⟨b1, b2⟩ := b p hp
      refine ⟨by rw [List.length_cons]; omega, fun x hx => ?_⟩
      rcases b2 x hx with h | h
      · exact h2 x h
      · exact Or.inr (List.mem_cons_of_mem _ h)
    cases k with
    | zero =>
      unfold TL.spl
      split
      · obtain ⟨a, b⟩ := weak (k := S.length - 1) (acc' := []) (by simp) (fun x hx => nomatch hx)
        refine ⟨by simp; omega, fun p hp => ?_⟩
        rcases List.mem_cons.1 hp with rfl | hp
        · exact ⟨by omega, fun x hx => Or.inl hx⟩
        · exact b p hp
      · obtain ⟨a, b⟩ := weak (k := 0) (acc' := acc ++ [c]) (by simp) (fun x hx => by
          rcases List.mem_append.1 hx with h | h
          · exact Or.inl h
          · rw [List.mem_singleton] at h; subst h; exact Or.inr (List.mem_cons_self ..))
        exact ⟨by simp; omega, b⟩
    | succ k =>
      unfold TL.spl
      obtain ⟨a, b⟩ := weak (k := k) (acc' := acc) (by omega) (fun x hx => Or.inl hx)
      exact ⟨by simp; omega, b⟩
def sSp : PySem.Str := ⟨#[32]⟩
theorem split_in {m : Nat} {s : PySem.Str} (h : Pl m s) : (Txt.split s sSp).length ≤ m + 1 ∧ ∀ w ∈ Txt.split s sSp, Pl m w := by
  have e := TL.split_spl s sSp (by decide) (TL.kind_ok (by kernel_rfl))
  obtain ⟨a, b⟩ := spl_in (TL.tl sSp) (TL.tl s) 0 []
  rw [← e] at a b
  have hl : (TL.tl s).length = s.length := rfl
  refine ⟨by rw [List.length_map] at a; have := h.1; omega, fun w hw => ?_⟩
  obtain ⟨b1, b2⟩ := b (TL.tl w) (List.mem_map.2 ⟨w, hw, rfl⟩)
  refine ⟨?_, fun c hc => ?_⟩
  · have : w.length = (TL.tl w).length := rfl
    have := h.1
    rw [List.length_nil, Nat.zero_add, hl] at b1; omega
  · rcases b2 c hc with h2 | h2
    · cases h2
    · exact h.2 c h2
def chk (c : Nat) : Bool := (!decide ([c] < [33])) && (!decide ([126] < [c]))
def badW (w : PySem.Str) : Bool := (w == ⟨#[]⟩) || !(w.cps.toList.all chk)
abbrev woB : Ss := (.cons (.ifs (.or (.cmp .eq (.var 2) (.cst (.str ⟨#[]⟩))) (.not (.blt .all (.cons (.comp (.cmp2 .le .le (.cst (.str ⟨#[33]⟩)) (.var 3) (.cst (.str ⟨#[126]⟩))) (.name 3) (.e (.var 2)) .nil [3]) .nil)))) (.cons (.ret (.cst .none)) .nil) .nil) .nil)
abbrev ch (c : Nat) : D := .str ⟨#[c]⟩
section
variable {C : Nat → List Slot → CRes} {G : List D}
theorem chars_e {i : Nat} {g : Gam} {w : PySem.Str} (h : g[i]? = some (.val (.str w))) : evalI C G (.e (.var i)) g = .ok (w.cps.toList.map ch, []) g := by
  unfold evalI
  simp [evalSs, evalS, seqF, evalE, evalEs, evalPs, evalAs, contents, content, runE, bnd, opt, pur, bltD, binD, freeze, store, argOf, doCall, slotsOf, Arg.slot, refsOf, noTwice, giveBack, retF, setF, lim, h, walkOf, itemsW, lockOf, charsD]
theorem cmp_eq_str {m : Nat} {s t : PySem.Str} (h1 : PyData.strOk s = true) (h2 : PyData.strOk t = true) : cmpD .eq (.str s) (.str t) = some (s == t) := by
  simp [cmpD, shapedD, SeqAt.shaped, PyData.eqv, PyData.canLay0, PyData.depth, h1, h2]
theorem sign_e (i : Nat) (c : Nat) (g : Gam) (h : g[i]? = some (.val (ch c))) : evalE C G (.cmp2 .le .le (.cst (.str ⟨#[33]⟩)) (.var i) (.cst (.str ⟨#[126]⟩))) g = .ok (.val (.bool (chk c))) g := by
  unfold chk
  by_cases h1 : [c] < [33]
  · simp [evalSs, evalS, seqF, evalE, evalEs, evalPs, evalAs, contents, content, runE, bnd, opt, pur, bltD, binD, freeze, store, argOf, doCall, slotsOf, Arg.slot, refsOf, noTwice, giveBack, retF, setF, lim, h, cmpD, h1]
  · simp [evalSs, evalS, seqF, evalE, evalEs, evalPs, evalAs, contents, content, runE, bnd, opt, pur, bltD, binD, freeze, store, argOf, doCall, slotsOf, Arg.slot, refsOf, noTwice, giveBack, retF, setF, lim, h, cmpD, h1]
theorem wo_cond {m : Nat} (w : PySem.Str) (hw : Pl m w) (hm : m ≤ 1000000) (L W : D) : evalE C l.G (.or (.cmp .eq (.var 2) (.cst (.str ⟨#[]⟩))) (.not (.blt .all (.cons (.comp (.cmp2 .le .le (.cst (.str ⟨#[33]⟩)) (.var 3) (.cst (.str ⟨#[126]⟩))) (.name 3) (.e (.var 2)) .nil [3]) .nil)))) [.val L, .val W, .val (.str w), .no] = .ok (.val (.bool (badW w))) [.val L, .val W, .val (.str w), .no] := by
  have h1 := cmp_v (C := C) (G := l.G) (o := .eq) (a := .var 2) (b := .cst (.str ⟨#[]⟩)) (g := [.val L, .val W, .val (.str w), .no]) (x := .str w) (y := .str ⟨#[]⟩) rfl rfl (cmp_eq_str (m := 0) (pl_ok hw) (by kernel_rfl))
  unfold badW
  cases he : (w == (⟨#[]⟩ : PySem.Str)) with
  | true => rw [he] at h1; exact or_tt h1
  | false =>
    rw [he] at h1
    refine or_ff h1 ?_
    have hl : w.cps.toList.length ≤ 1000000 := by have := hw.1; show w.length ≤ _; omega
    have hc := comp_all (C := C) (G := l.G) (elt := .cmp2 .le .le (.cst (.str ⟨#[33]⟩)) (.var 3) (.cst (.str ⟨#[126]⟩))) (tg := .name 3) (own := [3]) (g := [.val L, .val W, .val (.str w), .no]) (g0 := [.val L, .val W, .val (.str w), .no]) w.cps.toList ch (fun c => [.val L, .val W, .val (.str w), .val (ch c)]) (fun c => PyData.bool (chk c)) (chars_e (i := 2) rfl) hl rfl rfl (fun c _ => ⟨rfl, frz_val (sign_e 3 c _ rfl), rfl⟩)
    have := not_e (all_e hc (all_f chk w.cps.toList))
    rw [Bool.false_or]
    exact this
theorem wo_loop {m : Nat} (hm : m ≤ 1000000) (L W : D) : ∀ (ws : List PySem.Str) (o : Option D), (∀ w ∈ ws, Pl m w) → ∃ o', forF (assignT (.name 2)) (evalSs C l.G woB) (unlock [] []) (ws.map PyData.str) [.val L, .val W, oS o, .no] = (if ws.any badW then .ret (.val .none) [.val L, .val W, oS o', .no] else .next [.val L, .val W, oS o', .no]) := by
  intro ws
  induction ws with
  | nil => intro o _; exact ⟨o, rfl⟩
  | cons w ws ih =>
    intro o h
    have hs : assignT (.name 2) (.str w) [.val L, .val W, oS o, .no] = some [.val L, .val W, .val (.str w), .no] := by cases o <;> rfl
    have hc := wo_cond (C := C) w (h w (List.mem_cons_self ..)) hm L W
    rw [List.map_cons, forF]
    simp only [hs]
    cases hb : badW w with
    | true =>
      rw [hb] at hc
      have hr : evalSs C l.G woB [.val L, .val W, .val (.str w), .no] = .ret (.val .none) [.val L, .val W, .val (.str w), .no] := if_ret hc rfl
      refine ⟨some (.str w), ?_⟩
      rw [hr]
      simp only [List.any_cons, hb, Bool.true_or, if_true]
      rfl
    | false =>
      rw [hb] at hc
      have hr : evalSs C l.G woB [.val L, .val W, .val (.str w), .no] = .next [.val L, .val W, .val (.str w), .no] := (ss_next (if_f hc)).trans rfl
      obtain ⟨o', e⟩ := ih (some (.str w)) (fun x hx => h x (List.mem_cons_of_mem _ hx))
      refine ⟨o', ?_⟩
      rw [hr]
      simp only [List.any_cons, hb, Bool.false_or]
      exact e
end
def lineV (s : PySem.Str) : D := if (Txt.split s sSp).any badW then .none else .list ((Txt.split s sSp).map PyData.str)
theorem wo_body (C : Nat → List Slot → CRes) {m : Nat} (s : PySem.Str) (h : Pl m s) (hm : m ≤ 1000) : ∃ o, evalSs C l.G b5 [.val (.str s), .no, .no, .no] = .ret (.val (lineV s)) [.val (.str s), .val (.list ((Txt.split s sSp).map PyData.str)), oS o, .no] := by
  obtain ⟨w1, w2⟩ := split_in h
  have hD : methD .split (.str s) [.str sSp] = some (.own ((Txt.split s sSp).map PyData.str)) := by
    rw [methD, if_pos ⟨rfl, by have := h.1; unfold DK.lim; omega⟩]
  have hE : evalE C l.G (.meth .split (.var 0) (.cons (.cst (.str ⟨#[32]⟩)) .nil)) [.val (.str s), .no, .no, .no] = .ok (.own ((Txt.split s sSp).map PyData.str)) [.val (.str s), .no, .no, .no] := by
    unfold sSp at hD ⊢
    simp [evalSs, evalS, seqF, evalE, evalEs, evalPs, evalAs, contents, content, runE, bnd, opt, pur, bltD, binD, freeze, store, argOf, doCall, slotsOf, Arg.slot, refsOf, noTwice, giveBack, retF, setF, lim, tyM, tyD, hD]
  obtain ⟨o, ho⟩ := wo_loop (C := C) (show m ≤ 1000000 by omega) (.str s) (.list ((Txt.split s sSp).map PyData.str)) (Txt.split s sSp) none w2
  refine ⟨o, ?_⟩
  refine (ss_next (g' := [.val (.str s), .val (.list ((Txt.split s sSp).map PyData.str)), .no, .no]) (set_o hE rfl)).trans ?_
  have hf : evalS C l.G (.fors (.name 2) (.e (.var 1)) woB) [.val (.str s), .val (.list ((Txt.split s sSp).map PyData.str)), .no, .no] = _ := for_ok rfl ho
  unfold lineV
  cases hb : (Txt.split s sSp).any badW with
  | true =>
    rw [hb] at hf
    rw [evalSs, seqF, hf]
    rfl
  | false =>
    rw [hb] at hf
    exact (ss_next hf).trans rfl
theorem wo_ok (n : Nat) {m : Nat} (s : PySem.Str) (h : Pl m s) (hm : m ≤ 1000) : callN l.P l.G (n + 1) 5 [.val (.str s)] = .ret (.val (lineV s)) [.no] := by
  obtain ⟨o, ho⟩ := wo_body (callN l.P l.G n) s h hm
  exact callN_by (fn := f5.fn) rfl rfl ho rfl
theorem lwo_ok (n : Nat) {m : Nat} (s : PySem.Str) (h : Pl m s) (hm : m ≤ 1000) : callN l.P l.G (n + 1) 13 [.val (.str s)] = .ret (.val (lineV s)) [.no] := by
  obtain ⟨o, ho⟩ := wo_body (callN l.P l.G n) s h hm
  exact callN_by (fn := f13.fn) rfl rfl ho rfl
theorem nz_none : Nz 4 0 .none := by
  refine ⟨rfl, Nat.le_refl _, rfl, Nat.le_refl _, fun k hk hm => ?_⟩
  rw [PyData.shown_none] at hm
  have e : (("None" : String) : Str).cps.toList = [78, 111, 110, 101] := by decide
  rw [e] at hm
  simp at hm; omega
theorem lineV_ok {m : Nat} (s : PySem.Str) (h : Pl m s) (hm : m ≤ 300) : okR (lineV s) := by
  obtain ⟨w1, w2⟩ := split_in h
  unfold lineV
  split
  · exact nz_none.okR (by omega) (by omega)
  · refine (nz_list (c := 10 * m + 2) (p := 0) (ds := (Txt.split s sSp).map PyData.str) (fun d hd => ?_)).okR ?_ (by omega)
    · obtain ⟨w, hw, rfl⟩ := List.mem_map.1 hd
      exact nz_str (w2 w hw)
    · rw [List.length_map]
      have : (Txt.split s sSp).length * (10 * m + 2 + 2) ≤ 301 * 3004 := Nat.mul_le_mul (by omega) (by omega)
      omega
end LK
end
section
set_option maxRecDepth 100000
namespace LK
open PySem L2 DK PySem.Spec PyProof.Rows
def L7 : List Nat := [97, 107, 122, 57, 48, 49, 66]
def Num (d : D) : Prop := d = .none ∨ ∃ k : Nat, k < 100 ∧ d = nD k
theorem w0 (n : Nat) : callN l.P l.G (n + 1) 7 [.val (.str ⟨#[]⟩)] = .ret (.val (.none)) [.no] ∧ callN l.P l.G (n + 1) 14 [.val (.str ⟨#[]⟩)] = .ret (.val (.none)) [.no] := ⟨by kernel_rfl, by kernel_rfl⟩
theorem w_97 (n : Nat) : callN l.P l.G (n + 1) 7 [.val (.str ⟨#[97]⟩)] = .ret (.val (.none)) [.no] ∧ callN l.P l.G (n + 1) 14 [.val (.str ⟨#[97]⟩)] = .ret (.val (.none)) [.no] := ⟨by kernel_rfl, by kernel_rfl⟩
theorem w_107 (n : Nat) : callN l.P l.G (n + 1) 7 [.val (.str ⟨#[107]⟩)] = .ret (.val (.none)) [.no] ∧ callN l.P l.G (n + 1) 14 [.val (.str ⟨#[107]⟩)] = .ret (.val (.none)) [.no] := ⟨by kernel_rfl, by kernel_rfl⟩
theorem w_122 (n : Nat) : callN l.P l.G (n + 1) 7 [.val (.str ⟨#[122]⟩)] = .ret (.val (.none)) [.no] ∧ callN l.P l.G (n + 1) 14 [.val (.str ⟨#[122]⟩)] = .ret (.val (.none)) [.no] := ⟨by kernel_rfl, by kernel_rfl⟩
theorem w_57 (n : Nat) : callN l.P l.G (n + 1) 7 [.val (.str ⟨#[57]⟩)] = .ret (.val (.int 9)) [.no] ∧ callN l.P l.G (n + 1) 14 [.val (.str ⟨#[57]⟩)] = .ret (.val (.int 9)) [.no] := ⟨by kernel_rfl, by kernel_rfl⟩
theorem w_48 (n : Nat) : callN l.P l.G (n + 1) 7 [.val (.str ⟨#[48]⟩)] = .ret (.val (.int 0)) [.no] ∧ callN l.P l.G (n + 1) 14 [.val (.str ⟨#[48]⟩)] = .ret (.val (.int 0)) [.no] := ⟨by kernel_rfl, by kernel_rfl⟩
theorem w_49 (n : Nat) : callN l.P l.G (n + 1) 7 [.val (.str ⟨#[49]⟩)] = .ret (.val (.int 1)) [.no] ∧ callN l.P l.G (n + 1) 14 [.val (.str ⟨#[49]⟩)] = .ret (.val (.int 1)) [.no] := ⟨by kernel_rfl, by kernel_rfl⟩
theorem w_66 (n : Nat) : callN l.P l.G (n + 1) 7 [.val (.str ⟨#[66]⟩)] = .ret (.val (.none)) [.no] ∧ callN l.P l.G (n + 1) 14 [.val (.str ⟨#[66]⟩)] = .ret (.val (.none)) [.no] := ⟨by kernel_rfl, by kernel_rfl⟩
theorem w_97_97 (n : Nat) : callN l.P l.G (n + 1) 7 [.val (.str ⟨#[97, 97]⟩)] = .ret (.val (.none)) [.no] ∧ callN l.P l.G (n + 1) 14 [.val (.str ⟨#[97, 97]⟩)] = .ret (.val (.none)) [.no] := ⟨by kernel_rfl, by kernel_rfl⟩
theorem w_97_107 (n : Nat) : callN l.P l.G (n + 1) 7 [.val (.str ⟨#[97, 107]⟩)] = .ret (.val (.none)) [.no] ∧ callN l.P l.G (n + 1) 14 [.val (.str ⟨#[97, 107]⟩)] = .ret (.val (.none)) [.no] := ⟨by kernel_rfl, by kernel_rfl⟩
theorem w_97_122 (n : Nat) : callN l.P l.G (n + 1) 7 [.val (.str ⟨#[97, 122]⟩)] = .ret (.val (.none)) [.no] ∧ callN l.P l.G (n + 1) 14 [.val (.str ⟨#[97, 122]⟩)] = .ret (.val (.none)) [.no] := ⟨by kernel_rfl, by kernel_rfl⟩
theorem w_97_57 (n : Nat) : callN l.P l.G (n + 1) 7 [.val (.str ⟨#[97, 57]⟩)] = .ret (.val (.none)) [.no] ∧ callN l.P l.G (n + 1) 14 [.val (.str ⟨#[97, 57]⟩)] = .ret (.val (.none)) [.no] := ⟨by kernel_rfl, by kernel_rfl⟩
theorem w_97_48 (n : Nat) : callN l.P l.G (n + 1) 7 [.val (.str ⟨#[97, 48]⟩)] = .ret (.val (.none)) [.no] ∧ callN l.P l.G (n + 1) 14 [.val (.str ⟨#[97, 48]⟩)] = .ret (.val (.none)) [.no] := ⟨by kernel_rfl, by kernel_rfl⟩
theorem w_97_49 (n : Nat) : callN l.P l.G (n + 1) 7 [.val (.str ⟨#[97, 49]⟩)] = .ret (.val (.none)) [.no] ∧ callN l.P l.G (n + 1) 14 [.val (.str ⟨#[97, 49]⟩)] = .ret (.val (.none)) [.no] := ⟨by kernel_rfl, by kernel_rfl⟩
theorem w_97_66 (n : Nat) : callN l.P l.G (n + 1) 7 [.val (.str ⟨#[97, 66]⟩)] = .ret (.val (.none)) [.no] ∧ callN l.P l.G (n + 1) 14 [.val (.str ⟨#[97, 66]⟩)] = .ret (.val (.none)) [.no] := ⟨by kernel_rfl, by kernel_rfl⟩
theorem w_107_97 (n : Nat) : callN l.P l.G (n + 1) 7 [.val (.str ⟨#[107, 97]⟩)] = .ret (.val (.none)) [.no] ∧ callN l.P l.G (n + 1) 14 [.val (.str ⟨#[107, 97]⟩)] = .ret (.val (.none)) [.no] := ⟨by kernel_rfl, by kernel_rfl⟩
theorem w_107_107 (n : Nat) : callN l.P l.G (n + 1) 7 [.val (.str ⟨#[107, 107]⟩)] = .ret (.val (.none)) [.no] ∧ callN l.P l.G (n + 1) 14 [.val (.str ⟨#[107, 107]⟩)] = .ret (.val (.none)) [.no] := ⟨by kernel_rfl, by kernel_rfl⟩
theorem w_107_122 (n : Nat) : callN l.P l.G (n + 1) 7 [.val (.str ⟨#[107, 122]⟩)] = .ret (.val (.none)) [.no] ∧ callN l.P l.G (n + 1) 14 [.val (.str ⟨#[107, 122]⟩)] = .ret (.val (.none)) [.no] := ⟨by kernel_rfl, by kernel_rfl⟩
theorem w_107_57 (n : Nat) : callN l.P l.G (n + 1) 7 [.val (.str ⟨#[107, 57]⟩)] = .ret (.val (.none)) [.no] ∧ callN l.P l.G (n + 1) 14 [.val (.str ⟨#[107, 57]⟩)] = .ret (.val (.none)) [.no] := ⟨by kernel_rfl, by kernel_rfl⟩
theorem w_107_48 (n : Nat) : callN l.P l.G (n + 1) 7 [.val (.str ⟨#[107, 48]⟩)] = .ret (.val (.none)) [.no] ∧ callN l.P l.G (n + 1) 14 [.val (.str ⟨#[107, 48]⟩)] = .ret (.val (.none)) [.no] := ⟨by kernel_rfl, by kernel_rfl⟩
theorem w_107_49 (n : Nat) : callN l.P l.G (n + 1) 7 [.val (.str ⟨#[107, 49]⟩)] = .ret (.val (.none)) [.no] ∧ callN l.P l.G (n + 1) 14 [.val (.str ⟨#[107, 49]⟩)] = .ret (.val (.none)) [.no] := ⟨by kernel_rfl, by kernel_rfl⟩
theorem w_107_66 (n : Nat) : callN l.P l.G (n + 1) 7 [.val (.str ⟨#[107, 66]⟩)] = .ret (.val (.none)) [.no] ∧ callN l.P l.G (n + 1) 14 [.val (.str ⟨#[107, 66]⟩)] = .ret (.val (.none)) [.no] := ⟨by kernel_rfl, by kernel_rfl⟩
theorem w_122_97 (n : Nat) : callN l.P l.G (n + 1) 7 [.val (.str ⟨#[122, 97]⟩)] = .ret (.val (.none)) [.no] ∧ callN l.P l.G (n + 1) 14 [.val (.str ⟨#[122, 97]⟩)] = .ret (.val (.none)) [.no] := ⟨by kernel_rfl, by kernel_rfl⟩
theorem w_122_107 (n : Nat) : callN l.P l.G (n + 1) 7 [.val (.str ⟨#[122, 107]⟩)] = .ret (.val (.none)) [.no] ∧ callN l.P l.G (n + 1) 14 [.val (.str ⟨#[122, 107]⟩)] = .ret (.val (.none)) [.no] := ⟨by kernel_rfl, by kernel_rfl⟩
theorem w_122_122 (n : Nat) : callN l.P l.G (n + 1) 7 [.val (.str ⟨#[122, 122]⟩)] = .ret (.val (.none)) [.no] ∧ callN l.P l.G (n + 1) 14 [.val (.str ⟨#[122, 122]⟩)] = .ret (.val (.none)) [.no] := ⟨by kernel_rfl, by kernel_rfl⟩
theorem w_122_57 (n : Nat) : callN l.P l.G (n + 1) 7 [.val (.str ⟨#[122, 57]⟩)] = .ret (.val (.none)) [.no] ∧ callN l.P l.G (n + 1) 14 [.val (.str ⟨#[122, 57]⟩)] = .ret (.val (.none)) [.no] := ⟨by kernel_rfl, by kernel_rfl⟩
theorem w_122_48 (n : Nat) : callN l.P l.G (n + 1) 7 [.val (.str ⟨#[122, 48]⟩)] = .ret (.val (.none)) [.no] ∧ callN l.P l.G (n + 1) 14 [.val (.str ⟨#[122, 48]⟩)] = .ret (.val (.none)) [.no] := ⟨by kernel_rfl, by kernel_rfl⟩
theorem w_122_49 (n : Nat) : callN l.P l.G (n + 1) 7 [.val (.str ⟨#[122, 49]⟩)] = .ret (.val (.none)) [.no] ∧ callN l.P l.G (n + 1) 14 [.val (.str ⟨#[122, 49]⟩)] = .ret (.val (.none)) [.no] := ⟨by kernel_rfl, by kernel_rfl⟩
theorem w_122_66 (n : Nat) : callN l.P l.G (n + 1) 7 [.val (.str ⟨#[122, 66]⟩)] = .ret (.val (.none)) [.no] ∧ callN l.P l.G (n + 1) 14 [.val (.str ⟨#[122, 66]⟩)] = .ret (.val (.none)) [.no] := ⟨by kernel_rfl, by kernel_rfl⟩
theorem w_57_97 (n : Nat) : callN l.P l.G (n + 1) 7 [.val (.str ⟨#[57, 97]⟩)] = .ret (.val (.none)) [.no] ∧ callN l.P l.G (n + 1) 14 [.val (.str ⟨#[57, 97]⟩)] = .ret (.val (.none)) [.no] := ⟨by kernel_rfl, by kernel_rfl⟩
theorem w_57_107 (n : Nat) : callN l.P l.G (n + 1) 7 [.val (.str ⟨#[57, 107]⟩)] = .ret (.val (.none)) [.no] ∧ callN l.P l.G (n + 1) 14 [.val (.str ⟨#[57, 107]⟩)] = .ret (.val (.none)) [.no] := ⟨by kernel_rfl, by kernel_rfl⟩
theorem w_57_122 (n : Nat) : callN l.P l.G (n + 1) 7 [.val (.str ⟨#[57, 122]⟩)] = .ret (.val (.none)) [.no] ∧ callN l.P l.G (n + 1) 14 [.val (.str ⟨#[57, 122]⟩)] = .ret (.val (.none)) [.no] := ⟨by kernel_rfl, by kernel_rfl⟩
theorem w_57_57 (n : Nat) : callN l.P l.G (n + 1) 7 [.val (.str ⟨#[57, 57]⟩)] = .ret (.val (.int 99)) [.no] ∧ callN l.P l.G (n + 1) 14 [.val (.str ⟨#[57, 57]⟩)] = .ret (.val (.int 99)) [.no] := ⟨by kernel_rfl, by kernel_rfl⟩
theorem w_57_48 (n : Nat) : callN l.P l.G (n + 1) 7 [.val (.str ⟨#[57, 48]⟩)] = .ret (.val (.int 90)) [.no] ∧ callN l.P l.G (n + 1) 14 [.val (.str ⟨#[57, 48]⟩)] = .ret (.val (.int 90)) [.no] := ⟨by kernel_rfl, by kernel_rfl⟩
theorem w_57_49 (n : Nat) : callN l.P l.G (n + 1) 7 [.val (.str ⟨#[57, 49]⟩)] = .ret (.val (.int 91)) [.no] ∧ callN l.P l.G (n + 1) 14 [.val (.str ⟨#[57, 49]⟩)] = .ret (.val (.int 91)) [.no] := ⟨by kernel_rfl, by kernel_rfl⟩
theorem w_57_66 (n : Nat) : callN l.P l.G (n + 1) 7 [.val (.str ⟨#[57, 66]⟩)] = .ret (.val (.none)) [.no] ∧ callN l.P l.G (n + 1) 14 [.val (.str ⟨#[57, 66]⟩)] = .ret (.val (.none)) [.no] := ⟨by kernel_rfl, by kernel_rfl⟩
theorem w_48_97 (n : Nat) : callN l.P l.G (n + 1) 7 [.val (.str ⟨#[48, 97]⟩)] = .ret (.val (.none)) [.no] ∧ callN l.P l.G (n + 1) 14 [.val (.str ⟨#[48, 97]⟩)] = .ret (.val (.none)) [.no] := ⟨by kernel_rfl, by kernel_rfl⟩
theorem w_48_107 (n : Nat) : callN l.P l.G (n + 1) 7 [.val (.str ⟨#[48, 107]⟩)] = .ret (.val (.none)) [.no] ∧ callN l.P l.G (n + 1) 14 [.val (.str ⟨#[48, 107]⟩)] = .ret (.val (.none)) [.no] := ⟨by kernel_rfl, by kernel_rfl⟩
theorem w_48_122 (n : Nat) : callN l.P l.G (n + 1) 7 [.val (.str ⟨#[48, 122]⟩)] = .ret (.val (.none)) [.no] ∧ callN l.P l.G (n + 1) 14 [.val (.str ⟨#[48, 122]⟩)] = .ret (.val (.none)) [.no] := ⟨by kernel_rfl, by kernel_rfl⟩
theorem w_48_57 (n : Nat) : callN l.P l.G (n + 1) 7 [.val (.str ⟨#[48, 57]⟩)] = .ret (.val (.none)) [.no] ∧ callN l.P l.G (n + 1) 14 [.val (.str ⟨#[48, 57]⟩)] = .ret (.val (.none)) [.no] := ⟨by kernel_rfl, by kernel_rfl⟩
theorem w_48_48 (n : Nat) : callN l.P l.G (n + 1) 7 [.val (.str ⟨#[48, 48]⟩)] = .ret (.val (.none)) [.no] ∧ callN l.P l.G (n + 1) 14 [.val (.str ⟨#[48, 48]⟩)] = .ret (.val (.none)) [.no] := ⟨by kernel_rfl, by kernel_rfl⟩
theorem w_48_49 (n : Nat) : callN l.P l.G (n + 1) 7 [.val (.str ⟨#[48, 49]⟩)] = .ret (.val (.none)) [.no] ∧ callN l.P l.G (n + 1) 14 [.val (.str ⟨#[48, 49]⟩)] = .ret (.val (.none)) [.no] := ⟨by kernel_rfl, by kernel_rfl⟩
theorem w_48_66 (n : Nat) : callN l.P l.G (n + 1) 7 [.val (.str ⟨#[48, 66]⟩)] = .ret (.val (.none)) [.no] ∧ callN l.P l.G (n + 1) 14 [.val (.str ⟨#[48, 66]⟩)] = .ret (.val (.none)) [.no] := ⟨by kernel_rfl, by kernel_rfl⟩
theorem w_49_97 (n : Nat) : callN l.P l.G (n + 1) 7 [.val (.str ⟨#[49, 97]⟩)] = .ret (.val (.none)) [.no] ∧ callN l.P l.G (n + 1) 14 [.val (.str ⟨#[49, 97]⟩)] = .ret (.val (.none)) [.no] := ⟨by kernel_rfl, by kernel_rfl⟩
theorem w_49_107 (n : Nat) : callN l.P l.G (n + 1) 7 [.val (.str ⟨#[49, 107]⟩)] = .ret (.val (.none)) [.no] ∧ callN l.P l.G (n + 1) 14 [.val (.str ⟨#[49, 107]⟩)] = .ret (.val (.none)) [.no] := ⟨by kernel_rfl, by kernel_rfl⟩
theorem w_49_122 (n : Nat) : callN l.P l.G (n + 1) 7 [.val (.str ⟨#[49, 122]⟩)] = .ret (.val (.none)) [.no] ∧ callN l.P l.G (n + 1) 14 [.val (.str ⟨#[49, 122]⟩)] = .ret (.val (.none)) [.no] := ⟨by kernel_rfl, by kernel_rfl⟩
theorem w_49_57 (n : Nat) : callN l.P l.G (n + 1) 7 [.val (.str ⟨#[49, 57]⟩)] = .ret (.val (.int 19)) [.no] ∧ callN l.P l.G (n + 1) 14 [.val (.str ⟨#[49, 57]⟩)] = .ret (.val (.int 19)) [.no] := ⟨by kernel_rfl, by kernel_rfl⟩
theorem w_49_48 (n : Nat) : callN l.P l.G (n + 1) 7 [.val (.str ⟨#[49, 48]⟩)] = .ret (.val (.int 10)) [.no] ∧ callN l.P l.G (n + 1) 14 [.val (.str ⟨#[49, 48]⟩)] = .ret (.val (.int 10)) [.no] := ⟨by kernel_rfl, by kernel_rfl⟩
theorem w_49_49 (n : Nat) : callN l.P l.G (n + 1) 7 [.val (.str ⟨#[49, 49]⟩)] = .ret (.val (.int 11)) [.no] ∧ callN l.P l.G (n + 1) 14 [.val (.str ⟨#[49, 49]⟩)] = .ret (.val (.int 11)) [.no] := ⟨by kernel_rfl, by kernel_rfl⟩
theorem w_49_66 (n : Nat) : callN l.P l.G (n + 1) 7 [.val (.str ⟨#[49, 66]⟩)] = .ret (.val (.none)) [.no] ∧ callN l.P l.G (n + 1) 14 [.val (.str ⟨#[49, 66]⟩)] = .ret (.val (.none)) [.no] := ⟨by kernel_rfl, by kernel_rfl⟩
theorem w_66_97 (n : Nat) : callN l.P l.G (n + 1) 7 [.val (.str ⟨#[66, 97]⟩)] = .ret (.val (.none)) [.no] ∧ callN l.P l.G (n + 1) 14 [.val (.str ⟨#[66, 97]⟩)] = .ret (.val (.none)) [.no] := ⟨by kernel_rfl, by kernel_rfl⟩
theorem w_66_107 (n : Nat) : callN l.P l.G (n + 1) 7 [.val (.str ⟨#[66, 107]⟩)] = .ret (.val (.none)) [.no] ∧ callN l.P l.G (n + 1) 14 [.val (.str ⟨#[66, 107]⟩)] = .ret (.val (.none)) [.no] := ⟨by kernel_rfl, by kernel_rfl⟩
theorem w_66_122 (n : Nat) : callN l.P l.G (n + 1) 7 [.val (.str ⟨#[66, 122]⟩)] = .ret (.val (.none)) [.no] ∧ callN l.P l.G (n + 1) 14 [.val (.str ⟨#[66, 122]⟩)] = .ret (.val (.none)) [.no] := ⟨by kernel_rfl, by kernel_rfl⟩
theorem w_66_57 (n : Nat) : callN l.P l.G (n + 1) 7 [.val (.str ⟨#[66, 57]⟩)] = .ret (.val (.none)) [.no] ∧ callN l.P l.G (n + 1) 14 [.val (.str ⟨#[66, 57]⟩)] = .ret (.val (.none)) [.no] := ⟨by kernel_rfl, by kernel_rfl⟩
theorem w_66_48 (n : Nat) : callN l.P l.G (n + 1) 7 [.val (.str ⟨#[66, 48]⟩)] = .ret (.val (.none)) [.no] ∧ callN l.P l.G (n + 1) 14 [.val (.str ⟨#[66, 48]⟩)] = .ret (.val (.none)) [.no] := ⟨by kernel_rfl, by kernel_rfl⟩
theorem w_66_49 (n : Nat) : callN l.P l.G (n + 1) 7 [.val (.str ⟨#[66, 49]⟩)] = .ret (.val (.none)) [.no] ∧ callN l.P l.G (n + 1) 14 [.val (.str ⟨#[66, 49]⟩)] = .ret (.val (.none)) [.no] := ⟨by kernel_rfl, by kernel_rfl⟩
theorem w_66_66 (n : Nat) : callN l.P l.G (n + 1) 7 [.val (.str ⟨#[66, 66]⟩)] = .ret (.val (.none)) [.no] ∧ callN l.P l.G (n + 1) 14 [.val (.str ⟨#[66, 66]⟩)] = .ret (.val (.none)) [.no] := ⟨by kernel_rfl, by kernel_rfl⟩
theorem w1 (n c : Nat) (h : c ∈ L7) : ∃ d, callN l.P l.G (n + 1) 7 [.val (.str ⟨#[c]⟩)] = .ret (.val d) [.no] ∧ callN l.P l.G (n + 1) 14 [.val (.str ⟨#[c]⟩)] = .ret (.val d) [.no] ∧ Num d := by
  unfold L7 at h
  simp only [List.mem_cons, List.not_mem_nil, or_false] at h
  rcases h with rfl | rfl | rfl | rfl | rfl | rfl | rfl
  · exact ⟨_, (w_97 n).1, (w_97 n).2, Or.inl rfl⟩
  · exact ⟨_, (w_107 n).1, (w_107 n).2, Or.inl rfl⟩
  · exact ⟨_, (w_122 n).1, (w_122 n).2, Or.inl rfl⟩
  · exact ⟨_, (w_57 n).1, (w_57 n).2, Or.inr ⟨9, by decide, rfl⟩⟩
  · exact ⟨_, (w_48 n).1, (w_48 n).2, Or.inr ⟨0, by decide, rfl⟩⟩
  · exact ⟨_, (w_49 n).1, (w_49 n).2, Or.inr ⟨1, by decide, rfl⟩⟩
  · exact ⟨_, (w_66 n).1, (w_66 n).2, Or.inl rfl⟩
theorem w2 (n c e : Nat) (h : c ∈ L7) (h2 : e ∈ L7) : ∃ d, callN l.P l.G (n + 1) 7 [.val (.str ⟨#[c, e]⟩)] = .ret (.val d) [.no] ∧ callN l.P l.G (n + 1) 14 [.val (.str ⟨#[c, e]⟩)] = .ret (.val d) [.no] ∧ Num d := by
  unfold L7 at h h2
  simp only [List.mem_cons, List.not_mem_nil, or_false] at h h2
  rcases h with rfl | rfl | rfl | rfl | rfl | rfl | rfl <;> rcases h2 with rfl | rfl | rfl | rfl | rfl | rfl | rfl
  · exact ⟨_, (w_97_97 n).1, (w_97_97 n).2, Or.inl rfl⟩
  · exact ⟨_, (w_97_107 n).1, (w_97_107 n).2, Or.inl rfl⟩
  · exact ⟨_, (w_97_122 n).1, (w_97_122 n).2, Or.inl rfl⟩
  · exact ⟨_, (w_97_57 n).1, (w_97_57 n).2, Or.inl rfl⟩
  · exact ⟨_, (w_97_48 n).1, (w_97_48 n).2, Or.inl rfl⟩
  · exact ⟨_, (w_97_49 n).1, (w_97_49 n).2, Or.inl rfl⟩
  · exact ⟨_, (w_97_66 n).1, (w_97_66 n).2, Or.inl rfl⟩
  · exact ⟨_, (w_107_97 n).1, (w_107_97 n).2, Or.inl rfl⟩
  · exact ⟨_, (w_107_107 n).1, (w_107_107 n).2, Or.inl rfl⟩
  · exact ⟨_, (w_107_122 n).1, (w_107_122 n).2, Or.inl rfl⟩
  · exact ⟨_, (w_107_57 n).1, (w_107_57 n).2, Or.inl rfl⟩
  · exact ⟨_, (w_107_48 n).1, (w_107_48 n).2, Or.inl rfl⟩
  · exact ⟨_, (w_107_49 n).1, (w_107_49 n).2, Or.inl rfl⟩
  · exact ⟨_, (w_107_66 n).1, (w_107_66 n).2, Or.inl rfl⟩
  · exact ⟨_, (w_122_97 n).1, (w_122_97 n).2, Or.inl rfl⟩
  · exact ⟨_, (w_122_107 n).1, (w_122_107 n).2, Or.inl rfl⟩
  · exact ⟨_, (w_122_122 n).1, (w_122_122 n).2, Or.inl rfl⟩
  · exact ⟨_, (w_122_57 n).1, (w_122_57 n).2, Or.inl rfl⟩
  · exact ⟨_, (w_122_48 n).1, (w_122_48 n).2, Or.inl rfl⟩
  · exact ⟨_, (w_122_49 n).1, (w_122_49 n).2, Or.inl rfl⟩
  · exact ⟨_, (w_122_66 n).1, (w_122_66 n).2, Or.inl rfl⟩
  · exact ⟨_, (w_57_97 n).1, (w_57_97 n).2, Or.inl rfl⟩
  · exact ⟨_, (w_57_107 n).1, (w_57_107 n).2, Or.inl rfl⟩
  · exact ⟨_, (w_57_122 n).1, (w_57_122 n).2, Or.inl rfl⟩
  · exact ⟨_, (w_57_57 n).1, (w_57_57 n).2, Or.inr ⟨99, by decide, rfl⟩⟩
  · exact ⟨_, (w_57_48 n).1, (w_57_48 n).2, Or.inr ⟨90, by decide, rfl⟩⟩
  · exact ⟨_, (w_57_49 n).1, (w_57_49 n).2, Or.inr ⟨91, by decide, rfl⟩⟩
  · exact ⟨_, (w_57_66 n).1, (w_57_66 n).2, Or.inl rfl⟩
  · exact ⟨_, (w_48_97 n).1, (w_48_97 n).2, Or.inl rfl⟩
  · exact ⟨_, (w_48_107 n).1, (w_48_107 n).2, Or.inl rfl⟩
  · exact ⟨_, (w_48_122 n).1, (w_48_122 n).2, Or.inl rfl⟩
  · exact ⟨_, (w_48_57 n).1, (w_48_57 n).2, Or.inl rfl⟩
  · exact ⟨_, (w_48_48 n).1, (w_48_48 n).2, Or.inl rfl⟩
  · exact ⟨_, (w_48_49 n).1, (w_48_49 n).2, Or.inl rfl⟩
  · exact ⟨_, (w_48_66 n).1, (w_48_66 n).2, Or.inl rfl⟩
  · exact ⟨_, (w_49_97 n).1, (w_49_97 n).2, Or.inl rfl⟩
  · exact ⟨_, (w_49_107 n).1, (w_49_107 n).2, Or.inl rfl⟩
  · exact ⟨_, (w_49_122 n).1, (w_49_122 n).2, Or.inl rfl⟩
  · exact ⟨_, (w_49_57 n).1, (w_49_57 n).2, Or.inr ⟨19, by decide, rfl⟩⟩
  · exact ⟨_, (w_49_48 n).1, (w_49_48 n).2, Or.inr ⟨10, by decide, rfl⟩⟩
  · exact ⟨_, (w_49_49 n).1, (w_49_49 n).2, Or.inr ⟨11, by decide, rfl⟩⟩
  · exact ⟨_, (w_49_66 n).1, (w_49_66 n).2, Or.inl rfl⟩
  · exact ⟨_, (w_66_97 n).1, (w_66_97 n).2, Or.inl rfl⟩
  · exact ⟨_, (w_66_107 n).1, (w_66_107 n).2, Or.inl rfl⟩
  · exact ⟨_, (w_66_122 n).1, (w_66_122 n).2, Or.inl rfl⟩
  · exact ⟨_, (w_66_57 n).1, (w_66_57 n).2, Or.inl rfl⟩
  · exact ⟨_, (w_66_48 n).1, (w_66_48 n).2, Or.inl rfl⟩
  · exact ⟨_, (w_66_49 n).1, (w_66_49 n).2, Or.inl rfl⟩
  · exact ⟨_, (w_66_66 n).1, (w_66_66 n).2, Or.inl rfl⟩
end LK
end
section
set_option maxRecDepth 100000
namespace LK
open PySem L2 DK PySem.Spec PyProof.Rows
def sSm : PySem.Str := ⟨#[97, 98, 99, 100, 101, 102, 103, 104, 105, 106, 107, 108, 109, 110, 111, 112, 113, 114, 115, 116, 117, 118, 119, 120, 121, 122]⟩
def nmB (w : PySem.Str) : Bool := (decide (1 ≤ (w.length : Int)) && decide ((w.length : Int) ≤ 12)) && w.cps.toList.all fun c => decide (c ∈ sSm.cps.toList)
section
variable {C : Nat → List Slot → CRes} {G : List D}
theorem len_s {i m : Nat} {w : PySem.Str} {g : Gam} (hw : w.length ≤ m) (hm : m ≤ 1000000) (h : g[i]? = some (.val (.str w))) : evalE C G (.blt .len (.cons (.var i) .nil)) g = .ok (.val (nD w.length)) g := by
  have hv : evalE C G (.var i) g = .ok (.val (.str w)) g := by simp [evalSs, evalS, seqF, evalE, evalEs, evalPs, evalAs, contents, content, runE, bnd, opt, pur, bltD, binD, freeze, store, argOf, doCall, slotsOf, Arg.slot, refsOf, noTwice, giveBack, retF, setF, lim, h]
  refine blt1 (d := .str w) hv rfl ?_
  rw [bltD, if_pos (Nat.le_of_lt (lim_of (by omega)))]
theorem cmp2_i {a b c : E} {g : Gam} {x y z : Int} (h1 : evalE C G a g = .ok (.val (.int x)) g) (h2 : evalE C G b g = .ok (.val (.int y)) g) (h3 : evalE C G c g = .ok (.val (.int z)) g) : evalE C G (.cmp2 .le .le a b c) g = .ok (.val (.bool (decide (x ≤ y) && decide (y ≤ z)))) g := by
  by_cases h : x ≤ y <;> simp [evalSs, evalS, seqF, evalE, evalEs, evalPs, evalAs, contents, content, runE, bnd, opt, pur, bltD, binD, freeze, store, argOf, doCall, slotsOf, Arg.slot, refsOf, noTwice, giveBack, retF, setF, lim, h1, h2, h3, cmpD, h]
theorem isin_e {e : E} {j c : Nat} {g : Gam} (h : g[j]? = some (.val (ch c))) (he : evalE C G e g = .ok (.val (.str sSm)) g) : evalE C G (.cmp .isin (.var j) e) g = .ok (.val (.bool (decide (c ∈ sSm.cps.toList)))) g := by
  have hv : evalE C G (.var j) g = .ok (.val (ch c)) g := by simp [evalSs, evalS, seqF, evalE, evalEs, evalPs, evalAs, contents, content, runE, bnd, opt, pur, bltD, binD, freeze, store, argOf, doCall, slotsOf, Arg.slot, refsOf, noTwice, giveBack, retF, setF, lim, h]
  exact cmp_v hv he rfl
theorem name_e {e : E} {i j m : Nat} {w : PySem.Str} {g g0 : Gam} (hw : w.length ≤ m) (hm : m ≤ 1000000) (h : g[i]? = some (.val (.str w))) (hwp : wipeG g [j] = g0) (hr : restoreG g g0 [j] = g) (g1 : Nat → Gam)
    (he : ∀ c, assignT (.name j) (ch c) g0 = some (g1 c) ∧ (g1 c)[j]? = some (.val (ch c)) ∧ evalE C G e (g1 c) = .ok (.val (.str sSm)) (g1 c) ∧ wipeG (g1 c) [j] = g0) :
    evalE C G (.and (.cmp2 .le .le (.cst (.int (1))) (.blt .len (.cons (.var i) .nil)) (.cst (.int (12)))) (.blt .all (.cons (.comp (.cmp .isin (.var j) e) (.name j) (.e (.var i)) .nil [j]) .nil))) g = .ok (.val (.bool (nmB w))) g := by
  have h1 := cmp2_i (C := C) (G := G) (a := .cst (.int (1))) (c := .cst (.int (12))) (x := 1) (z := 12) (g := g) rfl (len_s hw hm h) rfl
  unfold nmB
  cases hb : (decide ((1 : Int) ≤ (w.length : Int)) && decide ((w.length : Int) ≤ 12)) with
  | false => rw [hb] at h1; exact and_ff h1
  | true =>
    rw [hb] at h1
    refine and_tt h1 ?_
    have hl : w.cps.toList.length ≤ 1000000 := by show w.length ≤ _; omega
    have hc := comp_all (C := C) (G := G) (elt := .cmp .isin (.var j) e) (tg := .name j) (own := [j]) (g := g) (g0 := g0) w.cps.toList ch g1 (fun c => PyData.bool (decide (c ∈ sSm.cps.toList))) (chars_e h) hl hwp hr (fun c _ => by
      obtain ⟨a, b, c', d⟩ := he c
      exact ⟨a, frz_val (isin_e b c'), d⟩)
    rw [Bool.true_and]
    exact all_e hc (all_f (fun c => decide (c ∈ sSm.cps.toList)) w.cps.toList)
end
theorem nm_ok (n : Nat) {m : Nat} {w : PySem.Str} (hw : w.length ≤ m) (hm : m ≤ 1000000) : callN l.P l.G (n + 1) 6 [.val (.str w)] = .ret (.val (.bool (nmB w))) [.no] := by
  have h := name_e (C := callN l.P l.G n) (G := l.G) (e := .glob 0) (i := 0) (j := 1) (g := [.val (.str w), .no]) (g0 := [.val (.str w), .no]) hw hm rfl rfl rfl (fun c => [.val (.str w), .val (ch c)]) (fun c => ⟨rfl, rfl, by kernel_rfl, rfl⟩)
  exact callN_by (fn := f6.fn) rfl rfl (ret1 h) rfl
/-! long words are no numbers -/
def st100 : List D := (List.range 100).map fun k => PyData.str (toString ((k : Nat) : Int))
theorem st_small : ∀ k ∈ List.range 100, (PySem.Str.ofString (toString ((k : Nat) : Int))).length ≤ 2 := by decide +kernel
theorem st_shaped : shapedD (.list st100) = true := by kernel_rfl
theorem not_in {m : Nat} {w : PySem.Str} (hp : Pl m w) (h : 3 ≤ w.length) : cmpD .isin (.str w) (.list st100) = some false := by
  have h1 : shapedD (.str w) = true := by
    unfold shapedD SeqAt.shaped
    rw [show PyData.canLay0 (.str w) = true from pl_ok hp]
    rfl
  have h2 : (st100.any fun z => PyData.eqv z (.str w)) = false := by
    rw [List.any_eq_false]
    intro z hz
    obtain ⟨k, hk, rfl⟩ := List.mem_map.1 hz
    have := st_small k hk
    intro he
    have he' : (PySem.Str.ofString (toString ((k : Nat) : Int)) == w) = true := he
    have e := eq_of_beq he'
    rw [e] at this
    omega
  unfold cmpD
  dsimp only
  rw [h1, st_shaped, h2]
  rfl
theorem num_long (n : Nat) {m : Nat} {w : PySem.Str} (hp : Pl m w) (hm : m ≤ 1000000) (h : 3 ≤ w.length) : callN l.P l.G (n + 1) 7 [.val (.str w)] = .ret (.val .none) [.no] := by
  have hc := cmp2_i (C := callN l.P l.G n) (G := l.G) (a := .cst (.int (1))) (c := .cst (.int (2))) (x := 1) (z := 2) (g := [.val (.str w), .no]) rfl (len_s (i := 0) hp.1 hm rfl) rfl
  have e : (decide ((1 : Int) ≤ (w.length : Int)) && decide ((w.length : Int) ≤ 2)) = false := by
    rw [decide_eq_false (by omega : ¬ (w.length : Int) ≤ 2), Bool.and_false]
  rw [e] at hc
  have hb : evalSs (callN l.P l.G n) l.G b7 [.val (.str w), .no] = .ret (.val .none) [.val (.str w), .no] := if_ret (or_tt (not_e hc)) rfl
  exact callN_by (fn := f7.fn) rfl rfl hb rfl
theorem str_elt (C : Nat → List Slot → CRes) (W : D) (k : Nat) (h : k < 100) : evalE C l.G (.blt .str (.cons (.var 1) .nil)) [.val W, .val (nD k)] = .ok (.val (.str (toString ((k : Nat) : Int)))) [.val W, .val (nD k)] := by
  refine blt1 (v := .val (nD k)) (d := nD k) rfl rfl ?_
  have hl : ((k : Int)).natAbs.log2 < 1920 := by
    have : ((k : Int)).natAbs < 2 ^ 7 := by simp; omega
    exact Nat.lt_trans (log_lt this (by decide)) (by decide)
  rw [bltD, if_pos hl]
theorem lnum_long (n : Nat) {m : Nat} {w : PySem.Str} (hp : Pl m w) (h : 3 ≤ w.length) : callN l.P l.G (n + 1) 14 [.val (.str w)] = .ret (.val .none) [.no] := by
  have hc := comp_all (C := callN l.P l.G n) (G := l.G) (elt := .blt .str (.cons (.var 1) .nil)) (tg := .name 1) (it := .range (.cons (.cst (.int (100))) .nil)) (own := [1]) (g := [.val (.str w), .no]) (g0 := [.val (.str w), .no]) (List.range 100) nD (fun k => [.val (.str w), .val (nD k)]) (fun k => PyData.str (toString ((k : Nat) : Int))) (range_n (i := 100) 100 rfl rfl (by decide)) (by decide) rfl rfl (fun k hk => ⟨rfl, frz_val (str_elt _ _ k (List.mem_range.1 hk)), rfl⟩)
  have ht := cmp_e (C := callN l.P l.G n) (G := l.G) (o := .isin) (a := .var 0) (va := .val (.str w)) (x := .str w) rfl hc rfl rfl (not_in hp h)
  have hb : evalSs (callN l.P l.G n) l.G b14 [.val (.str w), .no] = .ret (.val .none) [.val (.str w), .no] := ret_s (ife_f ht rfl)
  exact callN_by (fn := f14.fn) rfl rfl hb rfl
/-! join -/
theorem strL_m : ∀ (zs : List PySem.Str), strL (zs.map PyData.str) = some zs := by
  intro zs
  induction zs with
  | nil => rfl
  | cons z zs ih => rw [List.map_cons, strL, ih]; rfl
def sE : PySem.Str := ⟨#[]⟩
theorem join_in {a k : Nat} {zs : List PySem.Str} (h : ∀ z ∈ zs, z.length ≤ a) (hl : zs.length ≤ k) (hk : k ≤ 1000) (ha : a ≤ 100) : methD .join (.str sE) [.list (zs.map PyData.str)] = some (.val (.str (Txt.join sE zs))) ∧ (Txt.join sE zs).length ≤ k * a ∧ ∀ c ∈ (Txt.join sE zs).cps.toList, ∃ z ∈ zs, c ∈ z.cps.toList := by
  have hs : (zs.map (·.length)).sum ≤ zs.length * a := by
    clear hl
    induction zs with
    | nil => simp
    | cons z zs ih =>
      have h1 := h z (List.mem_cons_self ..)
      have h2 := ih (fun x hx => h x (List.mem_cons_of_mem _ hx))
      rw [List.map_cons, List.sum_cons, List.length_cons, Nat.succ_mul]; omega
  have hk2 : zs.length * a ≤ k * a := Nat.mul_le_mul_right a hl
  have hk3 : k * a ≤ 1000 * 100 := Nat.mul_le_mul hk ha
  have e0 : sE.length = 0 := rfl
  refine ⟨?_, ?_, ?_⟩
  · rw [methD, strL_m, Option.bind_some, if_pos (by rw [e0, Nat.mul_zero]; unfold DK.lim; omega)]
  · have := size_glued sE zs
    rw [e0, Nat.mul_zero, Nat.add_zero] at this
    show (PySem.Builtin.Str.glued sE zs).length ≤ _
    omega
  · intro c hc
    rw [TL.join_eq, mem_join] at hc
    rcases hc with hc | ⟨_, hc⟩
    · exact hc
    · cases hc
theorem join_e {C : Nat → List Slot → CRes} {G : List D} {ce : E} {g g1 : Gam} {ds : List D} {s : D} (h : evalE C G ce g = .ok (.own ds) g1) (hj : methD .join (.str sE) [.list ds] = some (.val s)) : evalE C G (.meth .join (.cst (.str ⟨#[]⟩)) (.cons ce .nil)) g = .ok (.val s) g1 := by
  unfold sE at hj
  simp [evalSs, evalS, seqF, evalE, evalEs, evalPs, evalAs, contents, content, runE, bnd, opt, pur, bltD, binD, freeze, store, argOf, doCall, slotsOf, Arg.slot, refsOf, noTwice, giveBack, retF, setF, lim, tyM, tyD, h, hj]
end LK
end
section
set_option maxRecDepth 100000
namespace LK
open PySem L2 DK PySem.Spec PyProof.Rows
abbrev x1 : S := (.set 1 false (.call 9 (.cons .r (.var 0) .nil)))
abbrev x2 : S := (.set 1 false (.call 11 (.cons .m (.var 1) (.cons .r (.cst (.int (200))) .nil))))
abbrev x3 : S := (.ifs (.cmp .ne (.lst (.cons (.call 5 (.cons .r (.cst (.str ⟨#[97, 32, 98]⟩)) .nil)) (.cons (.call 6 (.cons .r (.cst (.str ⟨#[97, 98, 99, 100, 101, 102, 103, 104, 105, 106, 107, 108]⟩)) .nil)) (.cons (.call 6 (.cons .r (.cst (.str ⟨#[97, 98, 99, 100, 101, 102, 103, 104, 105, 106, 107, 108, 109]⟩)) .nil)) (.cons (.call 7 (.cons .r (.cst (.str ⟨#[48, 55]⟩)) .nil)) (.cons (.call 7 (.cons .r (.cst (.str ⟨#[57, 57]⟩)) .nil)) .nil)))))) (.lst (.cons (.lst (.cons (.cst (.str ⟨#[97]⟩)) (.cons (.cst (.str ⟨#[98]⟩)) .nil))) (.cons (.cst (.bool true)) (.cons (.cst (.bool false)) (.cons (.cst .none) (.cons (.cst (.int (99))) .nil))))))) (.cons (.ret (.cst (.bool false))) .nil) .nil)
abbrev x4 : S := (.fors (.name 2) (.range (.cons (.cst (.int (6))) .nil)) (.cons (.set 6 true (.meth .join (.cst (.str ⟨#[]⟩)) (.cons (.comp (.call 12 (.cons .m (.var 1) (.cons .r (.lst (.cons (.cst (.str ⟨#[97]⟩)) (.cons (.cst (.str ⟨#[98]⟩)) (.cons (.cst (.str ⟨#[32]⟩)) (.cons (.cst (.str ⟨#[48]⟩)) (.cons (.cst (.str ⟨#[55]⟩)) (.cons (.cst (.str ⟨#[126]⟩)) (.cons (.cst (.str ⟨#[33]⟩)) (.cons (.cst (.str ⟨#[40]⟩)) (.cons (.cst (.str ⟨#[65]⟩)) (.cons (.cst (.str ⟨#[9]⟩)) (.cons (.cst (.str ⟨#[45]⟩)) (.cons (.cst (.str ⟨#[122]⟩)) (.cons (.cst (.str ⟨#[32, 32]⟩)) .nil)))))))))))))) .nil))) (.name 11) (.range (.cons (.bin .mod (.blt .int (.cons (.call 10 (.cons .m (.var 1) .nil)) .nil)) (.cst (.int (9)))) .nil)) .nil [11]) .nil))) (.cons (.ifs (.cmp .ne (.blt .repr (.cons (.call 5 (.cons .r (.var 6) .nil)) .nil)) (.blt .repr (.cons (.call 13 (.cons .r (.var 6) .nil)) .nil))) (.cons (.ret (.cst (.bool false))) .nil) .nil) (.cons (.set 7 true (.meth .join (.cst (.str ⟨#[]⟩)) (.cons (.comp (.call 12 (.cons .m (.var 1) (.cons .r (.lst (.cons (.cst (.str ⟨#[97]⟩)) (.cons (.cst (.str ⟨#[107]⟩)) (.cons (.cst (.str ⟨#[122]⟩)) (.cons (.cst (.str ⟨#[57]⟩)) (.cons (.cst (.str ⟨#[48]⟩)) (.cons (.cst (.str ⟨#[49]⟩)) (.cons (.cst (.str ⟨#[]⟩)) (.cons (.cst (.str ⟨#[]⟩)) (.cons (.cst (.str ⟨#[66]⟩)) .nil)))))))))) .nil))) (.name 11) (.range (.cons (.bin .mod (.blt .int (.cons (.call 10 (.cons .m (.var 1) .nil)) .nil)) (.cst (.int (15)))) .nil)) .nil [11]) .nil))) (.cons (.set 8 true (.and (.cmp2 .le .le (.cst (.int (1))) (.blt .len (.cons (.var 7) .nil)) (.cst (.int (12)))) (.blt .all (.cons (.comp (.cmp .isin (.var 13) (.cst (.str ⟨#[97, 98, 99, 100, 101, 102, 103, 104, 105, 106, 107, 108, 109, 110, 111, 112, 113, 114, 115, 116, 117, 118, 119, 120, 121, 122]⟩))) (.name 13) (.e (.var 7)) .nil [13]) .nil)))) (.cons (.ifs (.cmp .ne (.blt .repr (.cons (.lst (.cons (.call 6 (.cons .r (.var 7) .nil)) (.cons (.call 7 (.cons .r (.var 7) .nil)) .nil))) .nil)) (.blt .repr (.cons (.lst (.cons (.var 8) (.cons (.call 14 (.cons .r (.var 7) .nil)) .nil))) .nil))) (.cons (.ret (.cst (.bool false))) .nil) .nil) .nil))))))
abbrev x5 : S := (.ifs (.cmp .ne (.comp (.blt .repr (.cons (.call 7 (.cons .r (.var 7) .nil)) .nil)) (.name 7) (.e (.lst (.cons (.cst (.str ⟨#[]⟩)) (.cons (.cst (.str ⟨#[48]⟩)) (.cons (.cst (.str ⟨#[48, 48]⟩)) (.cons (.cst (.str ⟨#[49, 48, 48]⟩)) (.cons (.cst (.str ⟨#[45, 49]⟩)) (.cons (.cst (.str ⟨#[53]⟩)) (.cons (.cst (.str ⟨#[43, 53]⟩)) (.cons (.cst (.str ⟨#[32, 53]⟩)) (.cons (.cst (.str ⟨#[53, 32]⟩)) .nil))))))))))) .nil [7]) (.lst (.cons (.cst (.str ⟨#[78, 111, 110, 101]⟩)) (.cons (.cst (.str ⟨#[48]⟩)) (.cons (.cst (.str ⟨#[78, 111, 110, 101]⟩)) (.cons (.cst (.str ⟨#[78, 111, 110, 101]⟩)) (.cons (.cst (.str ⟨#[78, 111, 110, 101]⟩)) (.cons (.cst (.str ⟨#[53]⟩)) (.cons (.cst (.str ⟨#[78, 111, 110, 101]⟩)) (.cons (.cst (.str ⟨#[78, 111, 110, 101]⟩)) (.cons (.cst (.str ⟨#[78, 111, 110, 101]⟩)) .nil))))))))))) (.cons (.ret (.cst (.bool false))) .nil) .nil)
abbrev x6 : S := (.set 3 true (.lst (.cons (.tup (.cons (.tup (.cons (.tup (.cons (.cst (.int (0))) (.cons (.cst (.int (1))) .nil))) (.cons (.tup (.cons (.cst (.int (1))) (.cons (.cst (.int (2))) .nil))) .nil))) (.cons (.tup (.cons (.tup (.cons (.cst (.int (1))) (.cons (.cst (.int (1))) .nil))) (.cons (.tup (.cons (.cst (.int (0))) (.cons (.cst (.int (1))) .nil))) .nil))) .nil))) (.cons (.tup (.cons (.tup (.cons (.cst (.int (1))) (.cons (.cst (.int (2))) .nil))) (.cons (.tup (.cons (.cst (.int (3))) .nil)) .nil))) (.cons (.tup (.cons (.tup (.cons (.tup (.cons (.cst (.int (1))) .nil)) (.cons (.tup (.cons (.cst (.int (2))) .nil)) (.cons (.tup (.cons (.cst (.int (3))) .nil)) .nil)))) .nil)) (.cons (.tup (.cons (.cst (.int (0))) (.cons (.cst (.int (1))) (.cons (.cst (.int (1))) .nil)))) (.cons (.tup (.cons (.tup .nil) (.cons (.tup (.cons (.tup (.cons (.cst (.int (1))) .nil)) .nil)) .nil))) (.cons (.tup .nil) .nil))))))))
abbrev x7 : S := (.fors (.name 4) (.e (.bin .add (.bin .add (.var 3) (.comp (.call 18 (.cons .m (.var 1) (.cons .r (.call 12 (.cons .m (.var 1) (.cons .r (.var 3) .nil))) .nil))) (.name 2) (.range (.cons (.cst (.int (12))) .nil)) .nil [2])) (.lst (.cons (.tup .nil) (.cons (.cst .none) (.cons (.cst (.str ⟨#[]⟩)) (.cons (.cst (.int (0))) .nil))))))) (.cons (.set 9 true (.lst (.cons (.cst (.str ⟨#[109, 97, 112]⟩)) (.cons (.cst (.str ⟨#[114, 111, 119]⟩)) .nil)))) (.cons (.ifs (.cmp .ne (.comp (.call 4 (.cons .r (.var 12) (.cons .r (.var 4) .nil))) (.name 12) (.e (.var 9)) .nil [12]) (.comp (.call 17 (.cons .r (.var 12) (.cons .r (.var 4) .nil))) (.name 12) (.e (.var 9)) .nil [12])) (.cons (.ret (.cst (.bool false))) .nil) .nil) .nil)))
abbrev x8 : S := (.fors (.name 5) (.e (.lst (.cons (.cst (.str ⟨#[]⟩)) (.cons (.cst (.str ⟨#[70, 111, 114, 109]⟩)) (.cons (.cst (.str ⟨#[116, 101, 114, 109]⟩)) .nil))))) (.cons (.tryk (.cons (.expr (.call 4 (.cons .r (.var 5) (.cons .r (.tup .nil) .nil)))) (.cons (.ret (.cst (.bool false))) .nil)) 10 [⟨#[33, 109, 97, 112]⟩, ⟨#[33, 99, 121, 99, 108, 101]⟩, ⟨#[33, 116, 97, 98, 108, 101]⟩, ⟨#[33, 112, 97, 112, 101, 114]⟩, ⟨#[33, 110, 117, 109, 98, 101, 114]⟩, ⟨#[33, 110, 111, 110, 101]⟩, ⟨#[33, 108, 97, 114, 103, 101]⟩] (some (⟨#[33, 110, 117, 109, 98, 101, 114]⟩, false))) .nil))
abbrev x9 : S := (.ret (.cst (.bool true)))
abbrev t10 : Ss := .nil
abbrev t9 : Ss := .cons x9 t10
abbrev t8 : Ss := .cons x8 t9
abbrev t7 : Ss := .cons x7 t8
abbrev t6 : Ss := .cons x6 t7
abbrev t5 : Ss := .cons x5 t6
abbrev t4 : Ss := .cons x4 t5
abbrev t3 : Ss := .cons x3 t4
abbrev t2 : Ss := .cons x2 t3
abbrev t1 : Ss := .cons x1 t2
abbrev m1 : S := (.set 6 true (.meth .join (.cst (.str ⟨#[]⟩)) (.cons (.comp (.call 12 (.cons .m (.var 1) (.cons .r (.lst (.cons (.cst (.str ⟨#[97]⟩)) (.cons (.cst (.str ⟨#[98]⟩)) (.cons (.cst (.str ⟨#[32]⟩)) (.cons (.cst (.str ⟨#[48]⟩)) (.cons (.cst (.str ⟨#[55]⟩)) (.cons (.cst (.str ⟨#[126]⟩)) (.cons (.cst (.str ⟨#[33]⟩)) (.cons (.cst (.str ⟨#[40]⟩)) (.cons (.cst (.str ⟨#[65]⟩)) (.cons (.cst (.str ⟨#[9]⟩)) (.cons (.cst (.str ⟨#[45]⟩)) (.cons (.cst (.str ⟨#[122]⟩)) (.cons (.cst (.str ⟨#[32, 32]⟩)) .nil)))))))))))))) .nil))) (.name 11) (.range (.cons (.bin .mod (.blt .int (.cons (.call 10 (.cons .m (.var 1) .nil)) .nil)) (.cst (.int (9)))) .nil)) .nil [11]) .nil)))
abbrev m2 : S := (.ifs (.cmp .ne (.blt .repr (.cons (.call 5 (.cons .r (.var 6) .nil)) .nil)) (.blt .repr (.cons (.call 13 (.cons .r (.var 6) .nil)) .nil))) (.cons (.ret (.cst (.bool false))) .nil) .nil)
abbrev m3 : S := (.set 7 true (.meth .join (.cst (.str ⟨#[]⟩)) (.cons (.comp (.call 12 (.cons .m (.var 1) (.cons .r (.lst (.cons (.cst (.str ⟨#[97]⟩)) (.cons (.cst (.str ⟨#[107]⟩)) (.cons (.cst (.str ⟨#[122]⟩)) (.cons (.cst (.str ⟨#[57]⟩)) (.cons (.cst (.str ⟨#[48]⟩)) (.cons (.cst (.str ⟨#[49]⟩)) (.cons (.cst (.str ⟨#[]⟩)) (.cons (.cst (.str ⟨#[]⟩)) (.cons (.cst (.str ⟨#[66]⟩)) .nil)))))))))) .nil))) (.name 11) (.range (.cons (.bin .mod (.blt .int (.cons (.call 10 (.cons .m (.var 1) .nil)) .nil)) (.cst (.int (15)))) .nil)) .nil [11]) .nil)))
abbrev m4 : S := (.set 8 true (.and (.cmp2 .le .le (.cst (.int (1))) (.blt .len (.cons (.var 7) .nil)) (.cst (.int (12)))) (.blt .all (.cons (.comp (.cmp .isin (.var 13) (.cst (.str ⟨#[97, 98, 99, 100, 101, 102, 103, 104, 105, 106, 107, 108, 109, 110, 111, 112, 113, 114, 115, 116, 117, 118, 119, 120, 121, 122]⟩))) (.name 13) (.e (.var 7)) .nil [13]) .nil))))
abbrev m5 : S := (.ifs (.cmp .ne (.blt .repr (.cons (.lst (.cons (.call 6 (.cons .r (.var 7) .nil)) (.cons (.call 7 (.cons .r (.var 7) .nil)) .nil))) .nil)) (.blt .repr (.cons (.lst (.cons (.var 8) (.cons (.call 14 (.cons .r (.var 7) .nil)) .nil))) .nil))) (.cons (.ret (.cst (.bool false))) .nil) .nil)
abbrev mB : Ss := .cons m1 (.cons m2 (.cons m3 (.cons m4 (.cons m5 .nil))))
abbrev q13 : E := (.lst (.cons (.cst (.str ⟨#[97]⟩)) (.cons (.cst (.str ⟨#[98]⟩)) (.cons (.cst (.str ⟨#[32]⟩)) (.cons (.cst (.str ⟨#[48]⟩)) (.cons (.cst (.str ⟨#[55]⟩)) (.cons (.cst (.str ⟨#[126]⟩)) (.cons (.cst (.str ⟨#[33]⟩)) (.cons (.cst (.str ⟨#[40]⟩)) (.cons (.cst (.str ⟨#[65]⟩)) (.cons (.cst (.str ⟨#[9]⟩)) (.cons (.cst (.str ⟨#[45]⟩)) (.cons (.cst (.str ⟨#[122]⟩)) (.cons (.cst (.str ⟨#[32, 32]⟩)) .nil))))))))))))))
abbrev q9 : E := (.lst (.cons (.cst (.str ⟨#[97]⟩)) (.cons (.cst (.str ⟨#[107]⟩)) (.cons (.cst (.str ⟨#[122]⟩)) (.cons (.cst (.str ⟨#[57]⟩)) (.cons (.cst (.str ⟨#[48]⟩)) (.cons (.cst (.str ⟨#[49]⟩)) (.cons (.cst (.str ⟨#[]⟩)) (.cons (.cst (.str ⟨#[]⟩)) (.cons (.cst (.str ⟨#[66]⟩)) .nil))))))))))
abbrev k13 : E := (.comp (.call 12 (.cons .m (.var 1) (.cons .r (.lst (.cons (.cst (.str ⟨#[97]⟩)) (.cons (.cst (.str ⟨#[98]⟩)) (.cons (.cst (.str ⟨#[32]⟩)) (.cons (.cst (.str ⟨#[48]⟩)) (.cons (.cst (.str ⟨#[55]⟩)) (.cons (.cst (.str ⟨#[126]⟩)) (.cons (.cst (.str ⟨#[33]⟩)) (.cons (.cst (.str ⟨#[40]⟩)) (.cons (.cst (.str ⟨#[65]⟩)) (.cons (.cst (.str ⟨#[9]⟩)) (.cons (.cst (.str ⟨#[45]⟩)) (.cons (.cst (.str ⟨#[122]⟩)) (.cons (.cst (.str ⟨#[32, 32]⟩)) .nil)))))))))))))) .nil))) (.name 11) (.range (.cons (.bin .mod (.blt .int (.cons (.call 10 (.cons .m (.var 1) .nil)) .nil)) (.cst (.int (9)))) .nil)) .nil [11])
abbrev k9 : E := (.comp (.call 12 (.cons .m (.var 1) (.cons .r (.lst (.cons (.cst (.str ⟨#[97]⟩)) (.cons (.cst (.str ⟨#[107]⟩)) (.cons (.cst (.str ⟨#[122]⟩)) (.cons (.cst (.str ⟨#[57]⟩)) (.cons (.cst (.str ⟨#[48]⟩)) (.cons (.cst (.str ⟨#[49]⟩)) (.cons (.cst (.str ⟨#[]⟩)) (.cons (.cst (.str ⟨#[]⟩)) (.cons (.cst (.str ⟨#[66]⟩)) .nil)))))))))) .nil))) (.name 11) (.range (.cons (.bin .mod (.blt .int (.cons (.call 10 (.cons .m (.var 1) .nil)) .nil)) (.cst (.int (15)))) .nil)) .nil [11])
def A13 : List PySem.Str := [⟨#[97]⟩, ⟨#[98]⟩, ⟨#[32]⟩, ⟨#[48]⟩, ⟨#[55]⟩, ⟨#[126]⟩, ⟨#[33]⟩, ⟨#[40]⟩, ⟨#[65]⟩, ⟨#[9]⟩, ⟨#[45]⟩, ⟨#[122]⟩, ⟨#[32, 32]⟩]
def A9 : List PySem.Str := [⟨#[97]⟩, ⟨#[107]⟩, ⟨#[122]⟩, ⟨#[57]⟩, ⟨#[48]⟩, ⟨#[49]⟩, ⟨#[]⟩, ⟨#[]⟩, ⟨#[66]⟩]
theorem A13_ok : ∀ s ∈ A13, s.length ≤ 2 ∧ ∀ c ∈ s.cps.toList, c < 128 := by decide +kernel
theorem A9_ok : ∀ s ∈ A9, s.length ≤ 1 ∧ ∀ c ∈ s.cps.toList, c ∈ L7 := by decide +kernel
theorem L7_lt : ∀ c ∈ L7, c < 128 := by decide
theorem num_eq (n : Nat) {w : PySem.Str} (hl : w.length ≤ 14) (hc : ∀ c ∈ w.cps.toList, c ∈ L7) : ∃ d, callN l.P l.G (n + 1) 7 [.val (.str w)] = .ret (.val d) [.no] ∧ callN l.P l.G (n + 1) 14 [.val (.str w)] = .ret (.val d) [.no] ∧ Num d := by
  have hp : Pl 14 w := ⟨hl, fun c h => L7_lt c (hc c h)⟩
  obtain ⟨⟨L⟩⟩ := w
  match L, hl, hc, hp with
  | [], _, _, _ => exact ⟨.none, (w0 n).1, (w0 n).2, Or.inl rfl⟩
  | [c], _, hc, _ => exact w1 n c (hc c (by simp))
  | [c, e], _, hc, _ => exact w2 n c e (hc c (by simp)) (hc e (by simp))
  | c :: e :: f :: r, _, _, hp => exact ⟨.none, num_long n hp (by omega) (show 3 ≤ (c :: e :: f :: r).length by simp), lnum_long n hp (show 3 ≤ (c :: e :: f :: r).length by simp), Or.inl rfl⟩
theorem nz_bool (b : Bool) : Nz 5 0 (.bool b) := by
  refine ⟨rfl, Nat.le_refl _, rfl, Nat.le_refl _, fun k hk hm => ?_⟩
  have e1 : (PyData.bool true).shown.cps.toList = [84, 114, 117, 101] := by kernel_rfl
  have e2 : (PyData.bool false).shown.cps.toList = [70, 97, 108, 115, 101] := by kernel_rfl
  cases b
  · rw [e2] at hm; simp at hm; omega
  · rw [e1] at hm; simp at hm; omega
theorem nz_num {d : D} (h : Num d) : Nz 2000 0 d := by
  rcases h with rfl | ⟨k, hk, rfl⟩
  · exact nz_none.mono (by omega) (Nat.le_refl _)
  · exact nz_nD (Nat.lt_trans hk (by decide))
section
variable {C : Nat → List Slot → CRes} {G : List D}
theorem pk_str (n : Nat) (zs : List Int) (A : List PySem.Str) (h0 : 0 < A.length) (h1 : A.length ≤ 1000) : ∃ s ∈ A, callN l.P l.G (n + 2) 12 [.own .loan (iL zs), .val (.list (A.map PyData.str))] = .ret (.val (.str s)) [.own .loan (iL (rs zs)), .no] := by
  obtain ⟨R, hR, hC⟩ := pk_in n zs (A.map PyData.str) (by simpa using h0) (by simpa using h1)
  obtain ⟨s, hs, rfl⟩ := List.mem_map.1 hR
  exact ⟨s, hs, hC⟩
theorem dmod' {m : Int} {e : E} {zs : List Int} {g g1 : Gam} (hC : C 10 [.own .loan (iL zs)] = .ret (.val (.int (nx zs))) [.own .loan (iL (rs zs))]) (hg : g[1]? = some (.own .mine (iL zs))) (h1 : g.set 1 (.own .mine (iL (rs zs))) = g1) (he : evalE C G e g1 = .ok (.val (.int m)) g1) (hm : 0 < m) : evalE C G (.bin .mod (.blt .int (.cons (.call 10 (.cons .m (.var 1) .nil)) .nil)) e) g = .ok (.val (.int (nx zs % m))) g1 := by
  have := next_e (G := G) hC hg
  rw [h1] at this
  exact mod_i this he hm
theorem pick_at {zs : List Int} {g g1 : Gam} {e : E} {ss : List D} {R : D} (he : evalE C G e g = .ok (.own ss) g) (hC : C 12 [.own .loan (iL zs), .val (.list ss)] = .ret (.val R) [.own .loan (iL (rs zs)), .no]) (hg : g[1]? = some (.own .mine (iL zs))) (h1 : g.set 1 (.own .mine (iL (rs zs))) = g1) : evalE C G (.call 12 (.cons .m (.var 1) (.cons .r e .nil))) g = .ok (.val R) g1 := by
  rw [← h1]; exact pick_e he hC hg
end
abbrev sA (sc : D) (zs : List Int) (o2 o6 o7 o8 : Option D) : Gam := [.val sc, .own .mine (iL zs), oS o2, .no, .no, .no, oS o6, oS o7, oS o8, .no, .no, .no, .no, .no]
theorem dr13 (sc : D) (zs : List Int) (o2 o6 o7 o8 : Option D) : ∃ (zs' : List Int) (ss : List PySem.Str), evalE (callN l.P l.G 60) l.G k13 (sA sc zs o2 o6 o7 o8) = .ok (.own (ss.map PyData.str)) (sA sc zs' o2 o6 o7 o8) ∧ ss.length ≤ 8 ∧ ∀ s ∈ ss, s ∈ A13 := by
  obtain ⟨k, hk, hk8⟩ := mod_nat (nx zs) 9 (by decide)
  have hk' : nx zs % 9 = (k : Int) := hk
  obtain ⟨ds, zs', e1, e2, e3⟩ := dcomp (C := callN l.P l.G 60) (G := l.G) (elt := .call 12 (.cons .m (.var 1) (.cons .r q13 .nil))) (fun zs => sA sc zs o2 o6 o7 o8) (fun zs d => [.val sc, .own .mine (iL zs), oS o2, .no, .no, .no, oS o6, oS o7, oS o8, .no, .no, .val d, .no, .no]) 11 (zs0 := zs) (zs := rs zs) (List.range k) nD (range_n k (dmod' (e := .cst (.int (9))) (m := 9) (g := sA sc zs o2 o6 o7 o8) (g1 := sA sc (rs zs) o2 o6 o7 o8) (nx_ok 59 zs) rfl rfl rfl (by decide)) hk' (by omega)) (by simp; omega) (fun _ _ => rfl) (fun _ _ => rfl) (fun _ => rfl) (fun _ _ => rfl) (fun _ d => ∃ s, d = PyData.str s ∧ s ∈ A13) (by
    intro x hx zs
    obtain ⟨s, hs, hC⟩ := pk_str 58 zs A13 (by decide) (by decide)
    exact ⟨.str s, rs zs, pick_at (e := q13) (ss := A13.map PyData.str) (by kernel_rfl) hC rfl rfl, s, rfl, hs⟩)
  obtain ⟨ss, rfl, h2, h3⟩ := as_map (e := PyData.str) (Q := fun s => s ∈ A13) ds (fun d hd => by
    obtain ⟨_, _, hq⟩ := e3 d hd
    exact hq)
  rw [List.length_range, ← h3] at e2
  exact ⟨zs', ss, e1, by omega, h2⟩
theorem dr9 (sc : D) (zs : List Int) (o2 o6 o7 o8 : Option D) : ∃ (zs' : List Int) (ss : List PySem.Str), evalE (callN l.P l.G 60) l.G k9 (sA sc zs o2 o6 o7 o8) = .ok (.own (ss.map PyData.str)) (sA sc zs' o2 o6 o7 o8) ∧ ss.length ≤ 14 ∧ ∀ s ∈ ss, s ∈ A9 := by
  obtain ⟨k, hk, hk8⟩ := mod_nat (nx zs) 15 (by decide)
  have hk' : nx zs % 15 = (k : Int) := hk
  obtain ⟨ds, zs', e1, e2, e3⟩ := dcomp (C := callN l.P l.G 60) (G := l.G) (elt := .call 12 (.cons .m (.var 1) (.cons .r q9 .nil))) (fun zs => sA sc zs o2 o6 o7 o8) (fun zs d => [.val sc, .own .mine (iL zs), oS o2, .no, .no, .no, oS o6, oS o7, oS o8, .no, .no, .val d, .no, .no]) 11 (zs0 := zs) (zs := rs zs) (List.range k) nD (range_n k (dmod' (e := .cst (.int (15))) (m := 15) (g := sA sc zs o2 o6 o7 o8) (g1 := sA sc (rs zs) o2 o6 o7 o8) (nx_ok 59 zs) rfl rfl rfl (by decide)) hk' (by omega)) (by simp; omega) (fun _ _ => rfl) (fun _ _ => rfl) (fun _ => rfl) (fun _ _ => rfl) (fun _ d => ∃ s, d = PyData.str s ∧ s ∈ A9) (by
    intro x hx zs
    obtain ⟨s, hs, hC⟩ := pk_str 58 zs A9 (by decide) (by decide)
    exact ⟨.str s, rs zs, pick_at (e := q9) (ss := A9.map PyData.str) (by kernel_rfl) hC rfl rfl, s, rfl, hs⟩)
  obtain ⟨ss, rfl, h2, h3⟩ := as_map (e := PyData.str) (Q := fun s => s ∈ A9) ds (fun d hd => by
    obtain ⟨_, _, hq⟩ := e3 d hd
    exact hq)
  rw [List.length_range, ← h3] at e2
  exact ⟨zs', ss, e1, by omega, h2⟩
theorem turn4 (sc : D) (zs : List Int) (o2 o6 o7 o8 : Option D) : ∃ zs' p6 p7 p8, evalSs (callN l.P l.G 60) l.G mB (sA sc zs o2 o6 o7 o8) = .next (sA sc zs' o2 p6 p7 p8) := by
  obtain ⟨z1, s1, a1, a2, a3⟩ := dr13 sc zs o2 o6 o7 o8
  obtain ⟨j1, j2, j3⟩ := join_in (a := 2) (k := 8) (zs := s1) (fun z hz => (A13_ok z (a3 z hz)).1) a2 (by decide) (by decide)
  have hL : Pl 16 (Txt.join sE s1) := ⟨j2, fun c hc => by
    obtain ⟨z, hz, h⟩ := j3 c hc
    exact (A13_ok z (a3 z hz)).2 c h⟩
  generalize Txt.join sE s1 = line at *
  obtain ⟨z2, s2, b1, b2, b3⟩ := dr9 sc z1 o2 (some (.str line)) o7 o8
  obtain ⟨i1, i2, i3⟩ := join_in (a := 1) (k := 14) (zs := s2) (fun z hz => (A9_ok z (b3 z hz)).1) b2 (by decide) (by decide)
  have hw7 : ∀ c ∈ (Txt.join sE s2).cps.toList, c ∈ L7 := fun c hc => by
    obtain ⟨z, hz, h⟩ := i3 c hc
    exact (A9_ok z (b3 z hz)).2 c h
  have hw14 : (Txt.join sE s2).length ≤ 14 := by omega
  generalize Txt.join sE s2 = word at *
  obtain ⟨d, n1, n2, n3⟩ := num_eq 59 hw14 hw7
  have hnm := nm_ok 59 hw14 (by decide)
  refine ⟨z2, some (.str line), some (.str word), some (.bool (nmB word)), ?_⟩
  refine (ss_next (g' := sA sc z1 o2 (some (.str line)) o7 o8) ?_).trans ?_
  · refine set_v (join_e a1 j1) ?_
    cases o6 <;> rfl
  refine (ss_next (g' := sA sc z1 o2 (some (.str line)) o7 o8) ?_).trans ?_
  · exact if_f (repr_ne (call1v rfl (wo_ok 59 line hL (by decide))) rfl (call1v rfl (lwo_ok 59 line hL (by decide))) rfl (lineV_ok line hL (by decide)))
  refine (ss_next (g' := sA sc z2 o2 (some (.str line)) (some (.str word)) o8) ?_).trans ?_
  · refine set_v (join_e b1 i1) ?_
    cases o7 <;> rfl
  refine (ss_next (g' := sA sc z2 o2 (some (.str line)) (some (.str word)) (some (.bool (nmB word)))) ?_).trans ?_
  · refine set_v (g1 := sA sc z2 o2 (some (.str line)) (some (.str word)) o8) (name_e (i := 7) (j := 13) (g0 := sA sc z2 o2 (some (.str line)) (some (.str word)) o8) hw14 (by decide) rfl rfl rfl (fun c => [.val sc, .own .mine (iL z2), oS o2, .no, .no, .no, .val (.str line), .val (.str word), oS o8, .no, .no, .no, .no, .val (ch c)]) (fun c => ⟨rfl, rfl, by kernel_rfl, rfl⟩)) ?_
    cases o8 <;> rfl
  refine (ss_next (if_f (repr_ne (d := .list [.bool (nmB word), d]) (lst2 (call1v rfl hnm) (call1v rfl n1)) rfl (lst2 rfl (call1v rfl n2)) rfl ?_))).trans rfl
  exact (nz_l2 ((nz_bool _).mono (show 5 ≤ 2000 by omega) (Nat.le_refl 0)) (nz_num n3)).okR (by omega) (by omega)
theorem row4 (sc : D) (zs : List Int) : ∃ zs' o2 o6 o7 o8, evalS (callN l.P l.G 60) l.G x4 (sA sc zs none none none none) = .next (sA sc zs' o2 o6 o7 o8) := by
  obtain ⟨g', k1, zs', o2, o6, o7, o8, rfl⟩ := for_rel (set := assignT (.name 2)) (b := evalSs (callN l.P l.G 60) l.G mB) nD (fun _ g => ∃ zs o2 o6 o7 o8, g = sA sc zs o2 o6 o7 o8) (fun g => ∃ zs o2 o6 o7 o8, g = sA sc zs o2 o6 o7 o8) 6 (List.range 6) 0 _ rfl ⟨zs, none, none, none, none, rfl⟩ (by
    intro k x g hk hx hi
    obtain ⟨zs, o2, o6, o7, o8, rfl⟩ := hi
    obtain ⟨zs', p6, p7, p8, h⟩ := turn4 sc zs (some (nD x)) o6 o7 o8
    exact ⟨sA sc zs (some (nD x)) o6 o7 o8, _, by cases o2 <;> rfl, Or.inl ⟨h, zs', some (nD x), p6, p7, p8, rfl⟩⟩) (fun g hg => hg)
  exact ⟨zs', o2, o6, o7, o8, for_ok (range_n (i := 6) 6 rfl rfl (by decide)) k1⟩
end LK
end
section
set_option maxRecDepth 100000
namespace LK
open PySem L2 DK PySem.Spec PyProof.Rows
abbrev nn1 : S := (.set 9 true (.lst (.cons (.cst (.str ⟨#[109, 97, 112]⟩)) (.cons (.cst (.str ⟨#[114, 111, 119]⟩)) .nil))))
abbrev nn2 : S := (.ifs (.cmp .ne (.comp (.call 4 (.cons .r (.var 12) (.cons .r (.var 4) .nil))) (.name 12) (.e (.var 9)) .nil [12]) (.comp (.call 17 (.cons .r (.var 12) (.cons .r (.var 4) .nil))) (.name 12) (.e (.var 9)) .nil [12])) (.cons (.ret (.cst (.bool false))) .nil) .nil)
abbrev nB : Ss := .cons nn1 (.cons nn2 .nil)
abbrev cS : E := (.comp (.call 18 (.cons .m (.var 1) (.cons .r (.call 12 (.cons .m (.var 1) (.cons .r (.var 3) .nil))) .nil))) (.name 2) (.range (.cons (.cst (.int (12))) .nil)) .nil [2])
abbrev L4 : E := (.lst (.cons (.tup .nil) (.cons (.cst .none) (.cons (.cst (.str ⟨#[]⟩)) (.cons (.cst (.int (0))) .nil)))))
abbrev cA : E := (.comp (.call 4 (.cons .r (.var 12) (.cons .r (.var 4) .nil))) (.name 12) (.e (.var 9)) .nil [12])
abbrev cB : E := (.comp (.call 17 (.cons .r (.var 12) (.cons .r (.var 4) .nil))) (.name 12) (.e (.var 9)) .nil [12])
abbrev tS : S := (.tryk (.cons (.expr (.call 4 (.cons .r (.var 5) (.cons .r (.tup .nil) .nil)))) (.cons (.ret (.cst (.bool false))) .nil)) 10 [⟨#[33, 109, 97, 112]⟩, ⟨#[33, 99, 121, 99, 108, 101]⟩, ⟨#[33, 116, 97, 98, 108, 101]⟩, ⟨#[33, 112, 97, 112, 101, 114]⟩, ⟨#[33, 110, 117, 109, 98, 101, 114]⟩, ⟨#[33, 110, 111, 110, 101]⟩, ⟨#[33, 108, 97, 114, 103, 101]⟩] (some (⟨#[33, 110, 117, 109, 98, 101, 114]⟩, false)))
theorem x7_eq : x7 = .fors (.name 4) (.e (.bin .add (.bin .add (.var 3) cS) L4)) nB := rfl
theorem x8_eq : x8 = .fors (.name 5) (.e (.lst (.cons (.cst (.str ⟨#[]⟩)) (.cons (.cst (.str ⟨#[70, 111, 114, 109]⟩)) (.cons (.cst (.str ⟨#[116, 101, 114, 109]⟩)) .nil))))) (.cons tS .nil) := rfl
def T6 : List D := [.tuple [.tuple [.tuple [.int 0, .int 1], .tuple [.int 1, .int 2]], .tuple [.tuple [.int 1, .int 1], .tuple [.int 0, .int 1]]], .tuple [.tuple [.int 1, .int 2], .tuple [.int 3]], .tuple [.tuple [.tuple [.int 1], .tuple [.int 2], .tuple [.int 3]]], .tuple [.int 0, .int 1, .int 1], .tuple [.tuple [], .tuple [.tuple [.int 1]]], .tuple []]
def V4 : List D := [.tuple [], .none, .str ⟨#[]⟩, .int 0]
theorem tmI (m p : Nat) (i : Int) : Tm m p (.int i) := tm_leaf (leaf_int i)
theorem tmT {p : Nat} {xs : List D} (h1 : xs.length ≤ 3) (h2 : ∀ x ∈ xs, Tm 3 p x) : Tm 3 (p + 1) (.tuple xs) := tm_tuple h1 h2
theorem T6_tm : ∀ d ∈ T6, Tm 3 3 d := by
  intro d hd
  unfold T6 at hd
  simp only [List.mem_cons, List.not_mem_nil, or_false] at hd
  have I := tmI
  rcases hd with rfl | rfl | rfl | rfl | rfl | rfl <;>
    repeat' first
      | exact I _ _ _
      | exact tm_nil _ _
      | (refine tmT (by simp) (fun x hx => ?_)
         simp only [List.mem_cons, List.not_mem_nil, or_false] at hx
         rcases hx with rfl | rfl | rfl
         all_goals skip)
      | (refine tmT (by simp) (fun x hx => ?_)
         simp only [List.mem_cons, List.not_mem_nil, or_false] at hx
         rcases hx with rfl | rfl)
      | (refine tmT (by simp) (fun x hx => ?_)
         simp only [List.mem_cons, List.not_mem_nil, or_false] at hx
         subst hx)
theorem V4_tm : ∀ d ∈ V4, Tm 4 5 d := by
  intro d hd
  unfold V4 at hd
  simp only [List.mem_cons, List.not_mem_nil, or_false] at hd
  rcases hd with rfl | rfl | rfl | rfl
  · exact tm_nil _ _
  · exact tm_leaf leaf_none
  · exact tm_leaf (leaf_str (by kernel_rfl))
  · exact tm_leaf (leaf_int _)
theorem rowA (ns : List Int) (hn : ns.length ≤ 63) : ∃ zs, evalSs (callN l.P l.G 60) l.G t1 [.val (.list (iL ns)), .no, .no, .no, .no, .no, .no, .no, .no, .no, .no, .no, .no, .no] = evalSs (callN l.P l.G 60) l.G t4 (sA (.list (iL ns)) zs none none none none) := by
  obtain ⟨z1, a1, a2, a3⟩ := dw_ok 58 ns hn
  obtain ⟨z2, b1, b2⟩ := mo_ok 58 z1 a2 (by omega)
  refine ⟨z2, ?_⟩
  refine (ss_next (g' := [.val (.list (iL ns)), .own .mine (iL z1), .no, .no, .no, .no, .no, .no, .no, .no, .no, .no, .no, .no]) ?_).trans ?_
  · exact set_m (call1o rfl a1) rfl
  refine (ss_next (g' := sA (.list (iL ns)) z2 none none none none) ?_).trans ?_
  · exact set_m (more_e b1 rfl) rfl
  refine ss_next ?_
  exact if_f (g1 := sA (.list (iL ns)) z2 none none none none) (by kernel_rfl)
theorem row5 (sc : D) (zs : List Int) (o2 o6 o7 o8 : Option D) : evalS (callN l.P l.G 60) l.G x5 (sA sc zs o2 o6 o7 o8) = .next (sA sc zs o2 o6 o7 o8) := by
  refine if_f (g1 := sA sc zs o2 o6 o7 o8) ?_
  cases o7 <;> kernel_rfl
theorem row6 (sc : D) (zs : List Int) (o2 o6 o7 o8 : Option D) : evalS (callN l.P l.G 60) l.G x6 (sA sc zs o2 o6 o7 o8) = .next [.val sc, .own .mine (iL zs), oS o2, .val (.list T6), .no, .no, oS o6, oS o7, oS o8, .no, .no, .no, .no, .no] :=
  set_o (g1 := sA sc zs o2 o6 o7 o8) (xs := T6) (by kernel_rfl) rfl
abbrev sC (sc : D) (zs : List Int) (o2 o6 o7 o8 : Option D) (o4 o9 : Option D) : Gam := [.val sc, .own .mine (iL zs), oS o2, .val (.list T6), oS o4, .no, oS o6, oS o7, oS o8, oS o9, .no, .no, .no, .no]
theorem addLg {C : Nat → List Slot → CRes} {G : List D} {g g1 g2 : Gam} {a b : E} {va vb : EV} {xs ys : List D} (h1 : evalE C G a g = .ok va g1) (h2 : evalE C G b g1 = .ok vb g2) (c1 : content va g2 = .ok (.list xs) g2) (c2 : content vb g2 = .ok (.list ys) g2) (hl : xs.length + ys.length ≤ 1000000) : evalE C G (.bin .add a b) g = .ok (.own (xs ++ ys)) g2 := by
  have hl2 : xs.length + ys.length ≤ DK.lim := Nat.le_of_lt (lim_of hl)
  have hb : binD .add (.list xs) (.list ys) = some (.own (xs ++ ys)) := by rw [binD]; rw [if_pos hl2]
  rw [evalE]
  unfold bnd
  rw [h1]; dsimp only
  rw [h2]; dsimp only
  rw [c1]; dsimp only
  rw [c2]; dsimp only
  rw [hb]; rfl
theorem frzg {C : Nat → List Slot → CRes} {G : List D} {g g1 : Gam} {e : E} {R : D} (h : evalE C G e g = .ok (.val R) g1) : bnd (evalE C G e) DK.freeze g = .ok R g1 := by unfold bnd; rw [h]; rfl
theorem sp_elt (sc : D) (zs : List Int) (o2 o6 o7 o8 : Option D) (k R d' : D) (zs' : List Int) (h12 : callN l.P l.G 60 12 [.own .loan (iL zs), .val (.list T6)] = .ret (.val R) [.own .loan (iL (rs zs)), .no]) (h18 : callN l.P l.G 60 18 [.own .loan (iL (rs zs)), .val R] = .ret (.val d') [.own .loan (iL zs'), .no]) : evalE (callN l.P l.G 60) l.G (.call 18 (.cons .m (.var 1) (.cons .r (.call 12 (.cons .m (.var 1) (.cons .r (.var 3) .nil))) .nil))) [.val sc, .own .mine (iL zs), .val k, .val (.list T6), .no, .no, oS o6, oS o7, oS o8, .no, .no, .no, .no, .no] = .ok (.val d') [.val sc, .own .mine (iL zs'), .val k, .val (.list T6), .no, .no, oS o6, oS o7, oS o8, .no, .no, .no, .no, .no] := by
  generalize callN l.P l.G 60 = C at *
  generalize T6 = T at *
  simp [evalSs, evalS, seqF, evalE, evalEs, evalPs, evalAs, contents, content, runE, bnd, opt, pur, bltD, binD, freeze, store, argOf, doCall, slotsOf, Arg.slot, refsOf, noTwice, giveBack, retF, setF, lim, h12, h18]
theorem sp_all (sc : D) (zs : List Int) (o2 o6 o7 o8 : Option D) : ∃ ds zs', evalE (callN l.P l.G 60) l.G cS [.val sc, .own .mine (iL zs), oS o2, .val (.list T6), .no, .no, oS o6, oS o7, oS o8, .no, .no, .no, .no, .no] = .ok (.own ds) [.val sc, .own .mine (iL zs'), oS o2, .val (.list T6), .no, .no, oS o6, oS o7, oS o8, .no, .no, .no, .no, .no] ∧ ds.length = 12 ∧ ∀ d ∈ ds, Tm 4 5 d := by
  obtain ⟨ds, g', k1, ⟨zs', rfl⟩, k3, k4⟩ := compF_rel (own := [2]) (set := assignT (.name 2)) (cs := evalCs (callN l.P l.G 60) l.G .nil) (elt := bnd (evalE (callN l.P l.G 60) l.G (.call 18 (.cons .m (.var 1) (.cons .r (.call 12 (.cons .m (.var 1) (.cons .r (.var 3) .nil))) .nil)))) DK.freeze) nD (fun q => ∃ zs, q = [.val sc, .own .mine (iL zs), .no, .val (.list T6), .no, .no, oS o6, oS o7, oS o8, .no, .no, .no, .no, .no]) (fun _ d => Tm 4 5 d) (List.range 12) [] [.val sc, .own .mine (iL zs), .no, .val (.list T6), .no, .no, oS o6, oS o7, oS o8, .no, .no, .no, .no, .no] ⟨zs, rfl⟩ (by
    intro x hx q hq
    obtain ⟨zs, rfl⟩ := hq
    obtain ⟨R, hR, hC⟩ := pk_in 58 zs T6 (by decide) (by decide)
    obtain ⟨d', zs', h18, hT⟩ := sp_ok 3 53 3 R (rs zs) (T6_tm R hR) (by decide) (by decide)
    exact ⟨[.val sc, .own .mine (iL zs), .val (nD x), .val (.list T6), .no, .no, oS o6, oS o7, oS o8, .no, .no, .no, .no, .no], d', _, rfl, rfl, frzg (sp_elt sc zs o2 o6 o7 o8 (nD x) R d' zs' hC h18), hT, zs', rfl⟩)
  refine ⟨ds, zs', ?_, by rw [k3]; rfl, fun d hd => by obtain ⟨_, _, h⟩ := k4 d hd; exact h⟩
  exact comp_lk (it := .range (.cons (.cst (.int (12))) .nil)) (lk := []) (ks := []) (g1 := [.val sc, .own .mine (iL zs), oS o2, .val (.list T6), .no, .no, oS o6, oS o7, oS o8, .no, .no, .no, .no, .no]) (g2 := [.val sc, .own .mine (iL zs), oS o2, .val (.list T6), .no, .no, oS o6, oS o7, oS o8, .no, .no, .no, .no, .no]) (range_n (i := 12) 12 rfl rfl (by decide)) (by decide) rfl k1 rfl
def kF (a b : D) (s : PySem.Str) : D := if s = sMap then a else b
theorem fm_comp {C : Nat → List Slot → CRes} (sc : D) (zs : List Int) (o2 o6 o7 o8 : Option D) (d : D) (f : Nat) (a b : Bool) (hm : C f [.val (.str sMap), .val d] = .ret (.val (.bool a)) [.no, .no]) (hr : C f [.val (.str sRow), .val d] = .ret (.val (.bool b)) [.no, .no]) : evalE C l.G (.comp (.call f (.cons .r (.var 12) (.cons .r (.var 4) .nil))) (.name 12) (.e (.var 9)) .nil [12]) [.val sc, .own .mine (iL zs), oS o2, .val (.list T6), .val d, .no, oS o6, oS o7, oS o8, .val (.list [.str sMap, .str sRow]), .no, .no, .no, .no] = .ok (.own [.bool a, .bool b]) [.val sc, .own .mine (iL zs), oS o2, .val (.list T6), .val d, .no, oS o6, oS o7, oS o8, .val (.list [.str sMap, .str sRow]), .no, .no, .no, .no] := by
  have h := comp_all (C := C) (G := l.G) (elt := .call f (.cons .r (.var 12) (.cons .r (.var 4) .nil))) (tg := .name 12) (it := .e (.var 9)) (own := [12]) (g := [.val sc, .own .mine (iL zs), oS o2, .val (.list T6), .val d, .no, oS o6, oS o7, oS o8, .val (.list [.str sMap, .str sRow]), .no, .no, .no, .no]) (g0 := [.val sc, .own .mine (iL zs), oS o2, .val (.list T6), .val d, .no, oS o6, oS o7, oS o8, .val (.list [.str sMap, .str sRow]), .no, .no, .no, .no]) [sMap, sRow] PyData.str (fun s => [.val sc, .own .mine (iL zs), oS o2, .val (.list T6), .val d, .no, oS o6, oS o7, oS o8, .val (.list [.str sMap, .str sRow]), .no, .no, .val (.str s), .no]) (kF (.bool a) (.bool b)) rfl (by decide) rfl rfl (by
    intro s hs
    simp only [List.mem_cons, List.not_mem_nil, or_false] at hs
    rcases hs with rfl | rfl
    · exact ⟨rfl, frz_val (call2 rfl rfl hm), rfl⟩
    · exact ⟨rfl, frz_val (call2 rfl rfl hr), rfl⟩)
  exact h
theorem cmp_bb (a b : Bool) : cmpD .ne (.list [.bool a, .bool b]) (.list [.bool a, .bool b]) = some false := by
  cases a <;> cases b <;> kernel_rfl
theorem turn7 (sc : D) (zs : List Int) (o2 o6 o7 o8 : Option D) (d : D) (hd : Tm 4 5 d) (o9 : Option D) : evalSs (callN l.P l.G 60) l.G nB (sC sc zs o2 o6 o7 o8 (some d) o9) = .next (sC sc zs o2 o6 o7 o8 (some d) (some (.list [.str sMap, .str sRow]))) := by
  refine (ss_next (g' := [.val sc, .own .mine (iL zs), oS o2, .val (.list T6), .val d, .no, oS o6, oS o7, oS o8, .val (.list [.str sMap, .str sRow]), .no, .no, .no, .no]) ?_).trans ?_
  · refine set_o (g1 := sC sc zs o2 o6 o7 o8 (some d) o9) (xs := [.str sMap, .str sRow]) rfl ?_
    cases o9 <;> rfl
  have hA := fm_comp sc zs o2 o6 o7 o8 d 4 _ _ (hfm_ok 55 hd (by decide)) (hfr_ok 55 hd (by decide))
  have hB := fm_comp sc zs o2 o6 o7 o8 d 17 _ _ (ldm_ok 57 hd (by decide)) (ldr_ok 58 hd (by decide))
  exact (ss_next (if_f (cmp_e hA hB rfl rfl (cmp_bb _ _)))).trans rfl
theorem for_okg {C : Nat → List Slot → CRes} {G : List D} {t : Tg} {it : I} {b : Ss} {g g1 : Gam} {xs : List D} {w : DK.Flow} (h1 : evalI C G it g = .ok (xs, []) g1) (h2 : forF (assignT t) (evalSs C G b) (unlock [] []) xs g1 = w) : evalS C G (.fors t it b) g = w := by
  unfold evalS runE
  rw [h1]
  exact h2
theorem row7 (sc : D) (zs : List Int) (o2 o6 o7 o8 : Option D) : ∃ zs' o4 o9, evalS (callN l.P l.G 60) l.G x7 [.val sc, .own .mine (iL zs), oS o2, .val (.list T6), .no, .no, oS o6, oS o7, oS o8, .no, .no, .no, .no, .no] = .next (sC sc zs' o2 o6 o7 o8 o4 o9) := by
  obtain ⟨ds, zs', e1, e2, e3⟩ := sp_all sc zs o2 o6 o7 o8
  have h1 := addLg (C := callN l.P l.G 60) (G := l.G) (a := .var 3) (b := cS) (g := [.val sc, .own .mine (iL zs), oS o2, .val (.list T6), .no, .no, oS o6, oS o7, oS o8, .no, .no, .no, .no, .no]) (g1 := [.val sc, .own .mine (iL zs), oS o2, .val (.list T6), .no, .no, oS o6, oS o7, oS o8, .no, .no, .no, .no, .no]) (va := .val (.list T6)) rfl e1 rfl rfl (by rw [e2]; show 6 + 12 ≤ 1000000; omega)
  have h2 := addLg (g2 := [.val sc, .own .mine (iL zs'), oS o2, .val (.list T6), .no, .no, oS o6, oS o7, oS o8, .no, .no, .no, .no, .no]) (b := L4) (vb := .own V4) (ys := V4) h1 (by kernel_rfl) rfl rfl (by rw [List.length_append, e2]; show 6 + 12 + 4 ≤ 1000000; omega)
  have hT : ∀ d ∈ T6 ++ ds ++ V4, Tm 4 5 d := by
    intro d hd
    rcases List.mem_append.1 hd with hd | hd
    · rcases List.mem_append.1 hd with hd | hd
      · exact (T6_tm d hd).mono (by omega) (by omega)
      · exact e3 d hd
    · exact V4_tm d hd
  obtain ⟨g', k1, o4, o9, rfl⟩ := for_rel (set := assignT (.name 4)) (b := evalSs (callN l.P l.G 60) l.G nB) id (fun _ g => ∃ o4 o9, g = sC sc zs' o2 o6 o7 o8 o4 o9) (fun g => ∃ o4 o9, g = sC sc zs' o2 o6 o7 o8 o4 o9) (T6 ++ ds ++ V4).length (T6 ++ ds ++ V4) 0 (sC sc zs' o2 o6 o7 o8 none none) (by omega) ⟨none, none, rfl⟩ (by
    intro k x g hk hx hi
    obtain ⟨o4, o9, rfl⟩ := hi
    exact ⟨sC sc zs' o2 o6 o7 o8 (some x) o9, _, by cases o4 <;> rfl, Or.inl ⟨turn7 sc zs' o2 o6 o7 o8 x (hT x hx) o9, some x, _, rfl⟩⟩) (fun g hg => hg)
  rw [List.map_id] at k1
  exact ⟨zs', o4, o9, for_okg (walk_o h2) k1⟩
abbrev sD (sc : D) (zs : List Int) (o2 o6 o7 o8 : Option D) (o4 o9 o5 : Option D) : Gam := [.val sc, .own .mine (iL zs), oS o2, .val (.list T6), oS o4, oS o5, oS o6, oS o7, oS o8, oS o9, .no, .no, .no, .no]
theorem callx2 {C : Nat → List Slot → CRes} {G : List D} {f c : Nat} {e1 e2 : E} {g : Gam} {d1 d2 : D} (h1 : evalE C G e1 g = .ok (.val d1) g) (h2 : evalE C G e2 g = .ok (.val d2) g) (h : C f [.val d1, .val d2] = .exc c [.no, .no]) (r : Ss) : evalSs C G (.cons (.expr (.call f (.cons .r e1 (.cons .r e2 .nil)))) r) g = .exc c g := by
  simp [evalSs, evalS, seqF, evalE, evalEs, evalPs, evalAs, contents, content, runE, bnd, opt, pur, bltD, binD, freeze, store, argOf, doCall, slotsOf, Arg.slot, refsOf, noTwice, giveBack, retF, setF, lim, h1, h2, h]
theorem try_e {b : Gam → DK.Flow} {i c : Nat} {ks : List PySem.Str} {s k : PySem.Str} {d : Bool} {g g1 g2 : Gam} (hb : b g = .exc c g1) (hk : ks[c]? = some k) (hi : i < g1.length) (hc : cmpD .ne (.str k) (.str s) = some false) (hs : store i .no g1 = some g2) : tryF b i ks (some (s, d)) g = .next g2 := by
  unfold tryF
  rw [hb]; dsimp only
  rw [hk]; dsimp only
  rw [if_pos hi]
  rw [hc]; dsimp only
  rw [hs]
theorem row8 (sc : D) (zs : List Int) (o2 o6 o7 o8 : Option D) (o4 o9 : Option D) : ∃ o5, evalS (callN l.P l.G 60) l.G x8 (sC sc zs o2 o6 o7 o8 o4 o9) = .next (sD sc zs o2 o6 o7 o8 o4 o9 o5) := by
  obtain ⟨g', k1, o5, rfl⟩ := for_rel (set := assignT (.name 5)) (b := evalSs (callN l.P l.G 60) l.G (.cons tS .nil)) PyData.str (fun _ g => ∃ o5, g = sD sc zs o2 o6 o7 o8 o4 o9 o5) (fun g => ∃ o5, g = sD sc zs o2 o6 o7 o8 o4 o9 o5) 3 [(⟨#[]⟩ : PySem.Str), ⟨#[70, 111, 114, 109]⟩, ⟨#[116, 101, 114, 109]⟩] 0 (sD sc zs o2 o6 o7 o8 o4 o9 none) rfl ⟨none, rfl⟩ (by
    intro k x g hk hx hi
    obtain ⟨o5, rfl⟩ := hi
    refine ⟨sD sc zs o2 o6 o7 o8 o4 o9 (some (.str x)), sD sc zs o2 o6 o7 o8 o4 o9 (some (.str x)), by cases o5 <;> rfl, Or.inl ⟨?_, some (.str x), rfl⟩⟩
    have hb := callx2 (C := callN l.P l.G 60) (G := l.G) (f := 4) (c := 4) (e1 := .var 5) (e2 := .tup .nil) (g := sD sc zs o2 o6 o7 o8 o4 o9 (some (.str x))) (d1 := .str x) (d2 := .tuple []) rfl rfl (hf_bad 59 x (.tuple []) hx)
    have ht : evalS (callN l.P l.G 60) l.G tS (sD sc zs o2 o6 o7 o8 o4 o9 (some (.str x))) = .next (sD sc zs o2 o6 o7 o8 o4 o9 (some (.str x))) := by
      unfold tS
      rw [evalS]
      exact try_e (g1 := sD sc zs o2 o6 o7 o8 o4 o9 (some (.str x))) (hb _) rfl (by simp) (by kernel_rfl) rfl
    exact (ss_next ht).trans rfl) (fun g hg => hg)
  exact ⟨o5, for_ok rfl k1⟩
theorem law_ok (ns : List Int) (h : ns.length ≤ 63) : callN l.P l.G 61 19 [.val (.list (ns.map PyData.int))] = .ret (.val (.bool true)) [.no] := by
  obtain ⟨zs, hA⟩ := rowA ns h
  obtain ⟨zs, o2, o6, o7, o8, h4⟩ := row4 (.list (iL ns)) zs
  have h5 := row5 (.list (iL ns)) zs o2 o6 o7 o8
  have h6 := row6 (.list (iL ns)) zs o2 o6 o7 o8
  obtain ⟨zs', o4, o9, h7⟩ := row7 (.list (iL ns)) zs o2 o6 o7 o8
  obtain ⟨o5, h8⟩ := row8 (.list (iL ns)) zs' o2 o6 o7 o8 o4 o9
  have hb : evalSs (callN l.P l.G 60) l.G b19 [.val (.list (iL ns)), .no, .no, .no, .no, .no, .no, .no, .no, .no, .no, .no, .no, .no] = .ret (.val (.bool true)) (sD (.list (iL ns)) zs' o2 o6 o7 o8 o4 o9 o5) :=
    hA.trans ((ss_next h4).trans ((ss_next h5).trans ((ss_next h6).trans ((ss_next h7).trans ((ss_next h8).trans rfl)))))
  exact callN_by (fn := f19.fn) rfl rfl hb rfl
end LK
end
section
set_option maxRecDepth 100000
set_option maxHeartbeats 0
namespace LK
open PySem L2 DK PySem.Spec PyProof.Rows
def nm0 : List PySem.Str := ["MapError", "NotMap", "NotCycle", "NotTable", "NotPaper", "BadNumber", "NoAnswer", "TooLarge", "is_integer", "is_row", "are_pairs", "is_told_map", "FORMS", "has_form", "SMALL", "FIGURES", "words_of", "is_name", "number_in", "_law_number", "_law_draws", "_law_next", "_law_more", "_law_pick", "_law_kind", "_law_line", "_law_number_of", "_law_is_row", "_law_are_pairs", "_law_due"]
def nm1 : List PySem.Str := ["_law_spoilt"]
def nms : List PySem.Str := nm0 ++ nm1
abbrev R : PySem.W.OpenRow := PySem.W.OpenLaw.row PySem.Challenge.rw_kneadedlines_k21_lines_and_forms
def rowW (w : World) (b : Bool) : World := { w with params := { w.params with followText := fun x => if x = "special-get-raises" then b else w.params.followText x } }
theorem rowW_eq (w : World) : w = rowW w (w.params.followText "special-get-raises") := by
  obtain ⟨d, p⟩ := w
  obtain ⟨p1, p2, p3, p4, p5, f, p7⟩ := p
  unfold rowW
  have e : (fun x => if x = "special-get-raises" then f "special-get-raises" else f x) = f := by
    funext x
    by_cases h : x = "special-get-raises"
    · rw [if_pos h, h]
    · rw [if_neg h]
  dsimp only
  rw [e]
theorem run_t (w : World) : HandSHeadRun.RunEq R (PySem.W.view R.prog [35]) (hookX 4 l.fa l.fn l.ex l.ts) (obX 4 l.fa l.fn l.ex l.ts) 4000 nms (rowW w true) := by
  intro os
  kernel_rfl
theorem run_f (w : World) : HandSHeadRun.RunEq R (PySem.W.view R.prog [35]) (hookX 4 l.fa l.fn l.ex l.ts) (obX 4 l.fa l.fn l.ex l.ts) 4000 nms (rowW w false) := by
  intro os
  kernel_rfl
theorem run (w : World) : HandSHeadRun.RunEq R (PySem.W.view R.prog [35]) (hookX 4 l.fa l.fn l.ex l.ts) (obX 4 l.fa l.fn l.ex l.ts) 4000 nms w := by
  rw [rowW_eq w]
  cases w.params.followText "special-get-raises" with
  | true => exact run_t w
  | false => exact run_f w
end LK
end
section
set_option maxRecDepth 100000
set_option maxHeartbeats 0
namespace LK
open PySem L2 DK PySem.Spec PyProof.Rows
theorem fo0 : f0.ok l.T := ⟨by decide +kernel, rfl, rfl, rfl, rfl, rfl, by kernel_rfl⟩
theorem fb0 : f0.binds := fun _ _ _ _ _ _ us hl => match us, hl with | [_], _ => rfl
theorem fo1 : f1.ok l.T := ⟨by decide +kernel, rfl, rfl, rfl, rfl, rfl, by kernel_rfl⟩
theorem fb1 : f1.binds := fun _ _ _ _ _ _ us hl => match us, hl with | [_], _ => rfl
theorem fo2 : f2.ok l.T := ⟨by decide +kernel, rfl, rfl, rfl, rfl, rfl, by kernel_rfl⟩
theorem fb2 : f2.binds := fun _ _ _ _ _ _ us hl => match us, hl with | [_], _ => rfl
theorem fo3 : f3.ok l.T := ⟨by decide +kernel, rfl, rfl, rfl, rfl, rfl, by kernel_rfl⟩
theorem fb3 : f3.binds := fun _ _ _ _ _ _ us hl => match us, hl with | [_], _ => rfl
theorem fo4 : f4.ok l.T := ⟨by decide +kernel, rfl, rfl, rfl, rfl, rfl, by kernel_rfl⟩
theorem fb4 : f4.binds := fun _ _ _ _ _ _ us hl => match us, hl with | [_, _], _ => rfl
theorem fo5 : f5.ok l.T := ⟨by decide +kernel, rfl, rfl, rfl, rfl, rfl, by kernel_rfl⟩
theorem fb5 : f5.binds := fun _ _ _ _ _ _ us hl => match us, hl with | [_], _ => rfl
theorem fo6 : f6.ok l.T := ⟨by decide +kernel, rfl, rfl, rfl, rfl, rfl, by kernel_rfl⟩
theorem fb6 : f6.binds := fun _ _ _ _ _ _ us hl => match us, hl with | [_], _ => rfl
theorem fo7 : f7.ok l.T := ⟨by decide +kernel, rfl, rfl, rfl, rfl, rfl, by kernel_rfl⟩
theorem fb7 : f7.binds := fun _ _ _ _ _ _ us hl => match us, hl with | [_], _ => rfl
theorem fo8 : f8.ok l.T := ⟨by decide +kernel, rfl, rfl, rfl, rfl, rfl, by kernel_rfl⟩
theorem fb8 : f8.binds := fun _ _ _ _ _ _ us hl => match us, hl with | [_], _ => rfl
theorem fo9 : f9.ok l.T := ⟨by decide +kernel, rfl, rfl, rfl, rfl, rfl, by kernel_rfl⟩
theorem fb9 : f9.binds := fun _ _ _ _ _ _ us hl => match us, hl with | [_], _ => rfl
theorem fo10 : f10.ok l.T := ⟨by decide +kernel, rfl, rfl, rfl, rfl, rfl, by kernel_rfl⟩
theorem fb10 : f10.binds := fun _ _ _ _ _ _ us hl => match us, hl with | [_], _ => rfl
theorem fo11 : f11.ok l.T := ⟨by decide +kernel, rfl, rfl, rfl, rfl, rfl, by kernel_rfl⟩
theorem fb11 : f11.binds := fun _ _ _ _ _ _ us hl => match us, hl with | [_, _], _ => rfl
theorem fo12 : f12.ok l.T := ⟨by decide +kernel, rfl, rfl, rfl, rfl, rfl, by kernel_rfl⟩
theorem fb12 : f12.binds := fun _ _ _ _ _ _ us hl => match us, hl with | [_, _], _ => rfl
theorem fo13 : f13.ok l.T := ⟨by decide +kernel, rfl, rfl, rfl, rfl, rfl, by kernel_rfl⟩
theorem fb13 : f13.binds := fun _ _ _ _ _ _ us hl => match us, hl with | [_], _ => rfl
theorem fo14 : f14.ok l.T := ⟨by decide +kernel, rfl, rfl, rfl, rfl, rfl, by kernel_rfl⟩
theorem fb14 : f14.binds := fun _ _ _ _ _ _ us hl => match us, hl with | [_], _ => rfl
theorem fo15 : f15.ok l.T := ⟨by decide +kernel, rfl, rfl, rfl, rfl, rfl, by kernel_rfl⟩
theorem fb15 : f15.binds := fun _ _ _ _ _ _ us hl => match us, hl with | [_], _ => rfl
theorem fo16 : f16.ok l.T := ⟨by decide +kernel, rfl, rfl, rfl, rfl, rfl, by kernel_rfl⟩
theorem fb16 : f16.binds := fun _ _ _ _ _ _ us hl => match us, hl with | [_], _ => rfl
theorem fo17 : f17.ok l.T := ⟨by decide +kernel, rfl, rfl, rfl, rfl, rfl, by kernel_rfl⟩
theorem fb17 : f17.binds := fun _ _ _ _ _ _ us hl => match us, hl with | [_, _], _ => rfl
theorem fo18 : f18.ok l.T := ⟨by decide +kernel, rfl, rfl, rfl, rfl, rfl, by kernel_rfl⟩
theorem fb18 : f18.binds := fun _ _ _ _ _ _ us hl => match us, hl with | [_, _], _ => rfl
theorem fo19 : f19.ok l.T := ⟨by decide +kernel, rfl, rfl, rfl, rfl, rfl, by kernel_rfl⟩
theorem fb19 : f19.binds := fun _ _ _ _ _ _ us hl => match us, hl with | [_], _ => rfl
def kpL : KParts := (kindB (ckK l.kd.scope l.kN) l.kerr l.kd.body).getD ⟨[], [], [], .no, none, .no, .no⟩
theorem kq1 : kindB (ckK l.kd.scope l.kN) l.kerr l.kd.body = some kpL := by kernel_rfl
theorem kq2 : kpL.base = none := by kernel_rfl
theorem kc0 : ∃ x bs1 bs2, l.cls[0]? = some x ∧ kpL.c1.mapM (l.row x) = some bs1 ∧ kpL.c2.mapM (l.row x) = some bs2 ∧ (bs1 ++ bs2).length ≤ lim ∧ tst (evalE (callN [] [] 0) [] kpL.test) (kG kpL.names (bs1 ++ bs2)) = .ok true (kG kpL.names (bs1 ++ bs2)) ∧ evalE (callN [] [] 0) [] kpL.yes (kG kpL.names (bs1 ++ bs2)) = .ok (.val (.str (l.ks.getD 0 ""))) (kG kpL.names (bs1 ++ bs2)) :=
  ⟨"NotMap", [true, false, false, false], [false, false, false], by kernel_rfl, by kernel_rfl, by kernel_rfl, by decide +kernel, by kernel_rfl, by kernel_rfl⟩
theorem kc1 : ∃ x bs1 bs2, l.cls[1]? = some x ∧ kpL.c1.mapM (l.row x) = some bs1 ∧ kpL.c2.mapM (l.row x) = some bs2 ∧ (bs1 ++ bs2).length ≤ lim ∧ tst (evalE (callN [] [] 0) [] kpL.test) (kG kpL.names (bs1 ++ bs2)) = .ok true (kG kpL.names (bs1 ++ bs2)) ∧ evalE (callN [] [] 0) [] kpL.yes (kG kpL.names (bs1 ++ bs2)) = .ok (.val (.str (l.ks.getD 1 ""))) (kG kpL.names (bs1 ++ bs2)) :=
  ⟨"NotCycle", [false, true, false, false], [false, false, false], by kernel_rfl, by kernel_rfl, by kernel_rfl, by decide +kernel, by kernel_rfl, by kernel_rfl⟩
theorem kc2 : ∃ x bs1 bs2, l.cls[2]? = some x ∧ kpL.c1.mapM (l.row x) = some bs1 ∧ kpL.c2.mapM (l.row x) = some bs2 ∧ (bs1 ++ bs2).length ≤ lim ∧ tst (evalE (callN [] [] 0) [] kpL.test) (kG kpL.names (bs1 ++ bs2)) = .ok true (kG kpL.names (bs1 ++ bs2)) ∧ evalE (callN [] [] 0) [] kpL.yes (kG kpL.names (bs1 ++ bs2)) = .ok (.val (.str (l.ks.getD 2 ""))) (kG kpL.names (bs1 ++ bs2)) :=
  ⟨"NotTable", [false, false, true, false], [false, false, false], by kernel_rfl, by kernel_rfl, by kernel_rfl, by decide +kernel, by kernel_rfl, by kernel_rfl⟩
theorem kc3 : ∃ x bs1 bs2, l.cls[3]? = some x ∧ kpL.c1.mapM (l.row x) = some bs1 ∧ kpL.c2.mapM (l.row x) = some bs2 ∧ (bs1 ++ bs2).length ≤ lim ∧ tst (evalE (callN [] [] 0) [] kpL.test) (kG kpL.names (bs1 ++ bs2)) = .ok true (kG kpL.names (bs1 ++ bs2)) ∧ evalE (callN [] [] 0) [] kpL.yes (kG kpL.names (bs1 ++ bs2)) = .ok (.val (.str (l.ks.getD 3 ""))) (kG kpL.names (bs1 ++ bs2)) :=
  ⟨"NotPaper", [false, false, false, true], [false, false, false], by kernel_rfl, by kernel_rfl, by kernel_rfl, by decide +kernel, by kernel_rfl, by kernel_rfl⟩
theorem kc4 : ∃ x bs1 bs2, l.cls[4]? = some x ∧ kpL.c1.mapM (l.row x) = some bs1 ∧ kpL.c2.mapM (l.row x) = some bs2 ∧ (bs1 ++ bs2).length ≤ lim ∧ tst (evalE (callN [] [] 0) [] kpL.test) (kG kpL.names (bs1 ++ bs2)) = .ok true (kG kpL.names (bs1 ++ bs2)) ∧ evalE (callN [] [] 0) [] kpL.yes (kG kpL.names (bs1 ++ bs2)) = .ok (.val (.str (l.ks.getD 4 ""))) (kG kpL.names (bs1 ++ bs2)) :=
  ⟨"BadNumber", [false, false, false, false], [true, false, false], by kernel_rfl, by kernel_rfl, by kernel_rfl, by decide +kernel, by kernel_rfl, by kernel_rfl⟩
theorem kc5 : ∃ x bs1 bs2, l.cls[5]? = some x ∧ kpL.c1.mapM (l.row x) = some bs1 ∧ kpL.c2.mapM (l.row x) = some bs2 ∧ (bs1 ++ bs2).length ≤ lim ∧ tst (evalE (callN [] [] 0) [] kpL.test) (kG kpL.names (bs1 ++ bs2)) = .ok true (kG kpL.names (bs1 ++ bs2)) ∧ evalE (callN [] [] 0) [] kpL.yes (kG kpL.names (bs1 ++ bs2)) = .ok (.val (.str (l.ks.getD 5 ""))) (kG kpL.names (bs1 ++ bs2)) :=
  ⟨"NoAnswer", [false, false, false, false], [false, true, false], by kernel_rfl, by kernel_rfl, by kernel_rfl, by decide +kernel, by kernel_rfl, by kernel_rfl⟩
theorem kc6 : ∃ x bs1 bs2, l.cls[6]? = some x ∧ kpL.c1.mapM (l.row x) = some bs1 ∧ kpL.c2.mapM (l.row x) = some bs2 ∧ (bs1 ++ bs2).length ≤ lim ∧ tst (evalE (callN [] [] 0) [] kpL.test) (kG kpL.names (bs1 ++ bs2)) = .ok true (kG kpL.names (bs1 ++ bs2)) ∧ evalE (callN [] [] 0) [] kpL.yes (kG kpL.names (bs1 ++ bs2)) = .ok (.val (.str (l.ks.getD 6 ""))) (kG kpL.names (bs1 ++ bs2)) :=
  ⟨"TooLarge", [false, false, false, false], [false, false, true], by kernel_rfl, by kernel_rfl, by kernel_rfl, by decide +kernel, by kernel_rfl, by kernel_rfl⟩
theorem fms_ok : ∀ m ∈ l.fms, (m.ok l.T ∧ m.d.at_.2 = none) ∧ m.binds := by
  intro m hm
  simp only [l, List.mem_append, List.mem_cons, List.not_mem_nil, or_false] at hm
  rcases hm with (rfl | rfl | rfl | rfl | rfl | rfl | rfl | rfl | rfl | rfl | rfl | rfl | rfl | rfl | rfl | rfl | rfl | rfl | rfl | rfl)
  · exact ⟨⟨fo0, rfl⟩, fb0⟩
  · exact ⟨⟨fo1, rfl⟩, fb1⟩
  · exact ⟨⟨fo2, rfl⟩, fb2⟩
  · exact ⟨⟨fo3, rfl⟩, fb3⟩
  · exact ⟨⟨fo4, rfl⟩, fb4⟩
  · exact ⟨⟨fo5, rfl⟩, fb5⟩
  · exact ⟨⟨fo6, rfl⟩, fb6⟩
  · exact ⟨⟨fo7, rfl⟩, fb7⟩
  · exact ⟨⟨fo8, rfl⟩, fb8⟩
  · exact ⟨⟨fo9, rfl⟩, fb9⟩
  · exact ⟨⟨fo10, rfl⟩, fb10⟩
  · exact ⟨⟨fo11, rfl⟩, fb11⟩
  · exact ⟨⟨fo12, rfl⟩, fb12⟩
  · exact ⟨⟨fo13, rfl⟩, fb13⟩
  · exact ⟨⟨fo14, rfl⟩, fb14⟩
  · exact ⟨⟨fo15, rfl⟩, fb15⟩
  · exact ⟨⟨fo16, rfl⟩, fb16⟩
  · exact ⟨⟨fo17, rfl⟩, fb17⟩
  · exact ⟨⟨fo18, rfl⟩, fb18⟩
  · exact ⟨⟨fo19, rfl⟩, fb19⟩
theorem ok : l.Ok where
  fms := fun m hm => (fms_ok m hm).1
  binds := fun m hm => (fms_ok m hm).2
  iso := by decide
  kat := rfl
  kdf := rfl
  kbd := fun _ _ _ _ _ _ us hl => match us, hl with | [_], _ => rfl
  ksc := by decide +kernel
  kN3 := rfl
  ksl := by kernel_rfl
  kgi := by kernel_rfl
  kp := ⟨kpL, kq1, by decide +kernel, fun c h => (by rw [kq2] at h; cases h), fun c k h => by
    match c with
    | 0 => cases h; exact kc0
    | 1 => cases h; exact kc1
    | 2 => cases h; exact kc2
    | 3 => cases h; exact kc3
    | 4 => cases h; exact kc4
    | 5 => cases h; exact kc5
    | 6 => cases h; exact kc6
    | c + 7 => cases h⟩
end LK
end
section
set_option maxRecDepth 100000
set_option maxHeartbeats 0
open PySem PySem.W PySem.Calls PyProof.Rows
theorem PySem.Challenge.cw_kneadedlines_k21_lines_and_forms_holds : PySem.Challenge.rw_kneadedlines_k21_lines_and_forms.Holds := by
  w_on; o_law
  refine HandSHeadRun.head_any (r := OpenLaw.row PySem.Challenge.rw_kneadedlines_k21_lines_and_forms) (q := view (OpenLaw.row PySem.Challenge.rw_kneadedlines_k21_lines_and_forms).prog [35]) (H := DK.hookX 4 LK.l.fa LK.l.fn LK.l.ex LK.l.ts) (ob := DK.obX 4 LK.l.fa LK.l.fn LK.l.ex LK.l.ts) (M := 4000) (loose := LK.nms) (d := HandSHeadRun.topDef (OpenLaw.row PySem.Challenge.rw_kneadedlines_k21_lines_and_forms).prog 35) (kwd := []) DK.obX_eq
    (by kernel_rfl) (fun s => by kernel_rfl) LK.run (by kernel_rfl) (by kernel_rfl) (by kernel_rfl) (by rfl) (by first | assumption | decide +kernel) (by decide +kernel) ⟨rfl, rfl, rfl, rfl, rfl, by decide +kernel⟩ ?hw ?hc
  case hw => w_witness2
  case hc => exact DK.LD.walk (r := PySem.Challenge.rw_kneadedlines_k21_lines_and_forms) (n := 63) (k := 60) (f := 19) (x := "script") LK.l LK.ok rfl (by decide) (by kernel_rfl) ⟨rfl, by decide, by decide⟩ (m := LK.f19) rfl rfl (by kernel_rfl) LK.law_ok
end
