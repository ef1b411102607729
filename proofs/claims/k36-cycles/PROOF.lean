import PyProof.Rows.All
import HandS.ForMost
import HandS.Exc
import HandS.TryOnly
import HandS.TryMany
import HandS.ExcOwn
import HandS.WordsExc
import HandS.Style
import HandS.Wide
import HandS.More
import HandS.Conv
import HandS.Zip
import HandS.SortInts
import HandS.IsInst
import HandS.TupAny
import HandS.WideBits
import HandS.ExcIs
import PySem.Challenge.RW_sandreckoner_k36_cycles_of_states
set_option Elab.async false
set_option linter.all false
/-! Rf, part A: a small language over plain data (PyData), its evaluator. -/
namespace Rf
noncomputable section
open PySem

abbrev D := PyData

/-- what a slot of a def holds: nothing, a value, an own list or dict (that may be changed) -/
inductive Slot where
  | un
  | d (x : D)
  | ol (xs : List D)
  | od (kvs : List (D × D))
  | ot (kvs : List (D × D))
  | ob (p : Nat)
abbrev Sl := List Slot

inductive Res (α : Type) where
  | ok (a : α)
  | ex (c : Nat)
  | stuck

def Res.bind {α β : Type} (r : Res α) (f : α → Res β) : Res β := match r with
  | .ok a => f a
  | .ex c => .ex c
  | .stuck => .stuck
@[simp] theorem Res.bind_ok {α β : Type} (a : α) (f : α → Res β) : (Res.ok a).bind f = f a := id rfl
@[simp] theorem Res.bind_ex {α β : Type} (c : Nat) (f : α → Res β) : (Res.ex c : Res α).bind f = .ex c := id rfl
@[simp] theorem Res.bind_stuck {α β : Type} (f : α → Res β) : (Res.stuck : Res α).bind f = .stuck := id rfl
def Res.of {α : Type} : Option α → Res α
  | some a => .ok a
  | none => .stuck
@[simp] theorem Res.of_some {α : Type} (a : α) : Res.of (some a) = .ok a := id rfl
@[simp] theorem Res.of_none {α : Type} : Res.of (none : Option α) = .stuck := id rfl

inductive BOp where
  | add | sub | mul | fdiv | mod | pow | rep | shl | shr
inductive COp where
  | eq | ne | lt | le | gt | ge | isin | notin | is | isnot
inductive Blt where
  | len | int | abs | sum | max | min | all | any | tuple | list | sorted | str | dict | isi (T : Nat)
inductive Mth where
  | get | bits | isalpha | islower | lower | upper | swapcase | join
inductive Tgt where
  | nm (i : Nat)
  | tp (ts : List Tgt)
inductive SrcK where
  | lst | tup | str | rng | zip

inductive Exp where
  | nop
  | var (i : Nat)
  | vw (i : Nat)
  | con (x : D)
  | bin (op : BOp) (a b : Exp)
  | cmp (op : COp) (a b : Exp)
  | chain (o1 o2 : COp) (a b c : Exp)
  | and (a b : Exp)
  | or (a b : Exp)
  | not (a : Exp)
  | neg (a : Exp)
  | ite (c a b : Exp)
  | tup (es : List Exp)
  | lst (es : List Exp)
  | emp
  | idx (a i : Exp)
  | sl (a lo hi : Exp)
  | rev (a : Exp)
  | revs (a : Exp)
  | call (f : Nat) (es : List Exp)
  | callv (f : Nat) (es : List Exp)
  | blt (b : Blt) (es : List Exp)
  | mth (m : Mth) (o : Exp) (es : List Exp)
  | dget (o k d : Exp)
  | tin (i : Nat) (k : Exp)
  | tni (i : Nat) (k : Exp)
  | tget (i : Nat) (k : Exp)
  | slf (i : Nat)
  | onew (f : Nat) (es : List Exp)
  | comp (elt : Exp) (t : Tgt) (k : SrcK) (srcs : List Exp) (ifs : List Exp)

def Exp.isNop : Exp → Bool
  | .nop => true
  | _ => false
/-! ### operations on data -/
def line : Nat := 1000000
abbrev S (l : List Nat) : Str := ⟨l.toArray⟩

def binD : BOp → D → D → Option D
  | .add, .int i, .int j => some (.int (i + j))
  | .add, .str x, .str y => if x.length + y.length ≤ line then some (.str (x ++ y)) else none
  | .add, .list xs, .list ys => if xs.length + ys.length ≤ line then some (.list (xs ++ ys)) else none
  | .add, .tuple (x :: xs), .tuple ys => if (x :: xs).length + ys.length ≤ line then some (.tuple (x :: xs ++ ys)) else none
  | .sub, .int i, .int j => some (.int (i - j))
  | .mul, .int i, .int j => if i.natAbs < 2 ^ 64 ∨ j.natAbs < 2 ^ 64 then some (.int (i * j)) else none
  | .fdiv, .int i, .int j => if 0 < j ∧ j < 1073741824 then some (.int (i / j)) else none
  | .mod, .int i, .int j => if 0 < j then some (.int (i % j)) else none
  | .pow, .int i, .int j => if 0 ≤ j ∧ j ≤ 1000000 ∧ i.natAbs < 2 ^ 64 then some (.int (i ^ j.toNat)) else none
  | .shl, .int i, .int j => if 0 ≤ j ∧ j ≤ 1000000 ∧ i.natAbs < 2 ^ 64 then some (.int (i * 2 ^ j.toNat)) else none
  | .shr, .int i, .int j => if 0 ≤ j then some (.int (i / 2 ^ j.toNat)) else none
  | .rep, .str z, .int j => if z.length = 1 ∧ j ≤ 1000000 ∧ -1000000 ≤ j then some (.str (S (List.replicate j.toNat (z.cps.toList.headD 0)))) else none
  | _, _, _ => none

/-- a op= b of a name -/
def augD (op : BOp) (x y : D) : Option D := match op, x with
  | .rep, _ => none
  | .shl, _ => none
  | .shr, _ => none
  | _, .int _ => binD op x y
  | _, .str _ => binD op x y
  | _, _ => none
/-- may be compared by == -/
def eqOk (x y : D) : Bool := x.canLay0 && y.canLay0 && decide (min x.depth y.depth ≤ 190)
def flatD : D → Bool
  | .none => true
  | .bool _ => true
  | .int _ => true
  | .str _ => true
  | _ => false
/-- a dict's look-up (keys ints and texts) -/
def keyD : D → Option (Sum Int Str)
  | .int i => some (.inl i)
  | .str x => some (.inr x)
  | _ => none
def keysOk : List (D × D) → Bool
  | [] => true
  | (k, _) :: r => (keyD k).isSome && keysOk r
/-- a key that is a tuple of ints and texts -/
def tkey : List D → Option (List (Sum Int Str))
  | [] => some []
  | x :: r => match keyD x, tkey r with
    | some k, some l => some (k :: l)
    | _, _ => none
def tkeyD : D → Option (List (Sum Int Str))
  | .tuple xs => tkey xs
  | _ => none
def lookD (kvs : List (D × D)) (k : D) : Option D := (kvs.find? fun p => PyData.eqv p.1 k).map (·.2)
def putD (kvs : List (D × D)) (k v : D) : List (D × D) :=
  if (lookD kvs k).isSome then kvs.map fun p => if PyData.eqv p.1 k then (p.1, v) else p else kvs ++ [(k, v)]

def inD (x y : D) : Option Bool := match y with
  | .list ys => if flatD x && ys.all flatD then some (ys.any fun y => PyData.eqv y x) else none
  | .tuple ys => if flatD x && ys.all flatD then some (ys.any fun y => PyData.eqv y x) else none
  | .str z => match x with
    | .str w => some (!(Builtin.Str.occurrences z w 0 z.length 1).isEmpty)
    | _ => none
  | .dict kvs => if (keyD x).isSome then some (lookD kvs x).isSome else none
  | _ => none

def cmpD : COp → D → D → Option Bool
  | .eq, x, y => if eqOk x y then some (PyData.eqv x y) else none
  | .ne, x, y => if eqOk x y then some (!PyData.eqv x y) else none
  | .lt, .int i, .int j => some (decide (i < j))
  | .le, .int i, .int j => some (decide (i ≤ j))
  | .gt, .int i, .int j => some (decide (j < i))
  | .ge, .int i, .int j => some (decide (j ≤ i))
  | .isin, x, y => inD x y
  | .notin, x, y => (inD x y).map not
  | .is, .bool a, .bool b => some (decide (a = b))
  | .is, .none, .none => some true
  | .is, .int _, .none => some false
  | .is, .bool _, .none => some false
  | .is, .str _, .none => some false
  | .is, .tuple _, .none => some false
  | .is, .list _, .none => some false
  | .isnot, .none, .none => some false
  | .isnot, .int _, .none => some true
  | .isnot, .bool _, .none => some true
  | .isnot, .str _, .none => some true
  | .isnot, .tuple _, .none => some true
  | .isnot, .list _, .none => some true
  | _, _, _ => none

def idxD : D → D → Option D
  | .list xs, .int i => L2.atI xs i
  | .tuple xs, .int i => L2.atI xs i
  | .str z, .int i => if z.length ≤ line then (L2.atI z.cps.toList i).map fun c => .str (S [c]) else none
  | .dict kvs, k => if (keyD k).isSome then lookD kvs k else none
  | _, _ => none

def cutD {α : Type} (xs : List α) (lo hi : Option Int) : List α := (xs.drop (HT.sIx xs.length 0 lo)).take (HT.sIx xs.length xs.length hi - HT.sIx xs.length 0 lo)
def partD : D → Res (Option Int)
  | .int i => .ok (some i)
  | _ => .stuck
def sliceD (x : D) (lo hi : Option Int) : Option D := match x with
  | .list xs => some (.list (cutD xs lo hi))
  | .tuple xs => some (.tuple (cutD xs lo hi))
  | .str z => if z.length ≤ line then some (.str (S (cutD z.cps.toList lo hi))) else none
  | _ => none
def revD : D → Option D
  | .list xs => some (.list xs.reverse)
  | _ => none
def revsD : D → Option D
  | .str z => if z.length ≤ line then some (.str (S z.cps.toList.reverse)) else none
  | _ => none

def allInts : List D → Option (List Int)
  | [] => some []
  | .int i :: r => (allInts r).map (i :: ·)
  | _ :: _ => none
def allBools : List D → Option (List Bool)
  | [] => some []
  | .bool i :: r => (allBools r).map (i :: ·)
  | _ :: _ => none
def allStrs : List D → Option (List Str)
  | [] => some []
  | .str i :: r => (allStrs r).map (i :: ·)
  | _ :: _ => none
def maxI : List Int → Int
  | [] => 0
  | [x] => x
  | x :: y :: r => max x (maxI (y :: r))
def minI : List Int → Int
  | [] => 0
  | [x] => x
  | x :: y :: r => min x (minI (y :: r))
/-- insertion sort -/
def insI (x : Int) : List Int → List Int
  | [] => [x]
  | y :: r => if x ≤ y then x :: y :: r else y :: insI x r
def sortI : List Int → List Int
  | [] => []
  | x :: r => insI x (sortI r)

def isiD (T : Nat) : D → Option Bool
  | .int _ => some (T == 0)
  | .bool _ => some (T == 0 || T == 1)
  | .str _ => some (T == 2)
  | .tuple _ => some (T == 3)
  | .list _ => some (T == 4)
  | .none => some false
  | _ => none

def bltD : Blt → List D → Option D
  | .len, [.list xs] => some (.int xs.length)
  | .len, [.tuple xs] => some (.int xs.length)
  | .len, [.str z] => if z.length ≤ line then some (.int z.length) else none
  | .len, [.dict kvs] => some (.int kvs.length)
  | .int, [.int i] => some (.int i)
  | .int, [.bool b] => some (.int (if b then 1 else 0))
  | .abs, [.int i] => some (.int (if i < 0 then -i else i))
  | .sum, [.list xs] => (allInts xs).map fun l => .int l.sum
  | .max, [.int i, .int j] => some (.int (if j > i then j else i))
  | .min, [.int i, .int j] => some (.int (if j < i then j else i))
  | .max, [.list xs] => if xs = [] then none else (allInts xs).map fun l => .int (maxI l)
  | .min, [.list xs] => if xs = [] then none else (allInts xs).map fun l => .int (minI l)
  | .all, [.list xs] => (allBools xs).map fun l => .bool (l.all id)
  | .any, [.list xs] => (allBools xs).map fun l => .bool (l.any id)
  | .tuple, [.list xs] => some (.tuple xs)
  | .tuple, [.tuple xs] => some (.tuple xs)
  | .list, [.list xs] => some (.list xs)
  | .list, [.tuple xs] => some (.list xs)
  | .sorted, [.list xs] => (allInts xs).map fun l => .list ((sortI l).map .int)
  | .sorted, [.dict kvs] => if kvs.length < 64 then (allInts (kvs.map (·.1))).map fun l => .list ((sortI l).map .int) else none
  | .dict, [.dict kvs] => some (.dict kvs)
  | .str, [.int i] => if i.natAbs.log2 < 1920 then some (.str (toString i)) else none
  | .isi T, [x] => (isiD T x).map .bool
  | _, _ => none

def strM (m : Mth) (z : Str) : Option D := match m with
  | .isalpha => some (.bool (Txt.isalpha z))
  | .islower => some (.bool (Txt.islower z))
  | .lower => if z.length ≤ line then some (.str (Txt.lower z)) else none
  | .upper => if z.length ≤ line then some (.str (Txt.upper z)) else none
  | .swapcase => if z.length ≤ line then some (.str (Txt.swapcase z)) else none
  | _ => none
def mthD : Mth → D → List D → Option D
  | .get, .dict kvs, [k, x] => if (keyD k).isSome then some ((lookD kvs k).getD x) else none
  | .bits, .int i, [] => some (.int ((Builtin.Int.intBits i : Nat) : Int))
  | .join, .str z, [.list xs] => (allStrs xs).bind fun ys => if (ys.map (·.length)).sum + ys.length * z.length ≤ line then some (.str (Txt.join z ys)) else none
  | m, .str z, [] => strM m z
  | _, _, _ => none

def zipD : List D → List D → List D
  | x :: xs, y :: ys => .tuple [x, y] :: zipD xs ys
  | _, _ => []
def rngD (lo : Int) (n : Nat) : List D := (List.range n).map fun (i : Nat) => .int (lo + (i : Int))
def srcD : SrcK → List D → Option (List D)
  | .lst, [.list xs] => some xs
  | .tup, [.tuple xs] => some xs
  | .str, [.str z] => some (z.cps.toList.map fun c => .str (S [c]))
  | .rng, [.int n] => if -(2 ^ 62) ≤ n ∧ n < 2 ^ 62 then some (rngD 0 n.toNat) else none
  | .rng, [.int a, .int b] => if -(2 ^ 62) ≤ a ∧ a < 2 ^ 62 ∧ -(2 ^ 62) ≤ b ∧ b < 2 ^ 62 then some (rngD a (b - a).toNat) else none
  | .zip, [.list xs, .list ys] => some (zipD xs ys)
  | .zip, [.tuple xs, .tuple ys] => some (zipD xs ys)
  | _, _ => none

mutual
/-- holds no list, no dict -/
def noLst : D → Bool
  | .list _ => false
  | .dict _ => false
  | .tuple xs => noLsts xs
  | .none => true
  | .bool _ => true
  | .int _ => true
  | .str _ => true
def noLsts : List D → Bool
  | [] => true
  | x :: r => noLst x && noLsts r
end

mutual
/-- holds no dict -/
def noDct : D → Bool
  | .dict _ => false
  | .list xs => noDcts xs
  | .tuple xs => noDcts xs
  | .none => true
  | .bool _ => true
  | .int _ => true
  | .str _ => true
def noDcts : List D → Bool
  | [] => true
  | x :: r => noDct x && noDcts r
end
/-- plain slots: no own ones, no dicts -/
def okS (e : Sl) : Bool := e.all fun s => match s with
  | .un => true
  | .ob _ => true
  | .d x => noDct x
  | _ => false

/-! ### binding -/
mutual
def bindT : Tgt → D → Sl → Option Sl
  | .nm i, x, e => if i < e.length then some (e.set i (.d x)) else none
  | .tp ts, x, e => match x with
    | .tuple xs => bindTs ts xs e
    | _ => none
def bindTs : List Tgt → List D → Sl → Option Sl
  | [], [], e => some e
  | t :: ts, x :: xs, e => (bindT t x e).bind fun e' => bindTs ts xs e'
  | _, _, _ => none
end

/-! the places of a target -/
mutual
def Tgt.ix : Tgt → List Nat
  | .nm i => [i]
  | .tp ts => Tgt.ixs ts
def Tgt.ixs : List Tgt → List Nat
  | [] => []
  | t :: r => t.ix ++ Tgt.ixs r
end
def wipeS (e : Sl) : List Nat → Sl
  | [] => e
  | v :: vs => (wipeS e vs).set v .un
def isOwn : Slot → Bool
  | .ol _ => true
  | .od _ => true
  | .ot _ => true
  | _ => false
def freeOf (e : Sl) (vs : List Nat) : Bool := vs.all fun i => match e[i]? with
  | some s => !isOwn s
  | none => false

/-! ### expressions -/
/-- the turns of a comprehension -/
def compL (f : Sl → Res D) (g : Sl → Res Bool) (t : Tgt) : List D → Sl → Res (List D)
  | [], _ => .ok []
  | x :: xs, e => match bindT t x e with
    | none => .stuck
    | some e1 => (g e1).bind fun b =>
      if b then (f e1).bind fun y => (compL f g t xs e).bind fun ys => .ok (y :: ys) else compL f g t xs e
def noEx {α : Type} : Res α → Res α
  | .ok a => .ok a
  | _ => .stuck
abbrev FT := Nat → List D → Res D

open Classical in
/-- a method of a new object: alike at every place -/
def newK (Φ : FT) (f : Nat) (xs : List D) : Res D := if h : ∃ r, noDcts xs = true ∧ noLst r = true ∧ ∀ p : Nat, Φ f (.int (p : Nat) :: xs) = .ok r then .ok h.choose else .stuck
mutual
def ev (Φ : FT) : Exp → Sl → Res D
  | .nop, _ => .ok .none
  | .var i, e => match e[i]? with
    | some (.d x) => .ok x
    | _ => .stuck
  | .vw i, e => match e[i]? with
    | some (.d x) => .ok x
    | some (.ol xs) => .ok (.list xs)
    | some (.od kvs) => .ok (.dict kvs)
    | _ => .stuck
  | .con x, _ => .ok x
  | .bin op a b, e => (ev Φ a e).bind fun x => (ev Φ b e).bind fun y => .of (binD op x y)
  | .cmp op a b, e => (ev Φ a e).bind fun x => (ev Φ b e).bind fun y => .of ((cmpD op x y).map .bool)
  | .chain o1 o2 a b c, e => (ev Φ a e).bind fun x => (ev Φ b e).bind fun y => (Res.of (cmpD o1 x y)).bind fun k =>
      if k then (ev Φ c e).bind fun z => .of ((cmpD o2 y z).map .bool) else .ok (.bool false)
  | .and a b, e => (ev Φ a e).bind fun x => match x with
    | .bool true => ev Φ b e
    | .bool false => .ok (.bool false)
    | _ => .stuck
  | .or a b, e => (ev Φ a e).bind fun x => match x with
    | .bool true => .ok (.bool true)
    | .bool false => ev Φ b e
    | _ => .stuck
  | .not a, e => (ev Φ a e).bind fun x => match x with
    | .bool k => .ok (.bool (!k))
    | _ => .stuck
  | .neg a, e => (ev Φ a e).bind fun x => match x with
    | .int i => .ok (.int (-i))
    | _ => .stuck
  | .ite c a b, e => (ev Φ c e).bind fun x => match x with
    | .bool true => ev Φ a e
    | .bool false => ev Φ b e
    | _ => .stuck
  | .tup es, e => (evs Φ es e).bind fun xs => .ok (.tuple xs)
  | .lst es, e => (evs Φ es e).bind fun xs => .ok (.list xs)
  | .emp, _ => .ok (.dict [])
  | .idx a i, e => (ev Φ a e).bind fun x => (ev Φ i e).bind fun y => .of (idxD x y)
  | .sl a lo hi, e => (ev Φ a e).bind fun x => (if lo.isNop then .ok none else (ev Φ lo e).bind partD).bind fun l => (if hi.isNop then .ok none else (ev Φ hi e).bind partD).bind fun h => .of (sliceD x l h)
  | .rev a, e => (ev Φ a e).bind fun x => .of (revD x)
  | .revs a, e => (ev Φ a e).bind fun x => .of (revsD x)
  | .call f es, e => (evs Φ es e).bind fun xs => Φ f xs
  | .callv f es, e => (evs Φ es e).bind fun xs => (Φ f xs).bind fun y => if noLst y then .ok y else .stuck
  | .blt b es, e => (evs Φ es e).bind fun xs => .of (bltD b xs)
  | .mth m o es, e => (ev Φ o e).bind fun x => (evs Φ es e).bind fun xs => .of (mthD m x xs)
  | .slf i, e => match e[i]? with
    | some (.ob p) => .ok (.int (p : Nat))
    | _ => .stuck
  | .onew f es, e => (evs Φ es e).bind fun xs => newK Φ f xs
  | .tin i k, e => match e[i]? with
    | some (.ot kvs) => (ev Φ k e).bind fun y => if (tkeyD y).isSome then .ok (.bool (lookD kvs y).isSome) else .stuck
    | _ => .stuck
  | .tni i k, e => match e[i]? with
    | some (.ot kvs) => (ev Φ k e).bind fun y => if (tkeyD y).isSome then .ok (.bool (!(lookD kvs y).isSome)) else .stuck
    | _ => .stuck
  | .tget i k, e => match e[i]? with
    | some (.ot kvs) => (ev Φ k e).bind fun y => if (tkeyD y).isSome then .of (lookD kvs y) else .stuck
    | _ => .stuck
  | .dget o k d, e => (ev Φ o e).bind fun x => match x with
    | .dict kvs => (ev Φ k e).bind fun y => (ev Φ d e).bind fun z => .of (mthD .get (.dict kvs) [y, z])
    | _ => .stuck
  | .comp elt t k srcs ifs, e => (evs Φ srcs e).bind fun xs => (Res.of (srcD k xs)).bind fun its =>
      if freeOf e t.ix && decide (its.length ≤ line) then (noEx (compL (fun e' => ev Φ elt e') (fun e' => evt Φ ifs e') t its (wipeS e t.ix))).bind fun ys => .ok (.list ys) else .stuck
def evs (Φ : FT) : List Exp → Sl → Res (List D)
  | [], _ => .ok []
  | a :: r, e => (ev Φ a e).bind fun x => (evs Φ r e).bind fun xs => .ok (x :: xs)
def evt (Φ : FT) : List Exp → Sl → Res Bool
  | [], _ => .ok true
  | a :: r, e => (ev Φ a e).bind fun x => match x with
    | .bool true => evt Φ r e
    | .bool false => .ok false
    | _ => .stuck
end

/-! ### statements -/
inductive Stm where
  | asg (t : Tgt) (e : Exp)
  | par (i j : Nat) (a b : Exp)
  | aug (i : Nat) (op : BOp) (e : Exp)
  | own (i : Nat) (e : Exp)
  | app (i : Nat) (e : Exp)
  | ins (i : Nat) (j e : Exp)
  | pop (i : Nat)
  | popto (t i : Nat)
  | setl (i : Nat) (k e : Exp)
  | setd (i : Nat) (k e : Exp)
  | towe (i : Nat)
  | towp (i : Nat) (k e : Exp)
  | tset (i : Nat) (k e : Exp)
  | give (i : Nat)
  | obj (i : Nat)
  | chk
  | stop
  | expr (e : Exp)
  | ret (e : Exp)
  | retn
  | ifs (c : Exp) (a b : List Stm)
  | for (t : Tgt) (k : SrcK) (srcs : List Exp) (body : List Stm)
  | ford (t : Tgt) (i : Nat) (body : List Stm)
  | whl (c : Exp) (body : List Stm)
  | brk
  | cnt
  | pas
  | rse (c : Nat)
  | tri (i : Nat) (body : List Stm) (ok : List Nat) (r : List (Nat × D))

inductive Out where
  | nx (e : Sl)
  | ret (x : D)
  | bk (e : Sl)
  | ct (e : Sl)
  | ex (c : Nat) (e : Sl)
  | stuck

def Out.ofR {α : Type} (r : Res α) (e : Sl) (f : α → Out) : Out := match r with
  | .ok a => f a
  | .ex c => .ex c e
  | .stuck => .stuck
@[simp] theorem Out.ofR_ok {α : Type} (a : α) (e : Sl) (f : α → Out) : Out.ofR (.ok a) e f = f a := id rfl
@[simp] theorem Out.ofR_ex {α : Type} (c : Nat) (e : Sl) (f : α → Out) : Out.ofR (.ex c : Res α) e f = .ex c e := id rfl
@[simp] theorem Out.ofR_stuck {α : Type} (e : Sl) (f : α → Out) : Out.ofR (.stuck : Res α) e f = .stuck := id rfl
def Out.seq (o : Out) (f : Sl → Out) : Out := match o with
  | .nx e => f e
  | o => o
@[simp] theorem Out.seq_nx (e : Sl) (f : Sl → Out) : (Out.nx e).seq f = f e := id rfl
@[simp] theorem Out.seq_ret (x : D) (f : Sl → Out) : (Out.ret x).seq f = .ret x := id rfl
@[simp] theorem Out.seq_bk (e : Sl) (f : Sl → Out) : (Out.bk e).seq f = .bk e := id rfl
@[simp] theorem Out.seq_ct (e : Sl) (f : Sl → Out) : (Out.ct e).seq f = .ct e := id rfl
@[simp] theorem Out.seq_ex (c : Nat) (e : Sl) (f : Sl → Out) : (Out.ex c e).seq f = .ex c e := id rfl
@[simp] theorem Out.seq_stuck (f : Sl → Out) : Out.stuck.seq f = .stuck := id rfl
/-- what a loop's turn hands on -/
def Out.turn (o : Out) (f : Sl → Out) : Out := match o with
  | .nx e => f e
  | .ct e => f e
  | .bk e => .nx e
  | o => o
@[simp] theorem Out.turn_nx (e : Sl) (f : Sl → Out) : (Out.nx e).turn f = f e := id rfl
@[simp] theorem Out.turn_ret (x : D) (f : Sl → Out) : (Out.ret x).turn f = .ret x := id rfl
@[simp] theorem Out.turn_bk (e : Sl) (f : Sl → Out) : (Out.bk e).turn f = .nx e := id rfl
@[simp] theorem Out.turn_ct (e : Sl) (f : Sl → Out) : (Out.ct e).turn f = f e := id rfl
@[simp] theorem Out.turn_ex (c : Nat) (e : Sl) (f : Sl → Out) : (Out.ex c e).turn f = .ex c e := id rfl
@[simp] theorem Out.turn_stuck (f : Sl → Out) : Out.stuck.turn f = .stuck := id rfl

def forL (b : Sl → Out) (t : Tgt) : List D → Sl → Out
  | [], e => .nx e
  | x :: xs, e => match bindT t x e with
    | none => .stuck
    | some e1 => (b e1).turn fun e2 => forL b t xs e2
def whileF (c : Sl → Res D) (b : Sl → Out) : Nat → Sl → Out
  | 0, _ => .stuck
  | n + 1, e => Out.ofR (c e) e fun x => match x with
    | .bool true => (b e).turn fun e2 => whileF c b n e2
    | .bool false => .nx e
    | _ => .stuck
/-- no exception -/
def Out.calm : Out → Out
  | .ex _ _ => .stuck
  | o => o
@[simp] theorem Out.calm_nx (e : Sl) : (Out.nx e).calm = .nx e := id rfl
@[simp] theorem Out.calm_ret (x : D) : (Out.ret x).calm = .ret x := id rfl
def ownS : D → Option Slot
  | .list xs => some (.ol xs)
  | .dict kvs => if keysOk kvs then some (.od kvs) else none
  | _ => none

mutual
def exec (Φ : FT) (F : Nat) : Stm → Sl → Out
  | .asg t a, e => Out.ofR (ev Φ a e) e fun x => match bindT t x e with
    | some e' => .nx e'
    | none => .stuck
  | .par i j a b, e => Out.ofR (ev Φ a e) e fun x => Out.ofR (ev Φ b e) e fun y => if i < e.length ∧ j < e.length then .nx ((e.set i (.d x)).set j (.d y)) else .stuck
  | .aug i op a, e => match e[i]? with
    | some (.d x) => Out.ofR (ev Φ a e) e fun y => match augD op x y with
      | some z => .nx (e.set i (.d z))
      | none => .stuck
    | _ => .stuck
  | .own i a, e => Out.ofR (ev Φ a e) e fun x => match ownS x with
    | some s => if i < e.length then .nx (e.set i s) else .stuck
    | none => .stuck
  | .app i a, e => match e[i]? with
    | some (.ol xs) => Out.ofR (ev Φ a e) e fun x => if xs.length < line then .nx (e.set i (.ol (xs ++ [x]))) else .stuck
    | _ => .stuck
  | .ins i j a, e => match e[i]? with
    | some (.ol xs) => Out.ofR (ev Φ j e) e fun k => Out.ofR (ev Φ a e) e fun x => match k with
      | .int k => if 0 ≤ k ∧ k < 2 ^ 63 ∧ xs.length < line then .nx (e.set i (.ol (xs.take k.toNat ++ [x] ++ xs.drop k.toNat))) else .stuck
      | _ => .stuck
    | _ => .stuck
  | .pop i, e => match e[i]? with
    | some (.ol xs) => if xs = [] then .stuck else .nx (e.set i (.ol xs.dropLast))
    | _ => .stuck
  | .popto t i, e => match e[i]? with
    | some (.ol xs) => match xs[xs.length - 1]? with
      | some x => if t < e.length ∧ t ≠ i then .nx ((e.set i (.ol xs.dropLast)).set t (.d x)) else .stuck
      | none => .stuck
    | _ => .stuck
  | .setl i k a, e => match e[i]? with
    | some (.ol xs) => Out.ofR (ev Φ a e) e fun x => Out.ofR (ev Φ k e) e fun k => match k with
      | .int k => match L2.ixN xs.length k with
        | some j => .nx (e.set i (.ol (xs.set j x)))
        | none => .stuck
      | _ => .stuck
    | _ => .stuck
  | .setd i k a, e => match e[i]? with
    | some (.od kvs) => Out.ofR (ev Φ a e) e fun x => Out.ofR (ev Φ k e) e fun k => if (keyD k).isSome ∧ kvs.length < line then .nx (e.set i (.od (putD kvs k x))) else .stuck
    | _ => .stuck
  | .towe i, e => if i < e.length then .nx (e.set i (.ot [])) else .stuck
  | .towp i k a, e => Out.ofR (ev Φ k e) e fun y => Out.ofR (ev Φ a e) e fun x => if (tkeyD y).isSome ∧ flatD x ∧ i < e.length then .nx (e.set i (.ot [(y, x)])) else .stuck
  | .tset i k a, e => match e[i]? with
    | some (.ot kvs) => Out.ofR (ev Φ a e) e fun x => Out.ofR (ev Φ k e) e fun k => if (tkeyD k).isSome ∧ kvs.length < line then .nx (e.set i (.ot (putD kvs k x))) else .stuck
    | _ => .stuck
  | .give i, e => match e[i]? with
    | some (.ol xs) => .nx (e.set i (.d (.list xs)))
    | _ => .stuck
  | .obj i, e => match e[i]? with
    | some (.d (.int p)) => if 0 ≤ p then .nx (e.set i (.ob p.toNat)) else .stuck
    | _ => .stuck
  | .chk, e => if okS e then .nx e else .stuck
  | .stop, _ => .stuck
  | .expr a, e => Out.ofR (ev Φ a e) e fun _ => .nx e
  | .ret a, e => Out.ofR (ev Φ a e) e fun x => .ret x
  | .retn, _ => .ret .none
  | .ifs c a b, e => Out.ofR (ev Φ c e) e fun x => match x with
    | .bool true => execs Φ F a e
    | .bool false => execs Φ F b e
    | _ => .stuck
  | .for t k srcs body, e => Out.ofR (evs Φ srcs e) e fun xs => match srcD k xs with
    | some its => forL (fun e' => execs Φ F body e') t its e
    | none => .stuck
  | .ford t i body, e => match e[i]? with
    | some (.d (.dict kvs)) => (forL (fun e' => execs Φ F body e') t (kvs.map (·.1)) e).calm
    | _ => .stuck
  | .whl c body, e => whileF (fun e' => ev Φ c e') (fun e' => execs Φ F body e') F e
  | .brk, e => .bk e
  | .cnt, e => .ct e
  | .pas, e => .nx e
  | .rse c, e => .ex c e
  | .tri i body ok r, e => match execs Φ F body e with
    | .ex c e' => match r.lookup c with
      | some x => if i < e'.length then .ret x else .stuck
      | none => if ok.contains c then .ex c e' else .stuck
    | o => o
def execs (Φ : FT) (F : Nat) : List Stm → Sl → Out
  | [], e => .nx e
  | s :: r, e => (exec Φ F s e).seq fun e' => execs Φ F r e'
end

/-- a def: its parameters' number, its slots, its body -/
structure Fdef where
  np : Nat
  ns : Nat
  body : List Stm
def Fdef.run (f : Fdef) (Φ : FT) (F : Nat) (args : List D) : Res D :=
  if args.length = f.np then
    match execs Φ F f.body (args.map .d ++ List.replicate (f.ns - f.np) .un) with
    | .ret x => .ok x
    | .nx _ => .ok .none
    | .ex c _ => .ex c
    | _ => .stuck
  else .stuck
/-- the program's defs, called n deep -/
def phi (T : List Fdef) (F : Nat) : Nat → FT
  | 0 => fun _ _ => .stuck
  | n + 1 => fun f args => match T[f]? with
    | some fn => fn.run (phi T F n) F args
    | none => .stuck
end
end Rf

set_option Elab.async false
set_option linter.all false
/-! Rf, part B: data in the abstract heap; what a reading is by the evaluator. -/
namespace Rf
noncomputable section
open PySem PySem.Spec PyProof.Rows L2

def keyOf : Key → D
  | .inl i => .int i
  | .inr x => .str x

/-- a list of the written part -/
def KLst (K : PySem.W.Frag) (a : Addr) (xs : List V) : Prop := ∃ (o : Obj) (its : Array Value) (n : Nat), K.lookup a = some o ∧ o.cls = .type "list" ∧ o.dict = none ∧ o.data = .seq its n ∧ its.size ≤ sizeLine ∧ Vals xs its.toList
mutual
/-- the value v is the data d; lists and dicts within are none that av tells of -/
inductive Den (K : PySem.W.Frag) (av : Addr → Prop) (H : Hp) : V → D → Prop
  | none : Den K av H .non .none
  | bool (b : Bool) : Den K av H (.bl b) (.bool b)
  | int (i : Int) : Den K av H (.int i) (.int i)
  | str (x : Str) : Den K av H (.str x) (.str x)
  | list {a : Addr} {xs : List V} {ds : List D} : SqL K H a xs → (¬ av a ∨ KLst K a xs) → Dens K av H xs ds → Den K av H (.ref a) (.list ds)
  | tuple {a : Addr} {xs : List V} {ds : List D} : H a = some (.tup xs) → Dens K av H xs ds → Den K av H (.ref a) (.tuple ds)
  | dict {a : Addr} {ks : List (Key × V)} {ds : List (D × D)} : Rd H a (.dK ks) → ¬ av a → DenKs K av H ks ds → Den K av H (.ref a) (.dict ds)
inductive Dens (K : PySem.W.Frag) (av : Addr → Prop) (H : Hp) : List V → List D → Prop
  | nil : Dens K av H [] []
  | cons {v : V} {d : D} {vs : List V} {ds : List D} : Den K av H v d → Dens K av H vs ds → Dens K av H (v :: vs) (d :: ds)
inductive DenKs (K : PySem.W.Frag) (av : Addr → Prop) (H : Hp) : List (Key × V) → List (D × D) → Prop
  | nil : DenKs K av H [] []
  | cons {k : Key} {v : V} {d : D} {ks : List (Key × V)} {ds : List (D × D)} : Den K av H v d → DenKs K av H ks ds → DenKs K av H ((k, v) :: ks) ((keyOf k, d) :: ds)
end

section
variable {K : PySem.W.Frag} {av av' : Addr → Prop} {H H' : Hp}
theorem same_rd (s : Same H H') {a : Addr} {u : HO} (h : Rd H a u) : Rd H' a u := by
  rcases h with h | ⟨o, h⟩
  · exact .inl (s _ _ h)
  · exact .inr ⟨o, s _ _ h⟩
theorem same_sqT (s : Same H H') {a : Addr} {xs : List V} (h : SqT K H a xs) : SqT K H' a xs := by
  rcases h with h | h
  · exact .inl (same_rd s h)
  · exact .inr h
theorem rd_ne {a : Addr} {u : HO} (h : Rd H a u) : H a ≠ none := by
  rcases h with h | ⟨o, h⟩ <;> (rw [h]; exact fun z => nomatch z)
theorem nav_imp {H : Hp} {b b' : Addr → Prop} {a : Addr} {xs : List V} (h : SqL K H a xs) (n : ¬ b a ∨ KLst K a xs) (g : H a ≠ none → b' a → b a) : ¬ b' a ∨ KLst K a xs := n.elim (fun n => h.elim (fun r => .inl fun z => n (g (rd_ne r) z)) .inr) .inr
mutual
theorem Den.imp (f : ∀ a u, (Rd H a u → Rd H' a u) ∧ (H a = some u → H' a = some u)) (g : ∀ a, H a ≠ none → av' a → av a) : ∀ {v : V} {d : D}, Den K av H v d → Den K av' H' v d
  | _, _, .none => .none
  | _, _, .bool b => .bool b
  | _, _, .int i => .int i
  | _, _, .str x => .str x
  | _, _, .list h n t => .list (h.imp (f _ _).1 id) (nav_imp h n fun r z => g _ r z) (Dens.imp f g t)
  | _, _, .tuple h t => .tuple ((f _ _).2 h) (Dens.imp f g t)
  | _, _, .dict h n t => .dict ((f _ _).1 h) (fun z => n (g _ (rd_ne h) z)) (DenKs.imp f g t)
theorem Dens.imp (f : ∀ a u, (Rd H a u → Rd H' a u) ∧ (H a = some u → H' a = some u)) (g : ∀ a, H a ≠ none → av' a → av a) : ∀ {v : List V} {d : List D}, Dens K av H v d → Dens K av' H' v d
  | _, _, .nil => .nil
  | _, _, .cons a b => .cons (Den.imp f g a) (Dens.imp f g b)
theorem DenKs.imp (f : ∀ a u, (Rd H a u → Rd H' a u) ∧ (H a = some u → H' a = some u)) (g : ∀ a, H a ≠ none → av' a → av a) : ∀ {v : List (Key × V)} {d : List (D × D)}, DenKs K av H v d → DenKs K av' H' v d
  | _, _, .nil => .nil
  | _, _, .cons a b => .cons (Den.imp f g a) (DenKs.imp f g b)
end
theorem Den.same (s : Same H H') {v : V} {d : D} (h : Den K av H v d) : Den K av H' v d := h.imp (fun _ _ => ⟨same_rd s, s _ _⟩) fun _ _ z => z
theorem Dens.same (s : Same H H') {v : List V} {d : List D} (h : Dens K av H v d) : Dens K av H' v d := h.imp (fun _ _ => ⟨same_rd s, s _ _⟩) fun _ _ z => z
theorem DenKs.same (s : Same H H') {v : List (Key × V)} {d : List (D × D)} (h : DenKs K av H v d) : DenKs K av H' v d := h.imp (fun _ _ => ⟨same_rd s, s _ _⟩) fun _ _ z => z
theorem Dens.length : ∀ {v : List V} {d : List D}, Dens K av H v d → v.length = d.length
  | _, _, .nil => rfl
  | _, _, .cons _ b => congrArg (· + 1) b.length
theorem Dens.get : ∀ {v : List V} {d : List D} {i : Nat} {x : V}, Dens K av H v d → v[i]? = some x → ∃ y, d[i]? = some y ∧ Den K av H x y
  | _, _, _, _, .nil, h => by simp at h
  | _, _, 0, _, .cons a _, h => by simp at h; subst h; exact ⟨_, rfl, a⟩
  | _, _, i + 1, x, .cons _ b, h => by
    obtain ⟨y, h1, h2⟩ := b.get (i := i) (x := x) (by simpa using h)
    exact ⟨y, by simpa using h1, h2⟩
theorem Dens.getD : ∀ {v : List V} {d : List D} {i : Nat} {y : D}, Dens K av H v d → d[i]? = some y → ∃ x, v[i]? = some x ∧ Den K av H x y
  | _, _, _, _, .nil, h => by simp at h
  | _, _, 0, _, .cons a _, h => by simp at h; subst h; exact ⟨_, rfl, a⟩
  | _, _, i + 1, x, .cons _ b, h => by
    obtain ⟨y, h1, h2⟩ := b.getD (i := i) (y := x) (by simpa using h)
    exact ⟨y, by simpa using h1, h2⟩
theorem Dens.append : ∀ {v w : List V} {d e : List D}, Dens K av H v d → Dens K av H w e → Dens K av H (v ++ w) (d ++ e)
  | _, _, _, _, .nil, h => h
  | _, _, _, _, .cons a b, h => .cons a (b.append h)
theorem Dens.take : ∀ {v : List V} {d : List D} (n : Nat), Dens K av H v d → Dens K av H (v.take n) (d.take n)
  | _, _, 0, _ => .nil
  | _, _, _ + 1, .nil => .nil
  | _, _, n + 1, .cons a b => .cons a (b.take n)
theorem Dens.drop : ∀ {v : List V} {d : List D} (n : Nat), Dens K av H v d → Dens K av H (v.drop n) (d.drop n)
  | _, _, 0, h => h
  | _, _, _ + 1, .nil => .nil
  | _, _, n + 1, .cons _ b => b.drop n
theorem Dens.reverse {v : List V} {d : List D} (h : Dens K av H v d) : Dens K av H v.reverse d.reverse := by
  induction d generalizing v with
  | nil => cases h; exact .nil
  | cons x d ih =>
    cases h with
    | cons a b =>
      rw [List.reverse_cons, List.reverse_cons]
      exact (ih b).append (.cons a .nil)
theorem Dens.set : ∀ {v : List V} {d : List D} (i : Nat) {x : V} {y : D}, Dens K av H v d → Den K av H x y → Dens K av H (v.set i x) (d.set i y)
  | _, _, _, _, _, .nil, _ => .nil
  | _, _, 0, _, _, .cons _ b, h => .cons h b
  | _, _, i + 1, _, _, .cons a b, h => .cons a (b.set i h)
theorem Dens.dropLast {v : List V} {d : List D} (h : Dens K av H v d) : Dens K av H v.dropLast d.dropLast := by
  rw [List.dropLast_eq_take, List.dropLast_eq_take, h.length]
  exact h.take _
theorem DenKs.length : ∀ {v : List (Key × V)} {d : List (D × D)}, DenKs K av H v d → v.length = d.length
  | _, _, .nil => rfl
  | _, _, .cons _ b => congrArg (· + 1) b.length

/-- the top avoids a0, what is within avoids a1 -/
def Den2 (K : PySem.W.Frag) (a0 a1 : Addr → Prop) (H : Hp) (v : V) : D → Prop
  | .list ds => ∃ a xs, v = .ref a ∧ SqL K H a xs ∧ (¬ a0 a ∨ KLst K a xs) ∧ Dens K a1 H xs ds
  | .dict ds => ∃ a ks, v = .ref a ∧ Rd H a (.dK ks) ∧ ¬ a0 a ∧ DenKs K a1 H ks ds
  | d => Den K a1 H v d
theorem Den.two {v : V} {d : D} (h : Den K av H v d) : Den2 K av av H v d := by
  cases h with
  | list h n t => exact ⟨_, _, rfl, h, n, t⟩
  | dict h n t => exact ⟨_, _, rfl, h, n, t⟩
  | none => exact .none
  | bool b => exact .bool b
  | int i => exact .int i
  | str x => exact .str x
  | tuple h t => exact .tuple h t
theorem Den2.one {v : V} {d : D} (h : Den2 K av av H v d) : Den K av H v d := by
  cases d with
  | list ds => obtain ⟨a, xs, rfl, h, n, t⟩ := h; exact .list h n t
  | dict ds => obtain ⟨a, xs, rfl, h, n, t⟩ := h; exact .dict h n t
  | _ => exact h
theorem Den2.same {a0 a1 : Addr → Prop} (s : Same H H') {v : V} {d : D} (h : Den2 K a0 a1 H v d) : Den2 K a0 a1 H' v d := by
  cases d with
  | list ds => obtain ⟨a, xs, rfl, h, n, t⟩ := h; exact ⟨a, xs, rfl, h.imp (same_rd s) id, n, t.same s⟩
  | dict ds => obtain ⟨a, xs, rfl, h, n, t⟩ := h; exact ⟨a, xs, rfl, same_rd s h, n, t.same s⟩
  | none => exact Den.same s h
  | bool _ => exact Den.same s h
  | int _ => exact Den.same s h
  | str _ => exact Den.same s h
  | tuple _ => exact Den.same s h
theorem Den2.mono {a0 a1 b0 b1 : Addr → Prop} (h0 : ∀ a, b0 a → a0 a) (h1 : ∀ a, b1 a → a1 a) {v : V} {d : D} (h : Den2 K a0 a1 H v d) : Den2 K b0 b1 H v d := by
  have f : ∀ a u, (Rd H a u → Rd H a u) ∧ (H a = some u → H a = some u) := fun _ _ => ⟨id, id⟩
  cases d with
  | list ds => obtain ⟨a, xs, rfl, h, n, t⟩ := h; exact ⟨a, xs, rfl, h, n.imp (fun n z => n (h0 _ z)) id, t.imp f fun a _ => h1 a⟩
  | dict ds => obtain ⟨a, xs, rfl, h, n, t⟩ := h; exact ⟨a, xs, rfl, h, fun z => n (h0 _ z), t.imp f fun a _ => h1 a⟩
  | none => exact Den.imp f (fun a _ => h1 a) h
  | bool _ => exact Den.imp f (fun a _ => h1 a) h
  | int _ => exact Den.imp f (fun a _ => h1 a) h
  | str _ => exact Den.imp f (fun a _ => h1 a) h
  | tuple _ => exact Den.imp f (fun a _ => h1 a) h
mutual
theorem Den.noLst {H : Hp} : ∀ {d : D} {v : V}, Den K av H v d → noLst d = true → Den K av' H v d
  | _, _, .none, _ => .none
  | _, _, .bool b, _ => .bool b
  | _, _, .int i, _ => .int i
  | _, _, .str x, _ => .str x
  | _, _, .list _ _ _, h => by simp [Rf.noLst] at h
  | _, _, .dict _ _ _, h => by simp [Rf.noLst] at h
  | _, _, .tuple h t, n => .tuple h (Dens.noLst t (by simpa [Rf.noLst] using n))
theorem Dens.noLst {H : Hp} : ∀ {d : List D} {v : List V}, Dens K av H v d → noLsts d = true → Dens K av' H v d
  | _, _, .nil, _ => .nil
  | _, _, .cons a b, h => by
    simp only [noLsts, Bool.and_eq_true] at h
    exact .cons (Den.noLst a h.1) (Dens.noLst b h.2)
end
mutual
theorem Den.dp : ∀ {d : D} {v : V}, Den K av H v d → d.canLay0 = true → Dp K H v d
  | _, _, .none, _ => .non
  | _, _, .bool b, _ => .bl b
  | _, _, .int i, _ => .int i
  | _, _, .str x, _ => .str x
  | _, _, .list h _ t, c => .lst h (Dens.dp t (by simpa [PyData.canLay0] using c))
  | _, _, .tuple h t, c => .tup (.inl (.inl h)) (Dens.dp t (by simpa [PyData.canLay0] using c))
  | _, _, .dict _ _ _, c => by simp [PyData.canLay0] at c
theorem Dens.dp : ∀ {d : List D} {v : List V}, Dens K av H v d → PyData.canLayAll0 d = true → DpAll K H v d
  | _, _, .nil, _ => .nil
  | _, _, .cons a b, h => by
    simp only [PyData.canLayAll0, Bool.and_eq_true] at h
    exact .cons (Den.dp a h.1) (Dens.dp b h.2)
end
end

/-- a dict whose keys are tuples -/
inductive DenTs (K : PySem.W.Frag) (av : Addr → Prop) (H : Hp) : List (List Key × V) → List (D × D) → Prop
  | nil : DenTs K av H [] []
  | cons {k : List Key} {v : V} {d : D} {ks : List (List Key × V)} {ds : List (D × D)} : Den K av H v d → DenTs K av H ks ds → DenTs K av H ((k, v) :: ks) ((.tuple (k.map keyOf), d) :: ds)
theorem DenTs.mp {K : PySem.W.Frag} {av av' : Addr → Prop} {H H' : Hp} (f : ∀ v d, Den K av H v d → Den K av' H' v d) : ∀ {v : List (List Key × V)} {d : List (D × D)}, DenTs K av H v d → DenTs K av' H' v d
  | _, _, .nil => .nil
  | _, _, .cons a b => .cons (f _ _ a) (DenTs.mp f b)
theorem DenTs.same {K : PySem.W.Frag} {av : Addr → Prop} {H H' : Hp} (s : Same H H') {v : List (List Key × V)} {d : List (D × D)} (h : DenTs K av H v d) : DenTs K av H' v d := h.mp fun _ _ q => q.same s
theorem DenTs.length {K : PySem.W.Frag} {av : Addr → Prop} {H : Hp} : ∀ {v : List (List Key × V)} {d : List (D × D)}, DenTs K av H v d → v.length = d.length
  | _, _, .nil => rfl
  | _, _, .cons _ b => congrArg (· + 1) b.length
/-! ### slots -/
def SlotOk (K : PySem.W.Frag) (av : Addr → Prop) (H : Hp) : Slot → Option V → Prop
  | .un, _ => True
  | .d x, o => ∃ v, o = some v ∧ Den K av H v x
  | .ol xs, o => ∃ (a : Addr) (ys : List V), o = some (V.ref a) ∧ H a = some (.lst ys) ∧ Dens K av H ys xs
  | .od kvs, o => ∃ (a : Addr) (ks : List (Key × V)), o = some (V.ref a) ∧ H a = some (.dK ks) ∧ DenKs K av H ks kvs
  | .ot kvs, o => ∃ (a : Addr) (ks : List (List Key × V)), o = some (V.ref a) ∧ H a = some (.dT ks) ∧ DenTs K av H ks kvs
  | .ob p, o => o = some (V.ref p)
/-- the address a is an own list or dict of a slot -/
def Owns (e : Sl) (σ : L2.St) (a : Addr) : Prop := ∃ (i : Nat) (s : Slot), e[i]? = some s ∧ isOwn s = true ∧ σ[i]? = some (some (V.ref a))
/-- what a body's proof carries: the written part, the heap at the entry, what results may not be, the wish about exceptions, the classes of exceptions -/
structure Pk where
  K : PySem.W.Frag
  H0 : Hp
  Av : Addr → Prop
  avok : ∀ a, Av a → H0 a ≠ none
  W : WX
  ca : Nat → Addr
def avo (P : Pk) (e : Sl) (σ : L2.St) : Addr → Prop := fun a => P.Av a ∨ Owns e σ a
structure Rel (P : Pk) (e : Sl) (σ : L2.St) (H : Hp) : Prop where
  len : σ.length = e.length
  slot : ∀ (i : Nat) (s : Slot) (o : Option V), e[i]? = some s → σ[i]? = some o → SlotOk P.K (avo P e σ) H s o
  inj : ∀ (i j : Nat) (s t : Slot) (a : Addr), e[i]? = some s → isOwn s = true → e[j]? = some t → isOwn t = true → σ[i]? = some (some (V.ref a)) → σ[j]? = some (some (V.ref a)) → i = j
  fr : Same P.H0 H
  new : ∀ a, Owns e σ a → P.H0 a = none
section
variable {P : Pk} {e : Sl} {σ : L2.St} {H H' : Hp}
theorem SlotOk.same {K : PySem.W.Frag} {av : Addr → Prop} (s : Same H H') : ∀ {x : Slot} {o : Option V}, SlotOk K av H x o → SlotOk K av H' x o
  | .un, _, _ => trivial
  | .d _, _, ⟨v, h, d⟩ => ⟨v, h, d.same s⟩
  | .ol _, _, ⟨a, ys, h, q, d⟩ => ⟨a, ys, h, s _ _ q, d.same s⟩
  | .od _, _, ⟨a, ys, h, q, d⟩ => ⟨a, ys, h, s _ _ q, d.same s⟩
  | .ot _, _, ⟨a, ys, h, q, d⟩ => ⟨a, ys, h, s _ _ q, d.same s⟩
  | .ob _, _, h => h
theorem Rel.same (r : Rel P e σ H) (s : Same H H') : Rel P e σ H' := ⟨r.len, fun i x o h1 h2 => (r.slot i x o h1 h2).same s, r.inj, r.fr.trans s, r.new⟩
theorem Rel.at (r : Rel P e σ H) {i : Nat} {s : Slot} (h : e[i]? = some s) : ∃ o, σ[i]? = some o ∧ SlotOk P.K (avo P e σ) H s o := by
  have hl : i < σ.length := by rw [r.len]; exact (List.getElem?_eq_some_iff.mp h).1
  exact ⟨σ[i], List.getElem?_eq_getElem hl, r.slot i s _ h (List.getElem?_eq_getElem hl)⟩
theorem Rel.own_ne (r : Rel P e σ H) {a : Addr} (h : Owns e σ a) : H a ≠ none := by
  obtain ⟨i, s, h1, h2, h3⟩ := h
  have q := r.slot i s _ h1 h3
  cases s with
  | un => cases h2
  | ob _ => cases h2
  | d _ => cases h2
  | ol xs => obtain ⟨b, ys, e1, e2, _⟩ := q; cases e1; rw [e2]; exact fun z => nomatch z
  | od xs => obtain ⟨b, ys, e1, e2, _⟩ := q; cases e1; rw [e2]; exact fun z => nomatch z
  | ot xs => obtain ⟨b, ys, e1, e2, _⟩ := q; cases e1; rw [e2]; exact fun z => nomatch z
theorem Rel.av_ne (r : Rel P e σ H) {a : Addr} (h : avo P e σ a) : H a ≠ none := by
  rcases h with h | h
  · intro z
    cases q : P.H0 a with
    | none => exact P.avok a h q
    | some o => rw [r.fr _ _ q] at z; cases z
  · exact r.own_ne h
theorem Rel.own_av (r : Rel P e σ H) {a : Addr} (h : Owns e σ a) : ¬ P.Av a := fun z => P.avok a z (r.new a h)
end

/-! ### readings -/
/-- the modes: 0 nothing but what results may not be is avoided, 1 the top may be an own list, 2 strong -/
def av0 (P : Pk) (e : Sl) (σ : L2.St) : Nat → Addr → Prop
  | 0 => P.Av
  | 1 => P.Av
  | _ => avo P e σ
def av1 (P : Pk) (e : Sl) (σ : L2.St) : Nat → Addr → Prop
  | 0 => P.Av
  | _ => avo P e σ
def DenM (P : Pk) (e : Sl) (σ : L2.St) (m : Nat) (H : Hp) (v : V) (d : D) : Prop := Den2 P.K (av0 P e σ m) (av1 P e σ m) H v d
def DenMs (P : Pk) (e : Sl) (σ : L2.St) (m : Nat) (H : Hp) : List V → List D → Prop
  | [], [] => True
  | v :: vs, d :: ds => DenM P e σ m H v d ∧ DenMs P e σ m H vs ds
  | _, _ => False
section
variable {P : Pk} {e : Sl} {σ : L2.St} {H H' : Hp} {v : V} {d : D} {m : Nat}
theorem DenM.same (s : Same H H') (h : DenM P e σ m H v d) : DenM P e σ m H' v d := Den2.same s h
theorem DenMs.same (s : Same H H') : ∀ {vs : List V} {ds : List D}, DenMs P e σ m H vs ds → DenMs P e σ m H' vs ds
  | [], [], _ => trivial
  | _ :: _, _ :: _, h => ⟨h.1.same s, DenMs.same s h.2⟩
  | [], _ :: _, h => h.elim
  | _ :: _, [], h => h.elim
theorem Den.m2 (h : Den P.K (avo P e σ) H v d) : DenM P e σ 2 H v d := h.two
theorem DenM.d2 (h : DenM P e σ 2 H v d) : Den P.K (avo P e σ) H v d := Den2.one h
theorem DenM.weak (h : DenM P e σ m H v d) : Den P.K P.Av H v d := by
  refine Den2.one (Den2.mono (fun a z => ?_) (fun a z => ?_) h)
  · match m with
    | 0 => exact z
    | 1 => exact z
    | _ + 2 => exact .inl z
  · match m with
    | 0 => exact z
    | _ + 1 => exact .inl z
theorem Den.mm (h : Den P.K (avo P e σ) H v d) : DenM P e σ m H v d := by
  refine Den2.mono (fun a z => ?_) (fun a z => ?_) h.two
  · match m with
    | 0 => exact .inl z
    | 1 => exact .inl z
    | _ + 2 => exact z
  · match m with
    | 0 => exact .inl z
    | _ + 1 => exact z
theorem DenM.flat (h : DenM P e σ m H v d) (f : noLst d = true) : Den P.K (avo P e σ) H v d := h.weak.noLst f
theorem DenMs.weak : ∀ {vs : List V} {ds : List D}, DenMs P e σ m H vs ds → Dens P.K P.Av H vs ds
  | [], [], _ => .nil
  | _ :: _, _ :: _, h => .cons h.1.weak (DenMs.weak h.2)
  | [], _ :: _, h => h.elim
  | _ :: _, [], h => h.elim
theorem DenMs.d2 : ∀ {vs : List V} {ds : List D}, DenMs P e σ 2 H vs ds → Dens P.K (avo P e σ) H vs ds
  | [], [], _ => .nil
  | _ :: _, _ :: _, h => .cons h.1.d2 (DenMs.d2 h.2)
  | [], _ :: _, h => h.elim
  | _ :: _, [], h => h.elim
end

/-- what is asked behind an evaluation -/
def Post (P : Pk) (e : Sl) (σ : L2.St) (m : Nat) (H : Hp) (Q : VK) : Res D → Prop
  | .ok d => ∀ v H', Same H H' → DenM P e σ m H' v d → Q v H'
  | .ex c => ∀ H', Same H H' → P.W (.ref (P.ca c)) none σ H'
  | .stuck => False
def PostT (P : Pk) (σ : L2.St) (H : Hp) (Q : Bool → Hp → Prop) : Res D → Prop
  | .ok (.bool b) => ∀ H', Same H H' → Q b H'
  | .ok _ => False
  | .ex c => ∀ H', Same H H' → P.W (.ref (P.ca c)) none σ H'
  | .stuck => False
def Posts (P : Pk) (e : Sl) (σ : L2.St) (m : Nat) (H : Hp) (Q : List V → Hp → Prop) : Res (List D) → Prop
  | .ok ds => ∀ vs H', Same H H' → DenMs P e σ m H' vs ds → Q vs H'
  | .ex c => ∀ H', Same H H' → P.W (.ref (P.ca c)) none σ H'
  | .stuck => False
def PostL (P : Pk) (e : Sl) (σ : L2.St) (H : Hp) (Q : VK) : Res D → Prop
  | .ok (.list ds) => ∀ p H' xs, Same H H' → H p = none → H' p = some (.lst xs) → Dens P.K (fun a => avo P e σ a ∨ a = p) H' xs ds → Q (.ref p) H'
  | .ok (.dict ds) => ∀ p H' ks, Same H H' → H p = none → H' p = some (.dK ks) → DenKs P.K (fun a => avo P e σ a ∨ a = p) H' ks ds → Q (.ref p) H'
  | .ok _ => False
  | .ex c => ∀ H', Same H H' → P.W (.ref (P.ca c)) none σ H'
  | .stuck => False
def lift (P : Pk) (m : Nat) (f : Sl → Res D) : L2.TE := fun σ H Q => ∃ e, Rel P e σ H ∧ Post P e σ m H Q (f e)
def liftT (P : Pk) (f : Sl → Res D) : L2.TT := fun σ H Q => ∃ e, Rel P e σ H ∧ PostT P σ H Q (f e)
def lifts (P : Pk) (m : Nat) (f : Sl → Res (List D)) : L2.TA := fun σ H Q => ∃ e, Rel P e σ H ∧ Posts P e σ m H Q (f e)
/-- a new list or dict -/
def liftL (P : Pk) (f : Sl → Res D) : L2.TE := fun σ H Q => ∃ e, Rel P e σ H ∧ PostL P e σ H Q (f e)

theorem PE.imp {X : Cx} {ex : Expr} {t t' : L2.TE} (h : PE X ex t) (i : ∀ σ H Q, t' σ H Q → t σ H Q) : PE X ex t' := ⟨fun pins s σ H Q I q => h.run pins s σ H Q I (i _ _ _ q)⟩
theorem PT.imp {X : Cx} {ex : Expr} {t t' : L2.TT} (h : PT X ex t) (i : ∀ σ H Q, t' σ H Q → t σ H Q) : PT X ex t' := ⟨fun pins s σ H Q I q => h.run pins s σ H Q I (i _ _ _ q)⟩
theorem PW.imp {X : Cx} {ex : Expr} {t t' : L2.TT} (h : PW X ex t) (i : ∀ σ H Q, t' σ H Q → t σ H Q) : PW X ex t' := ⟨fun wh pins s σ H Q I q => h.run wh pins s σ H Q I (i _ _ _ q)⟩
theorem PA.imp {X : Cx} {ex : List Expr} {t t' : L2.TA} (h : PA X ex t) (i : ∀ σ H Q, t' σ H Q → t σ H Q) : PA X ex t' := ⟨fun pos pins s σ H Q I q => h.run pos pins s σ H Q I (i _ _ _ q)⟩
theorem PS.imp {X : Cx} {st : Stmt} {t t' : L2.TS} (h : PS X st t) (i : ∀ D σ H, t' D σ H → t D σ H) : PS X st t' := ⟨fun pins s σ H D I q => h.run pins s σ H D I (i _ _ _ q)⟩
theorem PSs.imp {X : Cx} {st : List Stmt} {t t' : L2.TS} (h : PSs X st t) (i : ∀ D σ H, t' D σ H → t D σ H) : PSs X st t' := ⟨fun pins s σ H D I q => h.run pins s σ H D I (i _ _ _ q)⟩

section
variable {P : Pk} {e : Sl} {σ : L2.St} {H H' : Hp} {m n k : Nat} {Q : VK}
theorem Post.back (s : Same H H') : ∀ {r : Res D}, Post P e σ m H Q r → Post P e σ m H' Q r
  | .ok _, h => fun v H2 s2 d => h v H2 (s.trans s2) d
  | .ex _, h => fun H2 s2 => h H2 (s.trans s2)
  | .stuck, h => h
theorem Post.weaken {Q' : VK} : ∀ {r : Res D}, Post P e σ m H Q r → (∀ v H', Q v H' → Q' v H') → Post P e σ m H Q' r
  | .ok _, h, f => fun v H2 s2 d => f _ _ (h v H2 s2 d)
  | .ex _, h, _ => h
  | .stuck, h, _ => h
theorem Posts.weaken {Q Q' : List V → Hp → Prop} : ∀ {r : Res (List D)}, Posts P e σ m H Q r → (∀ v H', Q v H' → Q' v H') → Posts P e σ m H Q' r
  | .ok _, h, f => fun v H2 s2 d => f _ _ (h v H2 s2 d)
  | .ex _, h, _ => h
  | .stuck, h, _ => h
theorem Post.bind {F : D → Res D} : ∀ {r : Res D}, Post P e σ k H Q (r.bind F) → Post P e σ m H (fun v H1 => ∃ x, Same H H1 ∧ DenM P e σ m H1 v x ∧ Post P e σ k H1 Q (F x)) r
  | .ok x, h => fun v H1 s1 d1 => ⟨x, s1, d1, Post.back s1 h⟩
  | .ex _, h => h
  | .stuck, h => h
theorem Post.binds {F : List D → Res D} : ∀ {r : Res (List D)}, Post P e σ k H Q (r.bind F) → Posts P e σ m H (fun vs H1 => ∃ xs, Same H H1 ∧ DenMs P e σ m H1 vs xs ∧ Post P e σ k H1 Q (F xs)) r
  | .ok x, h => fun v H1 s1 d1 => ⟨x, s1, d1, Post.back s1 h⟩
  | .ex _, h => h
  | .stuck, h => h
theorem Post.ok {d : D} {v : V} (h : Post P e σ m H Q (.ok d)) (hd : DenM P e σ m H v d) : Q v H := h v H (Same.refl H) hd
theorem Post.ok' {d : D} {v : V} (h : Post P e σ m H Q (.ok d)) (s : Same H H') (hd : DenM P e σ m H' v d) : Q v H' := h v H' s hd
theorem Post.some {o : Option D} (h : Post P e σ m H Q (Res.of o)) : ∃ d, o = some d ∧ Post P e σ m H Q (.ok d) := by
  cases o with
  | none => exact h.elim
  | some d => exact ⟨d, rfl, h⟩
/-- a mode's weakening -/
theorem Post.mode (hm : ∀ H v d, DenM P e σ n H v d → DenM P e σ m H v d) : ∀ {r : Res D}, Post P e σ m H Q r → Post P e σ n H Q r
  | .ok _, h => fun v H2 s2 d => h v H2 s2 (hm _ _ _ d)
  | .ex _, h => h
  | .stuck, h => h
theorem lift_bind {f : Sl → Res D} {F : Sl → D → Res D} (h : lift P k (fun e => (f e).bind (F e)) σ H Q) :
    lift P m f σ H fun v H1 => ∃ e x, Rel P e σ H1 ∧ DenM P e σ m H1 v x ∧ Post P e σ k H1 Q (F e x) := by
  obtain ⟨e, R, h⟩ := h
  refine ⟨e, R, ?_⟩
  have q := Post.bind (m := m) (r := f e) h
  cases q2 : f e with
  | ok x =>
    rw [q2] at q
    intro v H1 s1 d1
    obtain ⟨y, s, d, p⟩ := q v H1 s1 d1
    exact ⟨e, y, R.same s, d, p⟩
  | ex c => rw [q2] at q; exact q
  | stuck => rw [q2] at q; exact q
theorem lift_binds {f : Sl → Res (List D)} {F : Sl → List D → Res D} (h : lift P k (fun e => (f e).bind (F e)) σ H Q) :
    lifts P m f σ H fun vs H1 => ∃ e xs, Rel P e σ H1 ∧ DenMs P e σ m H1 vs xs ∧ Post P e σ k H1 Q (F e xs) := by
  obtain ⟨e, R, h⟩ := h
  refine ⟨e, R, ?_⟩
  have q := Post.binds (m := m) (r := f e) h
  cases q2 : f e with
  | ok x =>
    rw [q2] at q
    intro v H1 s1 d1
    obtain ⟨y, s, d, p⟩ := q v H1 s1 d1
    exact ⟨e, y, R.same s, d, p⟩
  | ex c => rw [q2] at q; exact q
  | stuck => rw [q2] at q; exact q
/-- a further operand: e is known -/
theorem Post.then {g : Res D} {G : D → Res D} (R : Rel P e σ H) (h : Post P e σ k H Q (g.bind G)) : Post P e σ m H (fun v H1 => ∃ x, Rel P e σ H1 ∧ Same H H1 ∧ DenM P e σ m H1 v x ∧ Post P e σ k H1 Q (G x)) g := by
  have q := Post.bind (m := m) (r := g) h
  cases g with
  | ok x => exact fun v H1 s1 d1 => let ⟨y, s, d, p⟩ := q v H1 s1 d1; ⟨y, R.same s, s, d, p⟩
  | ex c => exact q
  | stuck => exact q
theorem Post.thens {g : Res (List D)} {G : List D → Res D} (R : Rel P e σ H) (h : Post P e σ k H Q (g.bind G)) : Posts P e σ m H (fun v H1 => ∃ x, Rel P e σ H1 ∧ Same H H1 ∧ DenMs P e σ m H1 v x ∧ Post P e σ k H1 Q (G x)) g := by
  have q := Post.binds (m := m) (r := g) h
  cases g with
  | ok x => exact fun v H1 s1 d1 => let ⟨y, s, d, p⟩ := q v H1 s1 d1; ⟨y, R.same s, s, d, p⟩
  | ex c => exact q
  | stuck => exact q
end
end
end Rf

set_option Elab.async false
set_option linter.all false
set_option maxRecDepth 100000
set_option maxHeartbeats 1000000
/-! Rf, part C: operations by values. -/
namespace Rf
noncomputable section
open PySem PySem.Spec PyProof.Rows L2

theorem line_le {n : Nat} (h : n ≤ line) : n ≤ sizeLine := Nat.le_trans h (by decide)
theorem line_lt {n : Nat} (h : n < line) : n < sizeLine := Nat.lt_of_lt_of_le h (by decide)

/-- z is the data d, a list or dict is a new one -/
def Fr2 (K : PySem.W.Frag) (a1 : Addr → Prop) (H : Hp) (z : V) (H' : Hp) : D → Prop
  | .list ds => ∃ p xs, z = .ref p ∧ H p = none ∧ H' p = some (.lst xs) ∧ Dens K (fun a => a1 a ∨ a = p) H' xs ds
  | .dict ds => ∃ p ks, z = .ref p ∧ H p = none ∧ H' p = some (.dK ks) ∧ DenKs K (fun a => a1 a ∨ a = p) H' ks ds
  | d => Den K a1 H' z d
theorem Fr2.two {K : PySem.W.Frag} {a1 c0 : Addr → Prop} {H H' : Hp} {z : V} {d : D} (h : Fr2 K a1 H z H' d) (hc : ∀ a, c0 a → H a ≠ none) : Den2 K c0 a1 H' z d := by
  cases d with
  | list ds => obtain ⟨p, xs, rfl, n, e, t⟩ := h; exact ⟨p, xs, rfl, .inl (.inl e), .inl fun z => hc p z n, t.imp (fun _ _ => ⟨id, id⟩) fun _ _ z => .inl z⟩
  | dict ds => obtain ⟨p, xs, rfl, n, e, t⟩ := h; exact ⟨p, xs, rfl, .inl e, fun z => hc p z n, t.imp (fun _ _ => ⟨id, id⟩) fun _ _ z => .inl z⟩
  | _ => exact h
theorem Fr2.back {K : PySem.W.Frag} {a1 : Addr → Prop} {H0 H H' : Hp} {z : V} {d : D} (s : Same H0 H) (h : Fr2 K a1 H z H' d) : Fr2 K a1 H0 z H' d := by
  have bk : ∀ p, H p = none → H0 p = none := fun p n => by
    cases q : H0 p with
    | none => rfl
    | some o => rw [s _ _ q] at n; cases n
  cases d with
  | list ds => obtain ⟨p, xs, e1, n, e, t⟩ := h; exact ⟨p, xs, e1, bk p n, e, t⟩
  | dict ds => obtain ⟨p, xs, e1, n, e, t⟩ := h; exact ⟨p, xs, e1, bk p n, e, t⟩
  | _ => exact h
/-- two values in, a value out -/
def RB (K : PySem.W.Frag) (r : D → D → Option D) : R2 := fun v w H Q => ∃ a0 b0 a1 x y d, Den2 K a0 a1 H v x ∧ Den2 K b0 a1 H w y ∧ r x y = some d ∧
  ∀ z H', Same H H' → Fr2 K a1 H z H' d → Q z H'
theorem same_upd {H : Hp} {p : Addr} {o : HO} (h : H p = none) : Same H (upd H p o) := fun b x e => by
  rw [upd_ne (ne_of_none e h)]
  exact e
section
variable {K : PySem.W.Frag} {a0 a1 : Addr → Prop} {H : Hp} {v : V}
theorem d2_none (h : Den2 K a0 a1 H v .none) : v = .non := by cases h; rfl
theorem d2_bool {b : Bool} (h : Den2 K a0 a1 H v (.bool b)) : v = .bl b := by cases h; rfl
theorem d2_int {i : Int} (h : Den2 K a0 a1 H v (.int i)) : v = .int i := by cases h; rfl
theorem d2_str {x : Str} (h : Den2 K a0 a1 H v (.str x)) : v = .str x := by cases h; rfl
theorem d2_tup {ds : List D} (h : Den2 K a0 a1 H v (.tuple ds)) : ∃ a xs, v = .ref a ∧ SqT K H a xs ∧ Dens K a1 H xs ds := by
  cases h with
  | tuple h t => exact ⟨_, _, rfl, .inl (.inl h), t⟩
theorem d2_tupH {ds : List D} (h : Den2 K a0 a1 H v (.tuple ds)) : ∃ a xs, v = .ref a ∧ H a = some (.tup xs) ∧ Dens K a1 H xs ds := by
  cases h with
  | tuple h t => exact ⟨_, _, rfl, h, t⟩
theorem d2_lst {ds : List D} (h : Den2 K a0 a1 H v (.list ds)) : ∃ a xs, v = .ref a ∧ SqL K H a xs ∧ Dens K a1 H xs ds := by
  obtain ⟨a, xs, e, r, _, t⟩ := h
  exact ⟨a, xs, e, r, t⟩
theorem d2_dct {ds : List (D × D)} (h : Den2 K a0 a1 H v (.dict ds)) : ∃ a xs, v = .ref a ∧ Rd H a (.dK xs) ∧ DenKs K a1 H xs ds := by
  obtain ⟨a, xs, e, r, _, t⟩ := h
  exact ⟨a, xs, e, r, t⟩
end
theorem den_int {K : PySem.W.Frag} {a0 a1 : Addr → Prop} {H : Hp} {i : Int} : Den2 K a0 a1 H (.int i) (.int i) := Den.int i
theorem den_bool {K : PySem.W.Frag} {a0 a1 : Addr → Prop} {H : Hp} {i : Bool} : Den2 K a0 a1 H (.bl i) (.bool i) := Den.bool i
theorem den_str {K : PySem.W.Frag} {a0 a1 : Addr → Prop} {H : Hp} {i : Str} : Den2 K a0 a1 H (.str i) (.str i) := Den.str i
theorem den_none {K : PySem.W.Frag} {a0 a1 : Addr → Prop} {H : Hp} : Den2 K a0 a1 H .non .none := Den.none
/-- a new list -/
theorem new_lst {K : PySem.W.Frag} {a1 : Addr → Prop} {H : Hp} {p : Addr} {xs : List V} {ds : List D} (hp : H p = none) (h : Dens K a1 H xs ds) :
    Fr2 K a1 H (.ref p) (upd H p (.lst xs)) (.list ds) := ⟨p, xs, rfl, hp, upd_same, h.imp (fun _ _ => ⟨same_rd (same_upd hp), same_upd hp _ _⟩) fun a ha z => z.elim id fun e => absurd (e ▸ hp) ha⟩
theorem new_dct {K : PySem.W.Frag} {a1 : Addr → Prop} {H : Hp} {p : Addr} {xs : List (Key × V)} {ds : List (D × D)} (hp : H p = none) (h : DenKs K a1 H xs ds) :
    Fr2 K a1 H (.ref p) (upd H p (.dK xs)) (.dict ds) := ⟨p, xs, rfl, hp, upd_same, h.imp (fun _ _ => ⟨same_rd (same_upd hp), same_upd hp _ _⟩) fun a ha z => z.elim id fun e => absurd (e ▸ hp) ha⟩
theorem new_tup {K : PySem.W.Frag} {a1 : Addr → Prop} {H : Hp} {p : Addr} {xs : List V} {ds : List D} (hp : H p = none) (h : Dens K a1 H xs ds) :
    Fr2 K a1 H (.ref p) (upd H p (.tup xs)) (.tuple ds) := Den.tuple upd_same (h.same (same_upd hp))
theorem fr_int {K : PySem.W.Frag} {a1 : Addr → Prop} {H H' : Hp} {i : Int} : Fr2 K a1 H (.int i) H' (.int i) := Den.int i
theorem fr_bool {K : PySem.W.Frag} {a1 : Addr → Prop} {H H' : Hp} {i : Bool} : Fr2 K a1 H (.bl i) H' (.bool i) := Den.bool i
theorem fr_str {K : PySem.W.Frag} {a1 : Addr → Prop} {H H' : Hp} {i : Str} : Fr2 K a1 H (.str i) H' (.str i) := Den.str i

section
variable {X : Cx}
theorem op_catR : OpR X (binaryOp .Add) (fun x y H Q => ∃ l b xs zs, x = .ref l ∧ y = .ref b ∧ SqL X.K H l xs ∧ SqL X.K H b zs ∧ xs.length + zs.length ≤ sizeLine ∧ ∀ p, H p = none → Q (.ref p) (upd H p (.lst (xs ++ zs)))) := by
  intro pins s σ H x y v u Q I rx ry h
  obtain ⟨l, b, xs, zs, rfl, rfl, hH, hB, hz, q⟩ := h
  cases rx
  cases ry
  obtain ⟨its, r, p, hz1⟩ := I.list hH
  obtain ⟨its2, r2, p2, hz2⟩ := I.list hB
  have hl := r.length
  have hl2 := r2.length
  obtain ⟨⟨c1, d1, da1, sl1⟩, g1, t1, n1, q1⟩ := id p.isList
  obtain ⟨⟨c2, d2, da2, sl2⟩, g2, t2, n2, q2⟩ := id p2.isList
  simp only at t1 q1 t2 q2
  subst t1 q1 t2 q2
  have ea : its.toArray ++ its2.toArray = (its ++ its2).toArray := by simp
  refine PySem.concat_meets ⟨_, g1, rfl⟩ ⟨_, g2, rfl⟩ PySem.noFill_list_add PySem.seq_list_add PySem.F.slot_list_add PySem.F.entry_list_add (PySem.F.args_list_add_2 _ _) (list_addW l b its.toArray its2.toArray n1 n2 d1 d2 sl1 sl2 (by rw [List.size_toArray, List.size_toArray]; omega)) ⟨g1, g2, ?_⟩
  rw [ea]
  exact ⟨.ref _, _, I.lnew (t' := s.toks) (r.append r2) (by rw [List.length_append]; omega), rfl, q _ I.fresh⟩

theorem op_addD : OpR X (binaryOp .Add) (RB X.K (binD .add)) := by
  intro pins s σ H v w v' w' Q I rv rw h
  obtain ⟨a0, b0, a1, x, y, d, hx, hy, hd, q⟩ := h
  cases x with
  | int i =>
    cases y <;> simp only [binD, reduceCtorEq] at hd
    rename_i j
    cases hd
    obtain rfl := d2_int hx
    obtain rfl := d2_int hy
    exact op_add pins s σ H _ _ _ _ Q I rv rw ⟨i, j, rfl, rfl, q _ _ (Same.refl H) fr_int⟩
  | str i =>
    cases y <;> simp only [binD, reduceCtorEq] at hd
    rename_i j
    split at hd
    · rename_i hl
      cases hd
      obtain rfl := d2_str hx
      obtain rfl := d2_str hy
      exact op_add_str pins s σ H _ _ _ _ Q I rv rw ⟨i, j, rfl, rfl, line_le hl, q _ _ (Same.refl H) fr_str⟩
    · cases hd
  | list xs =>
    cases y <;> simp only [binD, reduceCtorEq] at hd
    rename_i ys
    split at hd
    · rename_i hl
      cases hd
      obtain ⟨a, us, rfl, ra, da⟩ := d2_lst hx
      obtain ⟨b, ws, rfl, rb, db⟩ := d2_lst hy
      exact op_catR pins s σ H _ _ _ _ Q I rv rw ⟨a, b, us, ws, rfl, rfl, ra, rb, by rw [da.length, db.length]; exact line_le hl, fun p hp => q _ _ (same_upd hp) (new_lst hp (da.append db))⟩
    · cases hd
  | tuple xs =>
    cases y with
    | tuple ys =>
      cases xs with
      | nil => simp only [binD, reduceCtorEq] at hd
      | cons x xs =>
        simp only [binD] at hd
        split at hd
        · rename_i hl
          cases hd
          obtain ⟨a, us, rfl, ra, da⟩ := d2_tupH hx
          obtain ⟨b, ws, rfl, rb, db⟩ := d2_tup hy
          have hu : us ≠ [] := fun z => by subst z; cases da
          refine op_catT pins s σ H _ _ _ _ Q I rv rw ⟨a, b, us, ws, rfl, rfl, .inl (.inl ra), rb, hu, by rw [da.length, db.length]; exact line_le hl, fun z => ?_, fun z p hp => q _ _ (same_upd hp) (new_tup hp (da.append db))⟩
          subst z
          cases db
          refine q _ _ (Same.refl H) (Den.tuple ra ?_)
          rw [List.append_nil]
          exact da
        · cases hd
    | _ => cases xs <;> simp only [binD, reduceCtorEq] at hd
  | none => cases y <;> simp only [binD, reduceCtorEq] at hd
  | bool _ => cases y <;> simp only [binD, reduceCtorEq] at hd
  | dict _ => cases y <;> simp only [binD, reduceCtorEq] at hd
theorem mulOk {i j : Int} (h : i.natAbs < 2 ^ 64 ∨ j.natAbs < 2 ^ 64) : CMul i j := by
  rcases h with h | h
  · exact .inl (by omega)
  · exact .inr (by omega)
/-- an operation of ints by its rule -/
theorem op_intD {f : Value → Value → Sem Value} {C : Int → Int → Prop} {g : Int → Int → Int} {r : D → D → Option D} (h : OpR X f (rI C fun i j => .int (g i j)))
    (hr : ∀ x y d, r x y = some d → ∃ i j, x = .int i ∧ y = .int j ∧ C i j ∧ d = .int (g i j)) : OpR X f (RB X.K r) := by
  intro pins s σ H v w v' w' Q I rv rw hh
  obtain ⟨a0, b0, a1, x, y, d, hx, hy, hd, q⟩ := hh
  obtain ⟨i, j, rfl, rfl, c, rfl⟩ := hr x y d hd
  obtain rfl := d2_int hx
  obtain rfl := d2_int hy
  exact h pins s σ H _ _ _ _ Q I rv rw ⟨i, j, rfl, rfl, c, q _ _ (Same.refl H) fr_int⟩
theorem binI_sub {x y d : D} (h : binD .sub x y = some d) : ∃ i j, x = .int i ∧ y = .int j ∧ True ∧ d = .int (i - j) := by
  cases x <;> cases y <;> simp only [binD, reduceCtorEq, Option.some.injEq] at h
  exact ⟨_, _, rfl, rfl, trivial, h.symm⟩
theorem binI_mul {x y d : D} (h : binD .mul x y = some d) : ∃ i j, x = .int i ∧ y = .int j ∧ CMul i j ∧ d = .int (i * j) := by
  cases x <;> cases y <;> simp only [binD, reduceCtorEq] at h
  split at h
  · rename_i c
    cases h
    exact ⟨_, _, rfl, rfl, mulOk c, rfl⟩
  · cases h
theorem binI_fdiv {x y d : D} (h : binD .fdiv x y = some d) : ∃ i j, x = .int i ∧ y = .int j ∧ CDiv i j ∧ d = .int (i / j) := by
  cases x <;> cases y <;> simp only [binD, reduceCtorEq] at h
  split at h
  · rename_i c
    cases h
    exact ⟨_, _, rfl, rfl, c, rfl⟩
  · cases h
theorem binI_mod {x y d : D} (h : binD .mod x y = some d) : ∃ i j, x = .int i ∧ y = .int j ∧ 0 < j ∧ d = .int (i % j) := by
  cases x <;> cases y <;> simp only [binD, reduceCtorEq] at h
  split at h
  · rename_i c
    cases h
    exact ⟨_, _, rfl, rfl, c, rfl⟩
  · cases h
theorem binI_pow {x y d : D} (h : binD .pow x y = some d) : ∃ i j, x = .int i ∧ y = .int j ∧ CPow i j ∧ d = .int (i ^ j.toNat) := by
  cases x <;> cases y <;> simp only [binD, reduceCtorEq] at h
  split at h
  · rename_i c
    cases h
    exact ⟨_, _, rfl, rfl, c, rfl⟩
  · cases h
theorem rI_of {f : Value → Value → Sem Value} {g : Int → Int → Int} (h : OpR X f (rI0 fun i j => .int (g i j))) : OpR X f (rI (fun _ _ => True) fun i j => .int (g i j)) :=
  fun pins s σ H x y v u Q I rx ry ⟨i, j, e1, e2, _, q⟩ => h pins s σ H x y v u Q I rx ry ⟨i, j, e1, e2, q⟩
def bOp : BOp → Operator
  | .add => .Add
  | .sub => .Sub
  | .mul => .Mult
  | .fdiv => .FloorDiv
  | .mod => .Mod
  | .pow => .Pow
  | .rep => .Mult
  | .shl => .LShift
  | .shr => .RShift
theorem binI_shl {x y d : D} (h : binD .shl x y = some d) : ∃ i j, x = .int i ∧ y = .int j ∧ CPow i j ∧ d = .int (i * 2 ^ j.toNat) := by
  cases x <;> cases y <;> simp only [binD, reduceCtorEq] at h
  split at h
  · rename_i c
    cases h
    exact ⟨_, _, rfl, rfl, c, rfl⟩
  · cases h
theorem binI_shr {x y d : D} (h : binD .shr x y = some d) : ∃ i j, x = .int i ∧ y = .int j ∧ 0 ≤ j ∧ d = .int (i / 2 ^ j.toNat) := by
  cases x <;> cases y <;> simp only [binD, reduceCtorEq] at h
  split at h
  · rename_i c
    cases h
    exact ⟨_, _, rfl, rfl, c, rfl⟩
  · cases h
theorem flat_rep (c : Nat) : ∀ (n : Nat) (acc : Array Nat), (List.replicate n (#[c] : Array Nat)).foldl (· ++ ·) acc = acc ++ (List.replicate n c).toArray
  | 0, acc => by simp
  | n + 1, acc => by
    rw [List.replicate_succ, List.foldl_cons, flat_rep c n, List.replicate_succ]
    apply Array.ext'
    simp
theorem op_repD : OpR X (binaryOp .Mult) (RB X.K (binD .rep)) := by
  intro pins s σ H v w v' w' Q I rv rw' h
  obtain ⟨a0, b0, a1, x, y, d, hx, hy, hd, q⟩ := h
  cases x with
  | str z =>
    cases y with
    | int j =>
      simp only [binD] at hd
      by_cases hc : z.length = 1 ∧ j ≤ 1000000 ∧ -1000000 ≤ j
      · rw [if_pos hc] at hd
        cases hd
        obtain rfl := d2_str hx
        obtain rfl := d2_int hy
        obtain ⟨t, rfl⟩ := rv
        obtain ⟨u, rfl⟩ := rw'
        obtain ⟨h1, h2, h3⟩ := hc
        obtain ⟨c, rfl⟩ : ∃ c, z = S [c] := by
          obtain ⟨arr⟩ := z
          obtain ⟨l⟩ := arr
          match l, h1 with
          | [c], _ => exact ⟨c, rfl⟩
        have fin : ∀ tk, Q (.str (S (List.replicate j.toNat c))) H → EP X pins σ Q (.str (S (List.replicate j.toNat c)) tk) { s with toks := s.toks + 1 } := fun tk q => ⟨.str _, H, I.tok _, ⟨_, rfl⟩, q⟩
        have qq : Q (.str (S (List.replicate j.toNat c))) H := q _ _ (Same.refl H) fr_str
        refine PySem.P.mul_str ?_ (fun h4 h5 => ?_) (fun h4 h5 => ?_) ?_
        · rw [decide_eq_false (by omega), decide_eq_false (by omega)]; rfl
        · have : (1 : Int) ≤ (2 ^ 63 - 1) / j := by
            rw [Int.le_ediv_iff_mul_le (by omega)]
            omega
          show ¬ (((1 : Nat) : Int) > _)
          omega
        · show decide (1 * j.toNat > _) = false
          have : (1000000 : Nat) ≤ sizeLine := by decide
          rw [decide_eq_false]
          omega
        · by_cases h4 : j < 1
          · rw [if_pos h4]
            have e : j.toNat = 0 := by omega
            rw [e] at qq
            exact ⟨by decide, .str _, H, I.tok _, ⟨_, rfl⟩, qq⟩
          · rw [if_neg h4]
            by_cases h5 : j = 1
            · subst h5
              rw [if_pos (by rfl)]
              exact ⟨.str _, H, I, ⟨_, rfl⟩, qq⟩
            · rw [if_neg (by simp [h5, Str.length])]
              have e := flat_rep c j.toNat #[]
              rw [Array.empty_append] at e
              show Made.post (Made.str ⟨(List.replicate j.toNat (#[c] : Array Nat)).foldl (· ++ ·) #[]⟩) _ _
              rw [e]
              refine ⟨?_, .str _, H, I.tok _, ⟨_, rfl⟩, qq⟩
              show (List.replicate j.toNat c).toArray.size ≤ sizeLine
              simp
              have : (1000000 : Nat) ≤ sizeLine := by decide
              omega
      · rw [if_neg hc] at hd; cases hd
    | _ => simp only [binD, reduceCtorEq] at hd
  | _ => cases y <;> simp only [binD, reduceCtorEq] at hd
theorem op_binD : ∀ op : BOp, OpR X (binaryOp (bOp op)) (RB X.K (binD op))
  | .add => op_addD
  | .sub => op_intD (rI_of op_sub) fun _ _ _ h => binI_sub h
  | .mul => op_intD op_mul fun _ _ _ h => binI_mul h
  | .fdiv => op_intD op_fdiv fun _ _ _ h => binI_fdiv h
  | .mod => op_intD op_mod fun _ _ _ h => binI_mod h
  | .pow => op_intD op_pow fun _ _ _ h => binI_pow h
  | .rep => op_repD
  | .shl => op_intD op_shl fun _ _ _ h => binI_shl h
  | .shr => op_intD op_shr fun _ _ _ h => binI_shr h
theorem aug_int {op : BOp} (ho : op ≠ .add) {x y d : D} (h : augD op x y = some d) : binD op x y = some d := by
  cases op <;> cases x <;> simp only [augD, reduceCtorEq] at h <;> exact h
theorem op_augD : ∀ op : BOp, op ≠ .pow → OpR X (inplaceOp (bOp op)) (RB X.K (augD op))
  | .add, _ => by
    intro pins s σ H v w v' w' Q I rv rw h
    obtain ⟨a0, b0, a1, x, y, d, hx, hy, hd, q⟩ := h
    cases x with
    | int i =>
      cases y <;> simp only [augD, binD, reduceCtorEq] at hd
      rename_i j
      cases hd
      obtain rfl := d2_int hx
      obtain rfl := d2_int hy
      exact iop_add pins s σ H _ _ _ _ Q I rv rw ⟨i, j, rfl, rfl, q _ _ (Same.refl H) fr_int⟩
    | str i =>
      cases y <;> simp only [augD, binD, reduceCtorEq] at hd
      rename_i j
      split at hd
      · rename_i hl
        cases hd
        obtain rfl := d2_str hx
        obtain rfl := d2_str hy
        exact iop_add_str pins s σ H _ _ _ _ Q I rv rw ⟨i, j, rfl, rfl, line_le hl, q _ _ (Same.refl H) fr_str⟩
      · cases hd
    | _ => simp only [augD, reduceCtorEq] at hd
  | .sub, _ => op_intD (rI_of iop_sub) fun _ _ _ h => binI_sub (aug_int (op := .sub) nofun h)
  | .mul, _ => op_intD iop_mul fun _ _ _ h => binI_mul (aug_int (op := .mul) nofun h)
  | .fdiv, _ => op_intD iop_fdiv fun _ _ _ h => binI_fdiv (aug_int (op := .fdiv) nofun h)
  | .mod, _ => op_intD iop_mod fun _ _ _ h => binI_mod (aug_int (op := .mod) nofun h)
  | .pow, h => absurd rfl h
  | .rep, _ => by
    intro pins s σ H v w v' w' Q I rv rw' h
    obtain ⟨a0, b0, a1, x, y, d, hx, hy, hd, q⟩ := h
    cases x <;> simp only [augD, reduceCtorEq] at hd
  | .shl, _ => by
    intro pins s σ H v w v' w' Q I rv rw' h
    obtain ⟨a0, b0, a1, x, y, d, hx, hy, hd, q⟩ := h
    cases x <;> simp only [augD, reduceCtorEq] at hd
  | .shr, _ => by
    intro pins s σ H v w v' w' Q I rv rw' h
    obtain ⟨a0, b0, a1, x, y, d, hx, hy, hd, q⟩ := h
    cases x <;> simp only [augD, reduceCtorEq] at hd

/-! ### comparisons -/
/-- two values in, a truth out -/
def RC (K : PySem.W.Frag) (r : D → D → Option Bool) : R2 := fun v w H Q => ∃ a0 b0 a1 x y d, Den2 K a0 a1 H v x ∧ Den2 K b0 a1 H w y ∧ r x y = some d ∧ Q (.bl d) H
theorem Den2.den {K : PySem.W.Frag} {a0 a1 : Addr → Prop} {H : Hp} {v : V} {d : D} (h : Den2 K a0 a1 H v d) : Den K (fun _ => False) H v d := (Den2.mono (fun _ z => z.elim) (fun _ z => z.elim) h).one
theorem op_eqD' (hu : X.A.units + 190 < cLine) : OpR X (compareOp .Eq) (RC X.K (cmpD .eq)) := by
  intro pins s σ H v w v' w' Q I rv rw h
  obtain ⟨a0, b0, a1, x, y, d, hx, hy, hd, q⟩ := h
  simp only [cmpD] at hd
  split at hd
  · rename_i c
    cases hd
    simp only [eqOk, Bool.and_eq_true, decide_eq_true_eq] at c
    obtain ⟨⟨c1, c2⟩, c3⟩ := c
    obtain ⟨as, r1⟩ := Dp.reads I x v v' (hx.den.dp c1) rv
    obtain ⟨bs, r2⟩ := Dp.reads I y w w' (hy.den.dp c2) rw
    exact SeqAt.compareEq_reads r1 r2 c1 c2 (by omega) ⟨.bl _, H, I, rfl, q⟩
  · cases hd
theorem op_neD' (hu : X.A.units + 190 < cLine) : OpR X (compareOp .NotEq) (RC X.K (cmpD .ne)) := by
  intro pins s σ H v w v' w' Q I rv rw h
  obtain ⟨a0, b0, a1, x, y, d, hx, hy, hd, q⟩ := h
  simp only [cmpD] at hd
  split at hd
  · rename_i c
    cases hd
    simp only [eqOk, Bool.and_eq_true, decide_eq_true_eq] at c
    obtain ⟨⟨c1, c2⟩, c3⟩ := c
    obtain ⟨as, r1⟩ := Dp.reads I x v v' (hx.den.dp c1) rv
    obtain ⟨bs, r2⟩ := Dp.reads I y w w' (hy.den.dp c2) rw
    exact SeqAt.compareNe_reads r1 r2 c1 c2 (by omega) ⟨.bl _, H, I, rfl, q⟩
  · cases hd
theorem op_ordD {f : Value → Value → Sem Value} {g : Int → Int → Bool} {r : D → D → Option Bool} (h : OpR X f (rI0 fun i j => .bl (g i j)))
    (hr : ∀ x y d, r x y = some d → ∃ i j, x = .int i ∧ y = .int j ∧ d = g i j) : OpR X f (RC X.K r) := by
  intro pins s σ H v w v' w' Q I rv rw hh
  obtain ⟨a0, b0, a1, x, y, d, hx, hy, hd, q⟩ := hh
  obtain ⟨i, j, rfl, rfl, rfl⟩ := hr x y d hd
  obtain rfl := d2_int hx
  obtain rfl := d2_int hy
  exact h pins s σ H _ _ _ _ Q I rv rw ⟨i, j, rfl, rfl, q⟩

/-! membership -/
theorem eqv_eqV {K : PySem.W.Frag} {av : Addr → Prop} {H : Hp} {v w : V} {x y : D} (hx : Den K av H v x) (hy : Den K av H w y) (fx : flatD x = true) (fy : flatD y = true) : flatV v = true ∧ flatV w = true ∧ eqV w v = PyData.eqv y x := by
  cases hx with
  | none => cases hy with
    | none => exact ⟨rfl, rfl, rfl⟩
    | bool b => exact ⟨rfl, rfl, rfl⟩
    | int i => exact ⟨rfl, rfl, rfl⟩
    | str z => exact ⟨rfl, rfl, rfl⟩
    | _ => cases fy
  | bool c => cases hy with
    | none => exact ⟨rfl, rfl, rfl⟩
    | bool b => exact ⟨rfl, rfl, rfl⟩
    | int i => exact ⟨rfl, rfl, rfl⟩
    | str z => exact ⟨rfl, rfl, rfl⟩
    | _ => cases fy
  | int c => cases hy with
    | none => exact ⟨rfl, rfl, rfl⟩
    | bool b => exact ⟨rfl, rfl, rfl⟩
    | int i => exact ⟨rfl, rfl, rfl⟩
    | str z => exact ⟨rfl, rfl, rfl⟩
    | _ => cases fy
  | str c => cases hy with
    | none => exact ⟨rfl, rfl, rfl⟩
    | bool b => exact ⟨rfl, rfl, rfl⟩
    | int i => exact ⟨rfl, rfl, rfl⟩
    | str z => exact ⟨rfl, rfl, rfl⟩
    | _ => cases fy
  | _ => cases fx
theorem in_of {K : PySem.W.Frag} {av : Addr → Prop} {H : Hp} {v : V} {x : D} (hx : Den K av H v x) (fx : flatD x = true) : ∀ {ws : List V} {ys : List D}, Dens K av H ws ys → ys.all flatD = true →
    ws.all flatV = true ∧ inV v ws = ys.any fun y => PyData.eqv y x
  | _, _, .nil, _ => ⟨rfl, rfl⟩
  | _, _, .cons a b, h => by
    rw [List.all_cons, Bool.and_eq_true] at h
    obtain ⟨h1, h2, h3⟩ := eqv_eqV hx a fx h.1
    obtain ⟨h4, h5⟩ := in_of hx fx b h.2
    refine ⟨by rw [List.all_cons, h2, h4]; rfl, ?_⟩
    show (eqV _ _ || inV v _) = _
    rw [List.any_cons, h3, h5]

/-! dicts -/
theorem keyD_of {k : D} {c : Key} (h : keyD k = some c) : k = keyOf c := by
  cases k <;> simp only [keyD, reduceCtorEq, Option.some.injEq] at h <;> subst h <;> rfl
theorem eqv_key {a b : Key} : PyData.eqv (keyOf a) (keyOf b) = decide (a = b) := by
  cases a with
  | inl i => cases b with
    | inl j => show (i == j) = _; rw [key_ll]
    | inr y => show false = _; rw [key_lr]
  | inr x => cases b with
    | inl j => show false = _; rw [key_rl]
    | inr y =>
      show (x == y) = _
      rw [key_rr, Bool.eq_iff_iff]
      simp
theorem keyV {K : PySem.W.Frag} {a0 a1 : Addr → Prop} {H : Hp} {v : V} {k : Key} (h : Den2 K a0 a1 H v (keyOf k)) : v = kV k := by
  cases k with
  | inl i => exact d2_int h
  | inr x => exact d2_str h
theorem look_of {K : PySem.W.Frag} {av : Addr → Prop} {H : Hp} (k : Key) : ∀ {ks : List (Key × V)} {ds : List (D × D)}, DenKs K av H ks ds →
    (lookD ds (keyOf k) = none ∧ valV ks k = none) ∨ ∃ x v, lookD ds (keyOf k) = some x ∧ valV ks k = some v ∧ Den K av H v x
  | _, _, .nil => .inl ⟨rfl, rfl⟩
  | _, _, .cons (k := c) (v := v) (d := d) (ks := ks) (ds := ds) a b => by
    by_cases e : c = k
    · subst e
      refine .inr ⟨d, v, ?_, valV_pos rfl, a⟩
      simp only [lookD, List.find?_cons, eqv_key, decide_true, Option.map_some]
    · rw [valV_neg e]
      have h1 : lookD ((keyOf c, d) :: ds) (keyOf k) = lookD ds (keyOf k) := by
        unfold lookD
        rw [List.find?_cons, eqv_key, decide_eq_false e]
      rw [h1]
      exact look_of k b
theorem DenKs.any {K : PySem.W.Frag} {av : Addr → Prop} {H : Hp} (k : Key) {ks : List (Key × V)} {ds : List (D × D)} (h : DenKs K av H ks ds) : (lookD ds (keyOf k)).isSome = (valV ks k).isSome := by
  rcases look_of k h with ⟨h1, h2⟩ | ⟨x, v, h1, h2, _⟩
  · rw [h1, h2]; rfl
  · rw [h1, h2]; rfl
theorem repl_of {K : PySem.W.Frag} {av : Addr → Prop} {H : Hp} (k : Key) {w : V} {y : D} (hw : Den K av H w y) : ∀ {ks : List (Key × V)} {ds : List (D × D)}, DenKs K av H ks ds →
    DenKs K av H (ks.map fun kv => if kv.1 = k then (kv.1, w) else kv) (ds.map fun p => if PyData.eqv p.1 (keyOf k) then (p.1, y) else p)
  | _, _, .nil => .nil
  | _, _, .cons (k := c) a b => by
    rw [List.map_cons, List.map_cons]
    by_cases e : c = k
    · subst e
      rw [if_pos rfl]
      simp only [eqv_key, decide_true, if_true]
      exact .cons hw (repl_of c hw b)
    · rw [if_neg e]
      simp only [eqv_key, decide_eq_false e, Bool.false_eq_true, if_false]
      exact .cons a (repl_of k hw b)
theorem DenKs.append {K : PySem.W.Frag} {av : Addr → Prop} {H : Hp} : ∀ {ks : List (Key × V)} {ds : List (D × D)} {ks' : List (Key × V)} {ds' : List (D × D)}, DenKs K av H ks ds → DenKs K av H ks' ds' → DenKs K av H (ks ++ ks') (ds ++ ds')
  | _, _, _, _, .nil, h => h
  | _, _, _, _, .cons a b, h => .cons a (b.append h)
theorem put_of {K : PySem.W.Frag} {av : Addr → Prop} {H : Hp} (k : Key) {w : V} {y : D} (hw : Den K av H w y) {ks : List (Key × V)} {ds : List (D × D)} (h : DenKs K av H ks ds) : DenKs K av H (putK ks k w) (putD ds (keyOf k) y) := by
  unfold putD
  rcases look_of k h with ⟨h1, h2⟩ | ⟨x, v, h1, h2, _⟩
  · rw [putK_new w h2, h1]
    exact h.append (.cons hw .nil)
  · have e : putK ks k w = ks.map fun kv => if kv.1 = k then (kv.1, w) else kv := by
      unfold putK
      rw [if_pos (by rw [valV_any, h2]; rfl)]
    rw [e, h1]
    exact repl_of k hw h
theorem op_inD' (hu : X.A.units + 1 < cLine) : OpR X (compareOp .In) (RC X.K (cmpD .isin)) := by
  intro pins s σ H v w v' w' Q I rv rw h
  obtain ⟨a0, b0, a1, x, y, d, hx, hy, hd, q⟩ := h
  have hd : inD x y = some d := hd
  cases y with
  | list ys =>
    simp only [inD] at hd
    split at hd
    · rename_i c
      cases hd
      rw [Bool.and_eq_true] at c
      obtain ⟨a, us, rfl, ra, da⟩ := d2_lst hy
      obtain ⟨fx, fs, ee⟩ := And.intro c.1 (in_of hx.den c.1 (da.imp (fun _ _ => ⟨id, id⟩) fun _ _ z => z.elim) c.2)
      obtain ⟨h1, -, -⟩ := eqv_eqV hx.den hx.den c.1 c.1
      exact op_in_seq pins s σ H _ _ _ _ Q I rv rw ⟨a, us, rfl, .inl ra, h1, fs, by rw [if_neg Bool.false_ne_true, ee]; exact q⟩
    · cases hd
  | tuple ys =>
    simp only [inD] at hd
    split at hd
    · rename_i c
      cases hd
      rw [Bool.and_eq_true] at c
      obtain ⟨a, us, rfl, ra, da⟩ := d2_tup hy
      obtain ⟨fx, fs, ee⟩ := And.intro c.1 (in_of hx.den c.1 (da.imp (fun _ _ => ⟨id, id⟩) fun _ _ z => z.elim) c.2)
      obtain ⟨h1, -, -⟩ := eqv_eqV hx.den hx.den c.1 c.1
      exact op_in_seq pins s σ H _ _ _ _ Q I rv rw ⟨a, us, rfl, .inr ra, h1, fs, by rw [if_neg Bool.false_ne_true, ee]; exact q⟩
    · cases hd
  | str z =>
    cases x <;> simp only [inD, reduceCtorEq, Option.some.injEq] at hd
    subst hd
    obtain rfl := d2_str hx
    obtain rfl := d2_str hy
    exact op_in_str pins s σ H _ _ _ _ Q I rv rw ⟨_, _, rfl, rfl, q⟩
  | dict kvs =>
    simp only [inD] at hd
    split at hd
    · rename_i c
      cases hd
      obtain ⟨k, hk⟩ := Option.isSome_iff_exists.mp c
      obtain rfl := keyD_of hk
      obtain rfl := keyV hx
      obtain ⟨a, us, rfl, ra, da⟩ := d2_dct hy
      rw [da.any] at q
      cases rw
      exact d_in hu I (.inl ⟨us, k, ra, rfl, rfl⟩) rv fun s' I' => ⟨.bl _, H, I', rfl, q⟩
    · cases hd
  | _ => simp only [inD, reduceCtorEq] at hd
theorem op_notinD' (hu : X.A.units + 1 < cLine) : OpR X (compareOp .NotIn) (RC X.K (cmpD .notin)) := by
  intro pins s σ H v w v' w' Q I rv rw h
  obtain ⟨a0, b0, a1, x, y, d, hx, hy, hd, q⟩ := h
  have h5 : (inD x y).map not = some d := hd
  clear hd
  obtain ⟨d, hd, rfl⟩ := Option.map_eq_some_iff.mp h5
  clear h5
  cases y with
  | list ys =>
    simp only [inD] at hd
    split at hd
    · rename_i c
      cases hd
      rw [Bool.and_eq_true] at c
      obtain ⟨a, us, rfl, ra, da⟩ := d2_lst hy
      obtain ⟨fx, fs, ee⟩ := And.intro c.1 (in_of hx.den c.1 (da.imp (fun _ _ => ⟨id, id⟩) fun _ _ z => z.elim) c.2)
      obtain ⟨h1, -, -⟩ := eqv_eqV hx.den hx.den c.1 c.1
      exact op_notIn_seq pins s σ H _ _ _ _ Q I rv rw ⟨a, us, rfl, .inl ra, h1, fs, by rw [if_pos rfl, ee]; exact q⟩
    · cases hd
  | tuple ys =>
    simp only [inD] at hd
    split at hd
    · rename_i c
      cases hd
      rw [Bool.and_eq_true] at c
      obtain ⟨a, us, rfl, ra, da⟩ := d2_tup hy
      obtain ⟨fx, fs, ee⟩ := And.intro c.1 (in_of hx.den c.1 (da.imp (fun _ _ => ⟨id, id⟩) fun _ _ z => z.elim) c.2)
      obtain ⟨h1, -, -⟩ := eqv_eqV hx.den hx.den c.1 c.1
      exact op_notIn_seq pins s σ H _ _ _ _ Q I rv rw ⟨a, us, rfl, .inr ra, h1, fs, by rw [if_pos rfl, ee]; exact q⟩
    · cases hd
  | str z =>
    cases x <;> simp only [inD, reduceCtorEq, Option.some.injEq] at hd
    subst hd
    obtain rfl := d2_str hx
    obtain rfl := d2_str hy
    exact op_notin_str pins s σ H _ _ _ _ Q I rv rw ⟨_, _, rfl, rfl, q⟩
  | dict kvs =>
    simp only [inD] at hd
    split at hd
    · rename_i c
      cases hd
      obtain ⟨k, hk⟩ := Option.isSome_iff_exists.mp c
      obtain rfl := keyD_of hk
      obtain rfl := keyV hx
      obtain ⟨a, us, rfl, ra, da⟩ := d2_dct hy
      rw [da.any] at q
      cases rw
      exact d_notIn hu I (.inl ⟨us, k, ra, rfl, rfl⟩) rv fun s' I' => ⟨.bl _, H, I', rfl, q⟩
    · cases hd
  | _ => simp only [inD, reduceCtorEq] at hd
theorem op_isD' : OpR X (compareOp .Is) (RC X.K (cmpD .is)) := by
  intro pins s σ H v w v' w' Q I rv rw h
  obtain ⟨a0, b0, a1, x, y, d, hx, hy, hd, q⟩ := h
  cases y with
  | none =>
    obtain rfl := d2_none hy
    have e : decide (v = .non) = d := by
      cases x <;> simp only [cmpD, reduceCtorEq, Option.some.injEq] at hd
      · subst hd; obtain rfl := d2_none hx; rfl
      · subst hd; obtain rfl := d2_bool hx; rfl
      · subst hd; obtain rfl := d2_int hx; rfl
      · subst hd; obtain rfl := d2_str hx; rfl
      · subst hd; obtain ⟨a, us, rfl, _⟩ := d2_lst hx; rfl
      · subst hd; obtain ⟨a, us, rfl, _⟩ := d2_tup hx; rfl
    exact op_isN pins s σ H _ _ _ _ Q I rv rw ⟨rfl, by rw [e]; exact q⟩
  | bool b =>
    cases x <;> simp only [cmpD, reduceCtorEq, Option.some.injEq] at hd
    subst hd
    obtain rfl := d2_bool hx
    obtain rfl := d2_bool hy
    exact op_isBl pins s σ H _ _ _ _ Q I rv rw ⟨_, _, rfl, rfl, q⟩
  | _ => cases x <;> simp only [cmpD, reduceCtorEq] at hd
theorem op_isnotD' : OpR X (compareOp .IsNot) (RC X.K (cmpD .isnot)) := by
  intro pins s σ H v w v' w' Q I rv rw h
  obtain ⟨a0, b0, a1, x, y, d, hx, hy, hd, q⟩ := h
  cases y with
  | none =>
    obtain rfl := d2_none hy
    have e : (!decide (v = .non)) = d := by
      cases x <;> simp only [cmpD, reduceCtorEq, Option.some.injEq] at hd
      · subst hd; obtain rfl := d2_none hx; rfl
      · subst hd; obtain rfl := d2_bool hx; rfl
      · subst hd; obtain rfl := d2_int hx; rfl
      · subst hd; obtain rfl := d2_str hx; rfl
      · subst hd; obtain ⟨a, us, rfl, _⟩ := d2_lst hx; rfl
      · subst hd; obtain ⟨a, us, rfl, _⟩ := d2_tup hx; rfl
    exact op_notN pins s σ H _ _ _ _ Q I rv rw ⟨rfl, by rw [e]; exact q⟩
  | _ => cases x <;> simp only [cmpD, reduceCtorEq] at hd
def cOp : COp → CmpOp
  | .eq => .Eq
  | .ne => .NotEq
  | .lt => .Lt
  | .le => .LtE
  | .gt => .Gt
  | .ge => .GtE
  | .isin => .In
  | .notin => .NotIn
  | .is => .Is
  | .isnot => .IsNot
theorem op_cmpD (hu : X.A.units + 190 < cLine) : ∀ op : COp, OpR X (compareOp (cOp op)) (RC X.K (cmpD op))
  | .eq => op_eqD' hu
  | .ne => op_neD' hu
  | .lt => op_ordD op_lt fun x y d h => by
    cases x <;> cases y <;> simp only [cmpD, reduceCtorEq, Option.some.injEq] at h
    exact ⟨_, _, rfl, rfl, h.symm⟩
  | .le => op_ordD op_le fun x y d h => by
    cases x <;> cases y <;> simp only [cmpD, reduceCtorEq, Option.some.injEq] at h
    exact ⟨_, _, rfl, rfl, h.symm⟩
  | .gt => op_ordD op_gt fun x y d h => by
    cases x <;> cases y <;> simp only [cmpD, reduceCtorEq, Option.some.injEq] at h
    exact ⟨_, _, rfl, rfl, h.symm⟩
  | .ge => op_ordD op_ge fun x y d h => by
    cases x <;> cases y <;> simp only [cmpD, reduceCtorEq, Option.some.injEq] at h
    exact ⟨_, _, rfl, rfl, h.symm⟩
  | .isin => op_inD' (by omega)
  | .notin => op_notinD' (by omega)
  | .is => op_isD'
  | .isnot => op_isnotD'
end
end
end Rf

set_option Elab.async false
set_option linter.all false
set_option maxRecDepth 100000
set_option maxHeartbeats 1000000
/-! Rf, part D: subscripts, slices, built-in functions and methods by values. -/
namespace Rf
noncomputable section
open PySem PySem.Spec PyProof.Rows L2

section
variable {X : Cx}
/-- a subscript -/
def RIx (K : PySem.W.Frag) : R2 := fun v w H Q => ∃ a0 b0 a1 b1 x y d, Den2 K a0 a1 H v x ∧ Den2 K b0 b1 H w y ∧ idxD x y = some d ∧ ∀ z, Den K a1 H z d → Q z H
theorem atI_len {α β : Type} {xs : List α} {ys : List β} (h : xs.length = ys.length) {i : Int} {y : β} (e : atI ys i = some y) : ∃ j : Nat, ys[j]? = some y ∧ ∀ x : α, xs[j]? = some x → atI xs i = some x := by
  unfold atI at e ⊢
  rw [h]
  cases q : ixN ys.length i with
  | none => rw [q] at e; cases e
  | some j => rw [q] at e; exact ⟨j, e, fun x hx => hx⟩
theorem ixD (hu : X.A.units + 1 < cLine) : IxR X (RIx X.K) := by
  intro value slice pins s σ H v w v' w' Q I rv rw h hs
  obtain ⟨a0, b0, a1, b1, x, y, d, hx, hy, hd, q⟩ := h
  cases x with
  | list xs =>
    cases y <;> simp only [idxD, reduceCtorEq] at hd
    obtain rfl := d2_int hy
    obtain ⟨a, us, rfl, ra, da⟩ := d2_lst hx
    obtain ⟨j, h1, h2⟩ := atI_len da.length hd
    obtain ⟨z, h3, h4⟩ := da.getD h1
    exact ix_list value slice pins s σ H _ _ _ _ Q I rv rw ⟨a, us, _, z, rfl, rfl, ra, h2 z h3, q z h4⟩ hs
  | tuple xs =>
    cases y <;> simp only [idxD, reduceCtorEq] at hd
    obtain rfl := d2_int hy
    obtain ⟨a, us, rfl, ra, da⟩ := d2_tup hx
    obtain ⟨j, h1, h2⟩ := atI_len da.length hd
    obtain ⟨z, h3, h4⟩ := da.getD h1
    exact ix_tup value slice pins s σ H _ _ _ _ Q I rv rw ⟨a, us, _, z, rfl, rfl, ra, h2 z h3, q z h4⟩ hs
  | str z =>
    cases y <;> simp only [idxD, reduceCtorEq] at hd
    split at hd
    · rename_i hl
      obtain rfl := d2_int hy
      obtain rfl := d2_str hx
      obtain ⟨c, hc, rfl⟩ := Option.map_eq_some_iff.mp hd
      exact ix_str value slice pins s σ H _ _ _ _ Q I rv rw ⟨z, _, c, rfl, rfl, line_le hl, hc, q _ (.str _)⟩ hs
    · cases hd
  | dict kvs =>
    simp only [idxD] at hd
    split at hd
    · rename_i c
      obtain ⟨k, hk⟩ := Option.isSome_iff_exists.mp c
      obtain rfl := keyD_of hk
      obtain rfl := keyV hy
      obtain ⟨a, us, rfl, ra, da⟩ := d2_dct hx
      rcases look_of k da with ⟨h1, h2⟩ | ⟨x, z, h1, h2, h3⟩
      · rw [h1] at hd; cases hd
      · rw [h1] at hd; cases hd
        cases rv
        have g : DGet H a (kV k) (some z) := .inl ⟨us, k, ra, rfl, h2.symm⟩
        exact tail_any (dict_typeIs I g) PySem.F.slot_dict_getitem.lookup (d_getItem hu I g rw fun w' s3 I3 rw' => ⟨z, H, I3, rw', q z h3⟩) hs
    · cases hd
  | _ => simp only [idxD, reduceCtorEq] at hd

/-! ### slices -/
def RSl (K : PySem.W.Frag) : V → Option Int → Option Int → Hp → VK → Prop := fun v lo hi H Q => ∃ a0 a1 x d, Den2 K a0 a1 H v x ∧ sliceD x lo hi = some d ∧ ∀ z H', Same H H' → Fr2 K a1 H z H' d → Q z H'
theorem Dens.cut {K : PySem.W.Frag} {av : Addr → Prop} {H : Hp} {us : List V} {xs : List D} (h : Dens K av H us xs) (lo hi : Option Int) : Dens K av H (cutV us lo hi) (cutD xs lo hi) := by
  unfold cutV cutD
  rw [h.length]
  exact (h.drop _).take _
theorem slD : SlR X (RSl X.K) := by
  intro pins s σ H v v' vl vu lo hi sl Q I rv hs pl pu h
  obtain ⟨a0, a1, x, d, hx, hd, q⟩ := h
  cases x with
  | list xs =>
    simp only [sliceD, Option.some.injEq] at hd
    subst hd
    obtain ⟨a, us, rfl, ra, da⟩ := d2_lst hx
    exact sl_list pins s σ H _ _ vl vu lo hi sl Q I rv hs pl pu ⟨a, us, rfl, ra, fun p hp => q _ _ (same_upd hp) (new_lst hp (da.cut lo hi))⟩
  | tuple xs =>
    simp only [sliceD, Option.some.injEq] at hd
    subst hd
    obtain ⟨a, us, rfl, ra, da⟩ := d2_tupH hx
    refine sl_tupA pins s σ H _ _ vl vu lo hi sl Q I rv hs pl pu ⟨a, us, rfl, .inl (.inl ra), fun c => ?_, fun _ p hp => q _ _ (same_upd hp) (new_tup hp (da.cut lo hi))⟩
    refine q _ _ (Same.refl H) (Den.tuple ra ?_)
    have e : cutD xs lo hi = xs := by
      unfold cutD
      rw [← da.length, c.1, c.2, List.drop_zero, Nat.sub_zero, da.length, List.take_length]
    rw [e]
    exact da
  | str z =>
    simp only [sliceD] at hd
    split at hd
    · rename_i hl
      cases hd
      obtain rfl := d2_str hx
      exact sl_str pins s σ H _ _ vl vu lo hi sl Q I rv hs pl pu ⟨z, rfl, line_le hl, q _ _ (Same.refl H) (by
        have e : cutS z lo hi = S (cutD z.cps.toList lo hi) := by
          unfold cutS cutD
          rw [show z.cps.toList.length = z.length by simp [Str.length]]
        rw [e]
        exact fr_str)⟩
    · cases hd
  | _ => simp only [sliceD, reduceCtorEq] at hd

/-! ### built-in functions -/
def DenA (K : PySem.W.Frag) (a1 : Addr → Prop) (H : Hp) : List V → List D → Prop
  | [], [] => True
  | v :: vs, d :: ds => (∃ a0, Den2 K a0 a1 H v d) ∧ DenA K a1 H vs ds
  | _, _ => False
def RCl (K : PySem.W.Frag) (f : List D → Option D) : List V → Hp → VK → Prop := fun vs H Q => ∃ a1 ds d, DenA K a1 H vs ds ∧ f ds = some d ∧ ∀ z H', Same H H' → Fr2 K a1 H z H' d → Q z H'
theorem denA1 {K : PySem.W.Frag} {a1 : Addr → Prop} {H : Hp} {vs : List V} {d : D} (h : DenA K a1 H vs [d]) : ∃ v a0, vs = [v] ∧ Den2 K a0 a1 H v d := by
  match vs, h with
  | [v], ⟨⟨a0, h⟩, _⟩ => exact ⟨v, a0, rfl, h⟩
theorem denA2 {K : PySem.W.Frag} {a1 : Addr → Prop} {H : Hp} {vs : List V} {d e : D} (h : DenA K a1 H vs [d, e]) : ∃ v w a0 b0, vs = [v, w] ∧ Den2 K a0 a1 H v d ∧ Den2 K b0 a1 H w e := by
  match vs, h with
  | [v, w], ⟨⟨a0, h⟩, ⟨b0, h2⟩, _⟩ => exact ⟨v, w, a0, b0, rfl, h, h2⟩
theorem allInts_of {K : PySem.W.Frag} {av : Addr → Prop} {H : Hp} : ∀ {us : List V} {xs : List D} {l : List Int}, Dens K av H us xs → allInts xs = some l → us = l.map V.int ∧ xs = l.map .int
  | _, _, l, .nil, h => by cases h; exact ⟨rfl, rfl⟩
  | _, _, l, .cons a b, h => by
    cases a <;> simp only [allInts, reduceCtorEq] at h
    obtain ⟨r, h1, rfl⟩ := Option.map_eq_some_iff.mp h
    obtain ⟨e1, e2⟩ := allInts_of b h1
    exact ⟨by rw [e1]; rfl, by rw [e2]; rfl⟩
theorem allBools_of {K : PySem.W.Frag} {av : Addr → Prop} {H : Hp} : ∀ {us : List V} {xs : List D} {l : List Bool}, Dens K av H us xs → allBools xs = some l → us = l.map V.bl
  | _, _, l, .nil, h => by cases h; exact rfl
  | _, _, l, .cons a b, h => by
    cases a <;> simp only [allBools, reduceCtorEq] at h
    obtain ⟨r, h1, rfl⟩ := Option.map_eq_some_iff.mp h
    rw [allBools_of b h1]; rfl
theorem allStrs_of {K : PySem.W.Frag} {av : Addr → Prop} {H : Hp} : ∀ {us : List V} {xs : List D} {l : List Str}, Dens K av H us xs → allStrs xs = some l → us = l.map V.str
  | _, _, l, .nil, h => by cases h; exact rfl
  | _, _, l, .cons a b, h => by
    cases a <;> simp only [allStrs, reduceCtorEq] at h
    obtain ⟨r, h1, rfl⟩ := Option.map_eq_some_iff.mp h
    rw [allStrs_of b h1]; rfl
theorem dens_ints {K : PySem.W.Frag} {av : Addr → Prop} {H : Hp} : ∀ l : List Int, Dens K av H (l.map V.int) (l.map .int)
  | [] => .nil
  | i :: l => .cons (.int i) (dens_ints l)
theorem maxI_mem : ∀ {l : List Int}, l ≠ [] → maxI l ∈ l ∧ ∀ y ∈ l, y ≤ maxI l
  | [], h => absurd rfl h
  | [x], _ => ⟨by simp [maxI], by simp [maxI]⟩
  | x :: y :: r, _ => by
    obtain ⟨h1, h2⟩ := maxI_mem (l := y :: r) (by simp)
    have e : maxI (x :: y :: r) = max x (maxI (y :: r)) := rfl
    rw [e]
    refine ⟨?_, fun z hz => ?_⟩
    · rcases Int.le_total x (maxI (y :: r)) with h | h
      · rw [Int.max_eq_right h]; exact List.mem_cons_of_mem _ h1
      · rw [Int.max_eq_left h]; exact List.mem_cons_self
    · rcases List.mem_cons.mp hz with rfl | hz
      · exact Int.le_max_left _ _
      · exact Int.le_trans (h2 z hz) (Int.le_max_right _ _)
theorem minI_mem : ∀ {l : List Int}, l ≠ [] → minI l ∈ l ∧ ∀ y ∈ l, minI l ≤ y
  | [], h => absurd rfl h
  | [x], _ => ⟨by simp [minI], by simp [minI]⟩
  | x :: y :: r, _ => by
    obtain ⟨h1, h2⟩ := minI_mem (l := y :: r) (by simp)
    have e : minI (x :: y :: r) = min x (minI (y :: r)) := rfl
    rw [e]
    refine ⟨?_, fun z hz => ?_⟩
    · rcases Int.le_total x (minI (y :: r)) with h | h
      · rw [Int.min_eq_left h]; exact List.mem_cons_self
      · rw [Int.min_eq_right h]; exact List.mem_cons_of_mem _ h1
    · rcases List.mem_cons.mp hz with rfl | hz
      · exact Int.min_le_left _ _
      · exact Int.le_trans (Int.min_le_right _ _) (h2 z hz)
theorem insI_perm (x : Int) : ∀ l : List Int, (insI x l).Perm (x :: l)
  | [] => .refl _
  | y :: r => by
    unfold insI
    split
    · exact .refl _
    · exact ((insI_perm x r).cons y).trans (List.Perm.swap x y r)
theorem sortI_perm : ∀ l : List Int, (sortI l).Perm l
  | [] => .refl _
  | x :: r => (insI_perm x (sortI r)).trans ((sortI_perm r).cons x)
theorem insI_sorted (x : Int) : ∀ {l : List Int}, l.Pairwise (· ≤ ·) → (insI x l).Pairwise (· ≤ ·)
  | [], _ => by simp [insI]
  | y :: r, h => by
    rw [List.pairwise_cons] at h
    unfold insI
    split
    · rename_i c
      rw [List.pairwise_cons]
      refine ⟨fun z hz => ?_, List.pairwise_cons.mpr h⟩
      rcases List.mem_cons.mp hz with rfl | hz
      · exact c
      · exact Int.le_trans c (h.1 z hz)
    · rename_i c
      rw [List.pairwise_cons]
      refine ⟨fun z hz => ?_, insI_sorted x h.2⟩
      rcases List.mem_cons.mp ((insI_perm x r).mem_iff.mp hz) with rfl | hz
      · omega
      · exact h.1 z hz
theorem sortI_sorted : ∀ l : List Int, (sortI l).Pairwise (· ≤ ·)
  | [] => .nil
  | x :: r => insI_sorted x (sortI_sorted r)
theorem sorted_uniq : ∀ {a b : List Int}, a.Perm b → a.Pairwise (· ≤ ·) → b.Pairwise (· ≤ ·) → a = b
  | [], b, p, _, _ => (List.nil_perm.mp p).symm
  | x :: a, [], p, _, _ => absurd p.symm (by simp)
  | x :: a, y :: b, p, h1, h2 => by
    rw [List.pairwise_cons] at h1 h2
    have hx : x ∈ y :: b := p.mem_iff.mp List.mem_cons_self
    have hy : y ∈ x :: a := p.mem_iff.mpr List.mem_cons_self
    have e : x = y := by
      rcases List.mem_cons.mp hx with h | h
      · exact h
      · rcases List.mem_cons.mp hy with h' | h'
        · exact h'.symm
        · have := h1.1 y h'
          have := h2.1 x h
          omega
    subst e
    rw [sorted_uniq (List.perm_cons x |>.mp p) h1.2 h2.2]
theorem keys_of {K : PySem.W.Frag} {av : Addr → Prop} {H : Hp} : ∀ {ks : List (Key × V)} {kvs : List (D × D)}, DenKs K av H ks kvs → Dens K av H (ks.map fun kv => kV kv.1) (kvs.map (·.1))
  | _, _, .nil => .nil
  | _, _, .cons (k := k) a b => by
    refine .cons ?_ (keys_of b)
    cases k
    · exact .int _
    · exact .str _
theorem keys_ints {K : PySem.W.Frag} {av : Addr → Prop} {H : Hp} : ∀ {ks : List (Key × V)} {kvs : List (D × D)} {l : List Int}, DenKs K av H ks kvs → allInts (kvs.map (·.1)) = some l → ks.map (·.1) = l.map Sum.inl
  | _, _, l, .nil, h => by cases h; rfl
  | _, _, l, .cons (k := k) a b, h => by
    cases k with
    | inl i =>
      rw [List.map_cons] at h
      simp only [keyOf, allInts] at h
      obtain ⟨r, h1, rfl⟩ := Option.map_eq_some_iff.mp h
      rw [List.map_cons, keys_ints b h1]; rfl
    | inr x => rw [List.map_cons] at h; simp only [keyOf, allInts, reduceCtorEq] at h

def bltV : Blt → Value
  | .len => .builtin "len"
  | .int => .type "int"
  | .abs => .builtin "abs"
  | .sum => .builtin "sum"
  | .max => .builtin "max"
  | .min => .builtin "min"
  | .all => .builtin "all"
  | .any => .builtin "any"
  | .tuple => .type "tuple"
  | .list => .type "list"
  | .sorted => .builtin "sorted"
  | .str => .type "str"
  | .dict => .type "dict"
  | .isi _ => .builtin "isinstance"
theorem cl_len (hc : X.calm = true) : CallR X (.builtin "len") (RCl X.K (bltD .len)) := by
  intro pins s σ H vs us Q I r h
  obtain ⟨a1, ds, d, hd, hf, q⟩ := h
  match ds, hf with
  | [.list xs], hf =>
    cases hf
    obtain ⟨v, a0, rfl, hv⟩ := denA1 hd
    obtain ⟨a, us', rfl, ra, da⟩ := d2_lst hv
    refine call_len pins s σ H _ _ Q I r ⟨_, us'.length, rfl, .inl ⟨us', ra, rfl⟩, ?_⟩
    rw [da.length]; exact q _ _ (Same.refl H) fr_int
  | [.tuple xs], hf =>
    cases hf
    obtain ⟨v, a0, rfl, hv⟩ := denA1 hd
    obtain ⟨a, us', rfl, ra, da⟩ := d2_tup hv
    refine call_len pins s σ H _ _ Q I r ⟨_, us'.length, rfl, .inr ⟨us', ra, rfl⟩, ?_⟩
    rw [da.length]; exact q _ _ (Same.refl H) fr_int
  | [.str z], hf =>
    simp only [bltD] at hf
    split at hf
    · rename_i hl
      cases hf
      obtain ⟨v, a0, rfl, hv⟩ := denA1 hd
      obtain rfl := d2_str hv
      exact call_len pins s σ H _ _ Q I r ⟨_, z.length, rfl, ⟨line_le hl, rfl⟩, q _ _ (Same.refl H) fr_int⟩
    · cases hf
  | [.dict kvs], hf =>
    cases hf
    obtain ⟨v, a0, rfl, hv⟩ := denA1 hd
    obtain ⟨a, us', rfl, ra, da⟩ := d2_dct hv
    rw [Vals.ref1 r]
    refine d_len I ra fun t s' I' => ⟨.int _, H, I', ⟨_, rfl⟩, ?_⟩
    rw [da.length]; exact q _ _ (Same.refl H) fr_int
theorem cl_int : CallR X (.type "int") (RCl X.K (bltD .int)) := by
  intro pins s σ H vs us Q I r h
  obtain ⟨a1, ds, d, hd, hf, q⟩ := h
  match ds, hf with
  | [.int i], hf =>
    cases hf
    obtain ⟨v, a0, rfl, hv⟩ := denA1 hd
    obtain rfl := d2_int hv
    exact call_int1 pins s σ H _ _ Q I r (.inl ⟨i, rfl, q _ _ (Same.refl H) fr_int⟩)
  | [.bool b], hf =>
    cases hf
    obtain ⟨v, a0, rfl, hv⟩ := denA1 hd
    obtain rfl := d2_bool hv
    exact call_int1 pins s σ H _ _ Q I r (.inr ⟨b, rfl, q _ _ (Same.refl H) fr_int⟩)
theorem cl_abs : CallR X (.builtin "abs") (RCl X.K (bltD .abs)) := by
  intro pins s σ H vs us Q I r h
  obtain ⟨a1, ds, d, hd, hf, q⟩ := h
  match ds, hf with
  | [.int i], hf =>
    cases hf
    obtain ⟨v, a0, rfl, hv⟩ := denA1 hd
    obtain rfl := d2_int hv
    exact call_abs pins s σ H _ _ Q I r ⟨i, rfl, q _ _ (Same.refl H) fr_int⟩
theorem cl_sum (hc : X.calm = true) : CallR X (.builtin "sum") (RCl X.K (bltD .sum)) := by
  intro pins s σ H vs us Q I r h
  obtain ⟨a1, ds, d, hd, hf, q⟩ := h
  match ds, hf with
  | [.list xs], hf =>
    obtain ⟨l, h1, rfl⟩ := Option.map_eq_some_iff.mp hf
    obtain ⟨v, a0, rfl, hv⟩ := denA1 hd
    obtain ⟨a, us', rfl, ra, da⟩ := d2_lst hv
    obtain ⟨rfl, _⟩ := allInts_of da h1
    exact cr_sum hc pins s σ H _ _ Q I r ⟨a, l, rfl, ra, q _ _ (Same.refl H) fr_int⟩
theorem ints_ne {xs : List D} {l : List Int} (h : xs = l.map PyData.int) (n : ¬ xs = []) : l ≠ [] := fun z => n (by rw [h, z]; rfl)
theorem cl_max (hc : X.calm = true) : CallR X (.builtin "max") (RCl X.K (bltD .max)) := by
  intro pins s σ H vs us Q I r h
  obtain ⟨a1, ds, d, hd, hf, q⟩ := h
  match ds, hf with
  | [.int i, .int j], hf =>
    cases hf
    obtain ⟨v, w, a0, b0, rfl, hv, hw⟩ := denA2 hd
    obtain rfl := d2_int hv
    obtain rfl := d2_int hw
    exact call_max2 hc pins s σ H _ _ Q I r ⟨i, j, rfl, q _ _ (Same.refl H) fr_int⟩
  | [.list xs], hf =>
    simp only [bltD] at hf
    split at hf
    · cases hf
    · rename_i hne
      obtain ⟨l, h1, rfl⟩ := Option.map_eq_some_iff.mp hf
      obtain ⟨v, a0, rfl, hv⟩ := denA1 hd
      obtain ⟨a, us', rfl, ra, da⟩ := d2_lst hv
      obtain ⟨rfl, e2⟩ := allInts_of da h1
      have hl := ints_ne e2 hne
      obtain ⟨m1, m2⟩ := maxI_mem hl
      refine cr_max hc pins s σ H _ _ Q I r ⟨a, l, rfl, ra, List.length_pos_iff.mpr hl, fun m k1 k2 => ?_⟩
      have e : m = maxI l := Int.le_antisymm (m2 m k1) (k2 _ m1)
      rw [e]; exact q _ _ (Same.refl H) fr_int
theorem cl_min (hc : X.calm = true) : CallR X (.builtin "min") (RCl X.K (bltD .min)) := by
  intro pins s σ H vs us Q I r h
  obtain ⟨a1, ds, d, hd, hf, q⟩ := h
  match ds, hf with
  | [.int i, .int j], hf =>
    cases hf
    obtain ⟨v, w, a0, b0, rfl, hv, hw⟩ := denA2 hd
    obtain rfl := d2_int hv
    obtain rfl := d2_int hw
    exact call_min2 hc pins s σ H _ _ Q I r ⟨i, j, rfl, q _ _ (Same.refl H) fr_int⟩
  | [.list xs], hf =>
    simp only [bltD] at hf
    split at hf
    · cases hf
    · rename_i hne
      obtain ⟨l, h1, rfl⟩ := Option.map_eq_some_iff.mp hf
      obtain ⟨v, a0, rfl, hv⟩ := denA1 hd
      obtain ⟨a, us', rfl, ra, da⟩ := d2_lst hv
      obtain ⟨rfl, e2⟩ := allInts_of da h1
      have hl := ints_ne e2 hne
      obtain ⟨m1, m2⟩ := minI_mem hl
      refine cr_min hc pins s σ H _ _ Q I r ⟨a, l, rfl, ra, List.length_pos_iff.mpr hl, fun m k1 k2 => ?_⟩
      have e : m = minI l := Int.le_antisymm (k2 _ m1) (m2 m k1)
      rw [e]; exact q _ _ (Same.refl H) fr_int
theorem cl_all (hc : X.calm = true) : CallR X (.builtin "all") (RCl X.K (bltD .all)) := by
  intro pins s σ H vs us Q I r h
  obtain ⟨a1, ds, d, hd, hf, q⟩ := h
  match ds, hf with
  | [.list xs], hf =>
    obtain ⟨l, h1, rfl⟩ := Option.map_eq_some_iff.mp hf
    obtain ⟨v, a0, rfl, hv⟩ := denA1 hd
    obtain ⟨a, us', rfl, ra, da⟩ := d2_lst hv
    obtain rfl := allBools_of da h1
    exact cr_all hc pins s σ H _ _ Q I r ⟨a, l, rfl, ra, q _ _ (Same.refl H) fr_bool⟩
theorem cl_any (hc : X.calm = true) : CallR X (.builtin "any") (RCl X.K (bltD .any)) := by
  intro pins s σ H vs us Q I r h
  obtain ⟨a1, ds, d, hd, hf, q⟩ := h
  match ds, hf with
  | [.list xs], hf =>
    obtain ⟨l, h1, rfl⟩ := Option.map_eq_some_iff.mp hf
    obtain ⟨v, a0, rfl, hv⟩ := denA1 hd
    obtain ⟨a, us', rfl, ra, da⟩ := d2_lst hv
    obtain rfl := allBools_of da h1
    exact cr_any hc pins s σ H _ _ Q I r ⟨a, l, rfl, ra, q _ _ (Same.refl H) fr_bool⟩
theorem cl_tuple : CallR X (.type "tuple") (RCl X.K (bltD .tuple)) := by
  intro pins s σ H vs us Q I r h
  obtain ⟨a1, ds, d, hd, hf, q⟩ := h
  match ds, hf with
  | [.list xs], hf =>
    cases hf
    obtain ⟨v, a0, rfl, hv⟩ := denA1 hd
    obtain ⟨a, us', rfl, ra, da⟩ := d2_lst hv
    exact call_tuple_of pins s σ H _ _ Q I r ⟨a, us', rfl, .inl ⟨ra, fun p hp => q _ _ (same_upd hp) (new_tup hp da)⟩⟩
  | [.tuple xs], hf =>
    cases hf
    obtain ⟨v, a0, rfl, hv⟩ := denA1 hd
    obtain ⟨a, us', rfl, ra, da⟩ := d2_tupH hv
    exact call_tuple_of pins s σ H _ _ Q I r ⟨a, us', rfl, .inr ⟨.inl (.inl ra), q _ _ (Same.refl H) (Den.tuple ra da)⟩⟩
theorem cl_list (hc : X.calm = true) : CallR X (.type "list") (RCl X.K (bltD .list)) := by
  intro pins s σ H vs us Q I r h
  obtain ⟨a1, ds, d, hd, hf, q⟩ := h
  match ds, hf with
  | [.list xs], hf =>
    cases hf
    obtain ⟨v, a0, rfl, hv⟩ := denA1 hd
    obtain ⟨a, us', rfl, ra, da⟩ := d2_lst hv
    exact call_list_of pins s σ H _ _ Q I r ⟨a, us', rfl, .inl ra, fun p hp => q _ _ (same_upd hp) (new_lst hp da)⟩
  | [.tuple xs], hf =>
    cases hf
    obtain ⟨v, a0, rfl, hv⟩ := denA1 hd
    obtain ⟨a, us', rfl, ra, da⟩ := d2_tup hv
    exact call_list_of pins s σ H _ _ Q I r ⟨a, us', rfl, .inr ra, fun p hp => q _ _ (same_upd hp) (new_lst hp da)⟩
theorem cl_sorted (hc : X.calm = true) : CallR X (.builtin "sorted") (RCl X.K (bltD .sorted)) := by
  intro pins s σ H vs us Q I r h
  obtain ⟨a1, ds, d, hd, hf, q⟩ := h
  match ds, hf with
  | [.list xs], hf =>
    obtain ⟨l, h1, rfl⟩ := Option.map_eq_some_iff.mp hf
    obtain ⟨v, a0, rfl, hv⟩ := denA1 hd
    obtain ⟨a, us', rfl, ra, da⟩ := d2_lst hv
    obtain ⟨rfl, _⟩ := allInts_of da h1
    refine cr_sortedI pins s σ H _ _ Q I r ⟨a, l, rfl, ra, fun ns' p k1 k2 hp => ?_⟩
    rw [sorted_uniq (k1.trans (sortI_perm l).symm) k2 (sortI_sorted l)]
    exact q _ _ (same_upd hp) (new_lst hp (dens_ints _))
  | [.dict kvs], hf =>
    simp only [bltD] at hf
    split at hf
    · rename_i h64
      obtain ⟨l, h1, rfl⟩ := Option.map_eq_some_iff.mp hf
      obtain ⟨v, a0, rfl, hv⟩ := denA1 hd
      obtain ⟨a, us', rfl, ra, da⟩ := d2_dct hv
      have e := keys_ints da h1
      refine call_sortedDI hc pins s σ H _ _ Q I r ⟨a, us', l, rfl, ra, e, ?_, fun ns' p k1 k2 hp => ?_⟩
      · have := congrArg List.length e
        rw [List.length_map, List.length_map, da.length] at this
        omega
      · rw [sorted_uniq (k1.trans (sortI_perm l).symm) k2 (sortI_sorted l)]
        exact q _ _ (same_upd hp) (new_lst hp (dens_ints _))
    · cases hf
theorem cl_str : CallR X (.type "str") (RCl X.K (bltD .str)) := by
  intro pins s σ H vs us Q I r h
  obtain ⟨a1, ds, d, hd, hf, q⟩ := h
  match ds, hf with
  | [.int i], hf =>
    simp only [bltD] at hf
    split at hf
    · rename_i hl
      cases hf
      obtain ⟨v, a0, rfl, hv⟩ := denA1 hd
      obtain rfl := d2_int hv
      exact call_str_int pins s σ H _ _ Q I r ⟨i, rfl, hl, q _ _ (Same.refl H) fr_str⟩
    · cases hf
theorem cl_dict : CallR X (.type "dict") (RCl X.K (bltD .dict)) := by
  intro pins s σ H vs us Q I r h
  obtain ⟨a1, ds, d, hd, hf, q⟩ := h
  match ds, hf with
  | [.dict kvs], hf =>
    cases hf
    obtain ⟨v, a0, rfl, hv⟩ := denA1 hd
    obtain ⟨a, us', rfl, ra, da⟩ := d2_dct hv
    rw [Vals.ref1 r]
    exact d_copyOf I ra fun p s' hp I' => ⟨.ref p, _, I', rfl, q _ _ (same_upd hp) (new_dct hp da)⟩

/-! isinstance -/
def tyN : Nat → String
  | 0 => "int"
  | 1 => "bool"
  | 2 => "str"
  | 3 => "tuple"
  | _ => "list"
def RIsi (K : PySem.W.Frag) (T : Nat) : List V → Hp → VK → Prop := fun vs H Q => ∃ v a0 a1 x b, vs = [v, .ty (tyN T)] ∧ Den2 K a0 a1 H v x ∧ isiD T x = some b ∧ Q (.bl b) H
theorem kitInt (K : PySem.W.Frag) : ∀ T : Nat, T < 5 → PySem.W.kitOne K (.type "int") (.type (tyN T)) = some (T == 0)
  | 0, _ => kit_ty (by decide +kernel)
  | 1, _ => kit_ty (by decide +kernel)
  | 2, _ => kit_ty (by decide +kernel)
  | 3, _ => kit_ty (by decide +kernel)
  | 4, _ => kit_ty (by decide +kernel)
theorem kitBool (K : PySem.W.Frag) : ∀ T : Nat, T < 5 → PySem.W.kitOne K (.type "bool") (.type (tyN T)) = some (T == 0 || T == 1)
  | 0, _ => kit_ty (by decide +kernel)
  | 1, _ => kit_ty (by decide +kernel)
  | 2, _ => kit_ty (by decide +kernel)
  | 3, _ => kit_ty (by decide +kernel)
  | 4, _ => kit_ty (by decide +kernel)
theorem kitStr (K : PySem.W.Frag) : ∀ T : Nat, T < 5 → PySem.W.kitOne K (.type "str") (.type (tyN T)) = some (T == 2)
  | 0, _ => kit_ty (by decide +kernel)
  | 1, _ => kit_ty (by decide +kernel)
  | 2, _ => kit_ty (by decide +kernel)
  | 3, _ => kit_ty (by decide +kernel)
  | 4, _ => kit_ty (by decide +kernel)
theorem kitTup (K : PySem.W.Frag) : ∀ T : Nat, T < 5 → PySem.W.kitOne K (.type "tuple") (.type (tyN T)) = some (T == 3)
  | 0, _ => kit_ty (by decide +kernel)
  | 1, _ => kit_ty (by decide +kernel)
  | 2, _ => kit_ty (by decide +kernel)
  | 3, _ => kit_ty (by decide +kernel)
  | 4, _ => kit_ty (by decide +kernel)
theorem kitLst (K : PySem.W.Frag) : ∀ T : Nat, T < 5 → PySem.W.kitOne K (.type "list") (.type (tyN T)) = some (T == 4)
  | 0, _ => kit_ty (by decide +kernel)
  | 1, _ => kit_ty (by decide +kernel)
  | 2, _ => kit_ty (by decide +kernel)
  | 3, _ => kit_ty (by decide +kernel)
  | 4, _ => kit_ty (by decide +kernel)
theorem kitNon (K : PySem.W.Frag) : ∀ T : Nat, T < 5 → PySem.W.kitOne K (.type "NoneType") (.type (tyN T)) = some false
  | 0, _ => kit_ty (by decide +kernel)
  | 1, _ => kit_ty (by decide +kernel)
  | 2, _ => kit_ty (by decide +kernel)
  | 3, _ => kit_ty (by decide +kernel)
  | 4, _ => kit_ty (by decide +kernel)
theorem cl_isi {T : Nat} (hT : T < 5) : CallR X (.builtin "isinstance") (RIsi X.K T) := by
  intro pins s σ H vs us Q I r h
  obtain ⟨v, a0, a1, x, b, rfl, hx, hb, q⟩ := h
  have go : ∀ {t : Value}, TyX X.K H v t → PySem.W.kitOne X.K t (.type (tyN T)) = some b → wpAny (model X.prog X.w) X.A (call (.builtin "isinstance") us) (EP X pins σ Q) X.xe s := fun {t} ty k =>
    call_isi pins s σ H _ _ Q I r ⟨v, .ty (tyN T), t, .type (tyN T), b, rfl, .ty _, ty, k, q⟩
  cases x <;> simp only [isiD, Option.some.injEq, reduceCtorEq] at hb
  · subst hb; obtain rfl := d2_none hx; exact go (.base .non) (kitNon _ T hT)
  · subst hb; obtain rfl := d2_bool hx; exact go (.base (.bl _)) (kitBool _ T hT)
  · subst hb; obtain rfl := d2_int hx; exact go (.base (.int _)) (kitInt _ T hT)
  · subst hb; obtain rfl := d2_str hx; exact go (.base (.str _)) (kitStr _ T hT)
  · subst hb
    obtain ⟨a, xs, rfl, h, _⟩ := d2_lst hx
    rcases h with (h | ⟨o, h⟩) | ⟨o, its, n, h, c, _⟩
    · exact go (.base (.lst h)) (kitLst _ T hT)
    · exact go (.base (.frz h)) (kitLst _ T hT)
    · exact go (.kList h c) (kitLst _ T hT)
  · subst hb
    obtain ⟨a, xs, rfl, h, _⟩ := d2_tup hx
    rcases h with (h | ⟨o, h⟩) | ⟨o, its, n, h, c, _⟩
    · exact go (.base (.tup h)) (kitTup _ T hT)
    · exact go (.fTuple h) (kitTup _ T hT)
    · exact go (.kTuple h c) (kitTup _ T hT)

/-! ### methods -/
def RMt (K : PySem.W.Frag) (m : Mth) : V → List V → Hp → VK → Prop := fun v vs H Q => ∃ z, v = .str z ∧ ∃ d, vs = [] ∧ strM m z = some d ∧ ∀ w, Den K (fun _ => False) H w d → Q w H
theorem Den.flat2 {K : PySem.W.Frag} {av av' : Addr → Prop} {H H' : Hp} {v : V} {d : D} (h : Den K av H v d) (f : flatD d = true) : Den K av' H' v d := by
  cases h with
  | none => exact .none
  | bool b => exact .bool b
  | int b => exact .int b
  | str b => exact .str b
  | _ => cases f
theorem strM_flat {m : Mth} {z : Str} {d : D} (h : strM m z = some d) : flatD d = true := by
  cases m <;> simp only [strM, reduceCtorEq, Option.some.injEq] at h
  · subst h; rfl
  · subst h; rfl
  · split at h
    · cases h; rfl
    · cases h
  · split at h
    · cases h; rfl
    · cases h
  · split at h
    · cases h; rfl
    · cases h
def mthN : Mth → Str
  | .get => "get"
  | .bits => "bit_length"
  | .isalpha => "isalpha"
  | .islower => "islower"
  | .lower => "lower"
  | .upper => "upper"
  | .swapcase => "swapcase"
  | .join => "join"
theorem mt_isalphaD : MtR X "str.isalpha" (RMt X.K .isalpha) := by
  intro pins s σ H x xs v us Q I rx rs h
  obtain ⟨z, rfl, d, rfl, hd, q⟩ := h
  cases hd
  exact mt_isalpha pins s σ H _ _ _ _ Q I rx rs ⟨z, rfl, rfl, trivial, q _ (.bool _)⟩
theorem mt_islowerD : MtR X "str.islower" (RMt X.K .islower) := by
  intro pins s σ H x xs v us Q I rx rs h
  obtain ⟨z, rfl, d, rfl, hd, q⟩ := h
  cases hd
  obtain ⟨t, rfl⟩ := rx
  cases rs
  exact PySem.SC.islower ⟨.bl _, H, I, rfl, q _ (.bool _)⟩
theorem mt_lowerD : MtR X "str.lower" (RMt X.K .lower) := by
  intro pins s σ H x xs v us Q I rx rs h
  obtain ⟨z, rfl, d, rfl, hd, q⟩ := h
  simp only [strM] at hd
  split at hd
  · rename_i hl
    cases hd
    exact mt_lower pins s σ H _ _ _ _ Q I rx rs ⟨z, rfl, rfl, Nat.le_trans hl (by decide), q _ (.str _)⟩
  · cases hd
theorem mt_upperD : MtR X "str.upper" (RMt X.K .upper) := by
  intro pins s σ H x xs v us Q I rx rs h
  obtain ⟨z, rfl, d, rfl, hd, q⟩ := h
  simp only [strM] at hd
  split at hd
  · rename_i hl
    cases hd
    exact mt_upper pins s σ H _ _ _ _ Q I rx rs ⟨z, rfl, rfl, Nat.le_trans hl (by decide), q _ (.str _)⟩
  · cases hd
theorem mt_swapcaseD : MtR X "str.swapcase" (RMt X.K .swapcase) := by
  intro pins s σ H x xs v us Q I rx rs h
  obtain ⟨z, rfl, d, rfl, hd, q⟩ := h
  simp only [strM] at hd
  split at hd
  · rename_i hl
    cases hd
    obtain ⟨t, rfl⟩ := rx
    cases rs
    exact PyProof.Rows.SCL.swapcase (Nat.le_trans hl (by decide)) fun _ => ⟨.str _, H, I.tok _, ⟨_, rfl⟩, q _ (.str _)⟩
  · cases hd
/-- o.m() of a text -/
theorem pe_str0 {o : Expr} {to : L2.TE} {apos pos : Pos} (m : Mth) (hm : m ≠ .get ∧ m ≠ .bits ∧ m ≠ .join) (ho : PE X o to) (hbase : attributeBase o (mthN m) X.env (eval o X.env) = eval o X.env) (hline : (apos.endLine == pos.line) = true) :
    PE X (.Call (.Attribute o (mthN m) apos) [] [] pos) (tM0 (RMt X.K m) to) := by
  cases m with
  | get => exact absurd rfl hm.1
  | bits => exact absurd rfl hm.2.1
  | join => exact absurd rfl hm.2.2
  | isalpha => exact pe_m0 PySem.F.slot_str_isalpha PySem.F.type_str_isalpha mt_isalphaD ho hbase hline
  | islower => exact pe_m0 PySem.F.slot_str_islower PySem.F.type_str_islower mt_islowerD ho hbase hline
  | lower => exact pe_m0 PySem.F.slot_str_lower PySem.F.type_str_lower mt_lowerD ho hbase hline
  | upper => exact pe_m0 PySem.F.slot_str_upper PySem.F.type_str_upper mt_upperD ho hbase hline
  | swapcase => exact pe_m0 PySem.F.slot_str_swapcase PySem.F.type_str_swapcase mt_swapcaseD ho hbase hline
end
end
end Rf

set_option Elab.async false
set_option linter.all false
set_option maxRecDepth 100000
set_option maxHeartbeats 1000000
/-! Rf, part E: expressions. -/
namespace Rf
noncomputable section
open PySem PySem.Spec PyProof.Rows L2

def sub : Nat → Nat
  | 0 => 0
  | _ => 1
theorem av1_sub {P : Pk} {e : Sl} {σ : L2.St} (m : Nat) : av1 P e σ (sub m) = av1 P e σ m := by cases m <;> rfl
def PostN (P : Pk) (e : Sl) (σ : L2.St) (m : Nat) (H : Hp) (Q : VK) : Res D → Prop
  | .ok d => ∀ v H', Same H H' → Fr2 P.K (av1 P e σ m) H v H' d → Q v H'
  | .ex c => ∀ H', Same H H' → P.W (.ref (P.ca c)) none σ H'
  | .stuck => False
/-- a value whose list or dict is new -/
def liftN (P : Pk) (m : Nat) (f : Sl → Res D) : L2.TE := fun σ H Q => ∃ e, Rel P e σ H ∧ PostN P e σ m H Q (f e)

structure Gd {β : Type} (P : Pk) (σ : L2.St) (Z : Hp → Res β → Prop) : Prop where
  back : ∀ {H H' : Hp} {r : Res β}, Same H H' → Z H r → Z H' r
  ex : ∀ {H : Hp} {c : Nat}, Z H (.ex c) → ∀ H', Same H H' → P.W (.ref (P.ca c)) none σ H'
  no : ∀ {H : Hp}, Z H .stuck → False
section
variable {P : Pk} {e : Sl} {σ : L2.St} {H H' : Hp} {m n k : Nat} {Q : VK}
theorem gdPost : Gd P σ (fun H r => Post P e σ m H Q r) := ⟨fun s h => Post.back s h, fun h => h, fun h => h⟩
theorem gdPostN : Gd P σ (fun H r => PostN P e σ m H Q r) := ⟨fun {H H' r} s h => match r, h with
  | .ok _, h => fun v H2 s2 d => h v H2 (s.trans s2) (d.back s)
  | .ex _, h => fun H2 s2 => h H2 (s.trans s2)
  | .stuck, h => h, fun h => h, fun h => h⟩
theorem gdPostT {Q : Bool → Hp → Prop} : Gd P σ (fun H r => PostT P σ H Q r) := ⟨fun {H H' r} s h => match r, h with
  | .ok (.bool _), h => fun H2 s2 => h H2 (s.trans s2)
  | .ok .none, h => h
  | .ok (.int _), h => h
  | .ok (.str _), h => h
  | .ok (.list _), h => h
  | .ok (.tuple _), h => h
  | .ok (.dict _), h => h
  | .ex _, h => fun H2 s2 => h H2 (s.trans s2)
  | .stuck, h => h, fun h => h, fun h => h⟩
theorem gdPosts {Q : List V → Hp → Prop} : Gd P σ (fun H r => Posts P e σ m H Q r) := ⟨fun {H H' r} s h => match r, h with
  | .ok _, h => fun v H2 s2 d => h v H2 (s.trans s2) d
  | .ex _, h => fun H2 s2 => h H2 (s.trans s2)
  | .stuck, h => h, fun h => h, fun h => h⟩
theorem PostN.post (R : Rel P e σ H) : ∀ {r : Res D}, Post P e σ m H Q r → PostN P e σ m H Q r
  | .ok _, h => fun v H' s d => h v H' s (d.two fun a z => by
    match m with
    | 0 => exact R.av_ne (.inl z)
    | 1 => exact R.av_ne (.inl z)
    | _ + 2 => exact R.av_ne z)
  | .ex _, h => h
  | .stuck, h => h
theorem PE.new {X : Cx} {ex : Expr} {f : Sl → Res D} (h : PE X ex (liftN P m f)) : PE X ex (lift P m f) := PE.imp h fun σ H Q ⟨e, R, p⟩ => ⟨e, R, PostN.post R p⟩
theorem PE.own {X : Cx} {ex : Expr} {f : Sl → Res D} (h : PE X ex (liftN P 2 f)) : PE X ex (liftL P f) := PE.imp h fun σ H Q ⟨e, R, p⟩ => ⟨e, R, by
  cases q : f e with
  | ok d =>
    rw [q] at p
    cases d with
    | list ds => intro v H' s ⟨a, xs, h1, h2, h3, h4⟩; subst h1; exact p a H' xs s h2 h3 h4
    | dict ds => intro v H' s ⟨a, xs, h1, h2, h3, h4⟩; subst h1; exact p a H' xs s h2 h3 h4
    | _ => exact p.elim
  | ex c => rw [q] at p; exact p
  | stuck => rw [q] at p; exact p⟩
theorem PE.mode {X : Cx} {ex : Expr} {f : Sl → Res D} (h : PE X ex (lift P 2 f)) : PE X ex (lift P m f) := PE.imp h fun σ H Q ⟨e, R, p⟩ => ⟨e, R, Post.mode (fun H v d hd => hd.d2.mm) p⟩
/-- an operand is evaluated -/
theorem bindZ {α : Type} {β : Type} {Z : Hp → Res β → Prop} (gd : Gd P σ Z) (R : Rel P e σ H) {F : D → Res β} {r : Res D} (h : Z H (r.bind F)) :
    Post P e σ m H (fun v H1 => ∃ x, r = .ok x ∧ Same H H1 ∧ Rel P e σ H1 ∧ DenM P e σ m H1 v x ∧ Z H1 (F x)) r := by
  cases r with
  | ok x => exact fun v H1 s d => ⟨x, rfl, s, R.same s, d, gd.back s h⟩
  | ex c => exact gd.ex h
  | stuck => exact gd.no h
theorem bindZs {β : Type} {Z : Hp → Res β → Prop} (gd : Gd P σ Z) (R : Rel P e σ H) {F : List D → Res β} {r : Res (List D)} (h : Z H (r.bind F)) :
    Posts P e σ m H (fun v H1 => ∃ x, r = .ok x ∧ Same H H1 ∧ Rel P e σ H1 ∧ DenMs P e σ m H1 v x ∧ Z H1 (F x)) r := by
  cases r with
  | ok x => exact fun v H1 s d => ⟨x, rfl, s, R.same s, d, gd.back s h⟩
  | ex c => exact gd.ex h
  | stuck => exact gd.no h
end

/-- the facts of a body's context -/
structure Ctx (X : Cx) (P : Pk) (N : List Str) (sc : Scope) : Prop where
  hK : X.K = P.K
  hN : X.N = N
  nd : N.Nodup
  hs : X.env.scope = sc
  calm : X.calm = true
  un : X.A.units + 190 < cLine
  tk : Takes X P.W
  po : PassesOwn (model X.prog X.w) X.A X.env X.xe
theorem evs_len {Φ : FT} {e : Sl} : ∀ {ES : List Exp} {xs : List D}, evs Φ ES e = .ok xs → xs.length = ES.length
  | [], xs, h => by simp only [evs, Res.ok.injEq] at h; subst h; rfl
  | A :: ES, xs, h => by
    simp only [evs] at h
    cases q : ev Φ A e with
    | ok d =>
      rw [q] at h
      cases q2 : evs Φ ES e with
      | ok ys =>
        simp only [Res.bind_ok, q2, Res.ok.injEq] at h
        subst h
        rw [List.length_cons, List.length_cons, evs_len q2]
      | ex c => simp [q2] at h
      | stuck => simp [q2] at h
    | ex c => rw [q] at h; simp at h
    | stuck => rw [q] at h; simp at h
theorem noLsts_append : ∀ {xs ys : List D}, noLsts xs = true → noLsts ys = true → noLsts (xs ++ ys) = true
  | [], _, _, h => h
  | x :: xs, ys, h, h2 => by
    simp only [noLsts, Bool.and_eq_true] at h
    simp only [List.cons_append, noLsts, Bool.and_eq_true]
    exact ⟨h.1, noLsts_append h.2 h2⟩
/-- what a def promises -/
def spP (K : PySem.W.Frag) (ca : Nat → Addr) (φ : FT) (f : Nat) : L2.Sp := fun vs H Q E => ∃ (av : Addr → Prop) (ds : List D), (∀ a, av a → H a ≠ none) ∧ Dens K av H vs ds ∧ match φ f ds with
  | .ok d => ∀ v H', Same H H' → Den K av H' v d → Q v H'
  | .ex c => ∀ H', Same H H' → E (.ref (ca c)) none H'
  | .stuck => False
/-- a def that may be called -/
structure Fn1 (pr : Program) (w : World) (K : PySem.W.Frag) (mg : Str → Option Value) (base : Heap) (A : Around) (ca : Nat → Addr) (Φ : FT) (x : Str) (f : Nat) : Prop where
  ex : ∃ (k : Nat) (fA : Addr) (fd : FuncData) (ps : List Str), FnOk pr w K mg base (L2.CX pr w) k fA fd ps (spP K ca Φ f) ∧ Room k A ∧ mg x = some (.ref fA) ∧ PySem.W.keepIn K (.ref fA) = true ∧ Binds K fd ps []

section
variable {X : Cx} {P : Pk} {N : List Str} {sc : Scope} {m : Nat} {Φ : FT} {f g : Sl → Res D} {A B E : Exp} {ES : List Exp} {a b c : Expr} {es : List Expr} {pos : Pos}
theorem Ctx.u1 (C : Ctx X P N sc) : X.A.units + 1 < cLine := by have := C.un; omega
theorem DenM.up {e : Sl} {σ : L2.St} {H : Hp} {v : V} {d : D} (h : Den P.K (av1 P e σ m) H v d) : DenM P e σ m H v d := by
  refine Den2.mono (fun a z => ?_) (fun a z => z) h.two
  match m with
  | 0 => exact z
  | 1 => exact .inl z
  | _ + 2 => exact z
/-! names, constants -/
theorem se_var (C : Ctx X P N sc) {i : Nat} {x : Str} (hN : N[i]? = some x) (hv : Vis sc x) (hd : (x == ("__debug__" : Str)) = false := by decide) (hcd : (x == ("__classdict__" : Str)) = false := by decide) : PE X (.Name x pos) (lift P m (ev Φ (.var i))) := by
  refine PE.imp (pe_var (i := i) (by rw [C.hN]; exact hN) (by rw [C.hs]; exact hv) hd hcd) fun σ H Q ⟨e, R, p⟩ => ?_
  simp only [ev] at p
  cases q : e[i]? with
  | none => rw [q] at p; exact p.elim
  | some s =>
    rw [q] at p
    obtain ⟨o, h1, h2⟩ := R.at q
    cases s with
    | d x =>
      obtain ⟨v, rfl, dd⟩ := h2
      exact ⟨v, h1, p v H (Same.refl H) dd.mm⟩
    | _ => exact p.elim
theorem se_vw (C : Ctx X P N sc) {i : Nat} {x : Str} (hN : N[i]? = some x) (hv : Vis sc x) (hm : m ≤ 1) (hd : (x == ("__debug__" : Str)) = false := by decide) (hcd : (x == ("__classdict__" : Str)) = false := by decide) : PE X (.Name x pos) (lift P m (ev Φ (.vw i))) := by
  refine PE.imp (pe_var (i := i) (by rw [C.hN]; exact hN) (by rw [C.hs]; exact hv) hd hcd) fun σ H Q ⟨e, R, p⟩ => ?_
  simp only [ev] at p
  have top : ∀ {a : Addr}, Owns e σ a → ¬ av0 P e σ m a := fun {a} ow z => by
    match m, hm with
    | 0, _ => exact R.own_av ow z
    | 1, _ => exact R.own_av ow z
  have in1 : ∀ a, av1 P e σ m a → avo P e σ a := fun a z => by
    match m with
    | 0 => exact .inl z
    | _ + 1 => exact z
  cases q : e[i]? with
  | none => rw [q] at p; exact p.elim
  | some s =>
    rw [q] at p
    obtain ⟨o, h1, h2⟩ := R.at q
    cases s with
    | d x =>
      obtain ⟨v, rfl, dd⟩ := h2
      exact ⟨v, h1, p v H (Same.refl H) dd.mm⟩
    | ol xs =>
      obtain ⟨a, ys, rfl, ha, dd⟩ := h2
      exact ⟨.ref a, h1, p _ H (Same.refl H) ⟨a, ys, rfl, .inl (.inl ha), .inl (top ⟨i, _, q, rfl, h1⟩), dd.imp (fun _ _ => ⟨id, id⟩) fun a _ => in1 a⟩⟩
    | od xs =>
      obtain ⟨a, ys, rfl, ha, dd⟩ := h2
      exact ⟨.ref a, h1, p _ H (Same.refl H) ⟨a, ys, rfl, .inl ha, top ⟨i, _, q, rfl, h1⟩, dd.imp (fun _ _ => ⟨id, id⟩) fun a _ => in1 a⟩⟩
    | un => exact p.elim
    | ob _ => exact p.elim
    | ot _ => exact p.elim
theorem se_c {v : V} {d : D} (h : PE X a (tC v)) (hd : ∀ (av : Addr → Prop) (H : Hp), Den P.K av H v d) : PE X a (lift P m (ev Φ (.con d))) :=
  PE.imp h fun σ H Q ⟨e, R, p⟩ => by
    simp only [ev] at p
    exact p v H (Same.refl H) (DenM.up (hd _ _))
theorem se_int {i : Int} {j : Nat} : PE X (.Constant (.int i) j pos) (lift P m (ev Φ (.con (.int i)))) := se_c pe_int fun _ _ => .int i
theorem se_bl {i : Bool} {j : Nat} : PE X (.Constant (.bool i) j pos) (lift P m (ev Φ (.con (.bool i)))) := se_c pe_bl fun _ _ => .bool i
theorem se_non {j : Nat} : PE X (.Constant .none j pos) (lift P m (ev Φ (.con .none))) := se_c pe_non fun _ _ => .none
theorem se_str {i : Str} {j : Nat} : PE X (.Constant (.str i) j pos) (lift P m (ev Φ (.con (.str i)))) := se_c pe_str fun _ _ => .str i
theorem se_glob {v : V} {d : D} {u : Value} {x : Str} (hg : X.env.kindOf x = some .globalImplicit) (hm : X.mg x = some u) (r : L2.RelV v u) (hd : ∀ (av : Addr → Prop) (H : Hp), Den P.K av H v d) (hdb : (x == ("__debug__" : Str)) = false := by decide) : PE X (.Name x pos) (lift P m (ev Φ (.con d))) := se_c (pe_glob hg hm r hdb) hd

/-! operations -/
theorem se_bin (C : Ctx X P N sc) (op : BOp) (ha : PE X a (lift P (sub m) (ev Φ A))) (hb : PE X b (lift P (sub m) (ev Φ B))) :
    PE X (.BinOp a (bOp op) b pos) (liftN P m (ev Φ (.bin op A B))) := by
  have o := op_binD (X := X) op
  rw [C.hK] at o
  refine PE.imp (pe_op o ha hb) fun σ H Q ⟨e, R, p⟩ => ⟨e, R, ?_⟩
  simp only [ev] at p
  refine Post.weaken (bindZ (α := D) (m := sub m) gdPostN R p) fun v H1 ⟨x, _, s1, R1, d1, p1⟩ => ⟨e, R1, ?_⟩
  refine Post.weaken (bindZ (α := D) (m := sub m) gdPostN R1 p1) fun w H2 ⟨y, _, s2, R2, d2, p2⟩ => ?_
  cases q : binD op x y with
  | none => rw [q] at p2; exact p2.elim
  | some d =>
    rw [q] at p2
    have d1' := d1.same s2
    unfold DenM at d1' d2
    rw [av1_sub] at d1' d2
    exact ⟨_, _, _, x, y, d, d1', d2, q, fun z H' s hz => p2 z H' s hz⟩
theorem bl_m {e : Sl} {σ : L2.St} {H : Hp} {i : Bool} : DenM P e σ m H (.bl i) (.bool i) := DenM.up (.bool i)
theorem int_m {e : Sl} {σ : L2.St} {H : Hp} {i : Int} : DenM P e σ m H (.int i) (.int i) := DenM.up (.int i)
theorem se_cmp (C : Ctx X P N sc) (op : COp) (ha : PE X a (lift P 0 (ev Φ A))) (hb : PE X b (lift P 0 (ev Φ B))) (hm : behindInMarks (cOp op) b = false) :
    PE X (.Compare a [cOp op] [b] pos) (lift P m (ev Φ (.cmp op A B))) := by
  have o := op_cmpD (X := X) C.un op
  rw [C.hK] at o
  refine PE.imp (pe_cmpR o ha hb hm) fun σ H Q ⟨e, R, p⟩ => ⟨e, R, ?_⟩
  simp only [ev] at p
  refine Post.weaken (bindZ (α := D) (m := 0) gdPost R p) fun v H1 ⟨x, _, s1, R1, d1, p1⟩ => ⟨e, R1, ?_⟩
  refine Post.weaken (bindZ (α := D) (m := 0) gdPost R1 p1) fun w H2 ⟨y, _, s2, R2, d2, p2⟩ => ?_
  cases q : cmpD op x y with
  | none => rw [q] at p2; exact p2.elim
  | some d =>
    rw [q] at p2
    exact ⟨_, _, _, x, y, d, d1.same s2, d2, q, p2 _ H2 (Same.refl _) bl_m⟩
theorem st_cmp (C : Ctx X P N sc) (op : COp) (ha : PE X a (lift P 0 (ev Φ A))) (hb : PE X b (lift P 0 (ev Φ B))) (hm : behindInMarks (cOp op) b = false) :
    PT X (.Compare a [cOp op] [b] pos) (liftT P (ev Φ (.cmp op A B))) := by
  have o := op_cmpD (X := X) C.un op
  rw [C.hK] at o
  refine PT.imp (pt_cmpR o ha hb hm) fun σ H Q ⟨e, R, p⟩ => ⟨e, R, ?_⟩
  simp only [ev] at p
  refine Post.weaken (bindZ (α := D) (m := 0) gdPostT R p) fun v H1 ⟨x, _, s1, R1, d1, p1⟩ => ⟨e, R1, ?_⟩
  refine Post.weaken (bindZ (α := D) (m := 0) gdPostT R1 p1) fun w H2 ⟨y, _, s2, R2, d2, p2⟩ => ?_
  cases q : cmpD op x y with
  | none => rw [q] at p2; exact p2.elim
  | some d =>
    rw [q] at p2
    exact ⟨_, _, _, x, y, d, d1.same s2, d2, q, d, rfl, p2 H2 (Same.refl _)⟩
theorem se_chain (C : Ctx X P N sc) (o1 o2 : COp) (ha : PE X a (lift P 0 (ev Φ A))) (hb : PE X b (lift P 0 (ev Φ B))) (hc : PE X c (lift P 0 (ev Φ E))) (hm : lastMarks [cOp o1, cOp o2] [b, c] = false) :
    PE X (.Compare a [cOp o1, cOp o2] [b, c] pos) (lift P m (ev Φ (.chain o1 o2 A B E))) := by
  have w1 := op_cmpD (X := X) C.un o1
  have w2 := op_cmpD (X := X) C.un o2
  rw [C.hK] at w1 w2
  refine PE.imp (pe_chain w1 w2 ha hb hc hm) fun σ H Q ⟨e, R, p⟩ => ⟨e, R, ?_⟩
  simp only [ev] at p
  refine Post.weaken (bindZ (α := D) (m := 0) gdPost R p) fun v H1 ⟨x, _, s1, R1, d1, p1⟩ => ⟨e, R1, ?_⟩
  refine Post.weaken (bindZ (α := D) (m := 0) gdPost R1 p1) fun w H2 ⟨y, _, s2, R2, d2, p2⟩ => ?_
  cases q : cmpD o1 x y with
  | none => rw [q] at p2; exact p2.elim
  | some k =>
    rw [q] at p2
    refine ⟨_, _, _, x, y, k, d1.same s2, d2, q, k, rfl, ?_⟩
    cases k with
    | false => exact p2 _ H2 (Same.refl _) bl_m
    | true =>
      refine ⟨e, R2, ?_⟩
      refine Post.weaken (bindZ (α := D) (m := 0) gdPost R2 p2) fun u H3 ⟨z, _, s3, R3, d3, p3⟩ => ?_
      cases q3 : cmpD o2 y z with
      | none => rw [q3] at p3; exact p3.elim
      | some d =>
        rw [q3] at p3
        exact ⟨_, _, _, y, z, d, d2.same s3, d3, q3, p3 _ H3 (Same.refl _) bl_m⟩
/-- a bool's value as a test -/
theorem st_val {f : Sl → Res D} (h : PE X a (lift P 2 f)) (he : ∀ whole, PySem.isTrue a X.env whole = (do let v ← whole; standAt a.pos; holding [v] (truthy v)) := by intro _; rfl) : PT X a (liftT P f) :=
  PT.imp (pt_val h he) fun σ H Q ⟨e, R, p⟩ => ⟨e, R, by
    cases q : f e with
    | ok d =>
      rw [q] at p
      cases d with
      | bool k => exact fun v H' s hd => ⟨k, d2_bool hd, p H' s⟩
      | _ => exact p.elim
    | ex c => rw [q] at p; exact p
    | stuck => rw [q] at p; exact p⟩
theorem PostT.weaken {σ : L2.St} {H : Hp} {Q Q' : Bool → Hp → Prop} {r : Res D} (h : PostT P σ H Q r) (w : ∀ k H', Q k H' → Q' k H') : PostT P σ H Q' r := by
  cases r with
  | ok d => cases d with
    | bool k => exact fun H' s => w _ _ (h H' s)
    | _ => exact h.elim
  | ex c => exact h
  | stuck => exact h
/-- a test evaluated -/
theorem bindT' {β : Type} {Z : Hp → Res β → Prop} {e : Sl} {σ : L2.St} {H : Hp} (gd : Gd P σ Z) (R : Rel P e σ H) {F : D → Res β} {r : Res D} (hF : ∀ d, (∀ k, d ≠ .bool k) → F d = .stuck) (h : Z H (r.bind F)) :
    PostT P σ H (fun k H1 => r = .ok (.bool k) ∧ Same H H1 ∧ Rel P e σ H1 ∧ Z H1 (F (.bool k))) r := by
  cases r with
  | ok d =>
    cases d with
    | bool k => exact fun H1 s => ⟨rfl, s, R.same s, gd.back s h⟩
    | none => exact gd.no (by have := hF .none (fun _ z => nomatch z); rw [← this]; exact h)
    | int i => exact gd.no (by have := hF (.int i) (fun _ z => nomatch z); rw [← this]; exact h)
    | str i => exact gd.no (by have := hF (.str i) (fun _ z => nomatch z); rw [← this]; exact h)
    | list i => exact gd.no (by have := hF (.list i) (fun _ z => nomatch z); rw [← this]; exact h)
    | tuple i => exact gd.no (by have := hF (.tuple i) (fun _ z => nomatch z); rw [← this]; exact h)
    | dict i => exact gd.no (by have := hF (.dict i) (fun _ z => nomatch z); rw [← this]; exact h)
  | ex c => exact gd.ex h
  | stuck => exact gd.no h
theorem se_ite (hc : PT X c (liftT P (ev Φ E))) (ha : PE X a (lift P m (ev Φ A))) (hb : PE X b (lift P m (ev Φ B))) : PE X (.IfExp c a b pos) (lift P m (ev Φ (.ite E A B))) := by
  refine PE.imp (pe_ifExp hc ha hb) fun σ H Q ⟨e, R, p⟩ => ⟨e, R, ?_⟩
  simp only [ev] at p
  refine PostT.weaken (bindT' (gdPost (m := m)) R (fun d hd => ?_) p) fun k H1 ⟨_, s, R1, z⟩ => ?_
  · cases d with
    | bool k => exact absurd rfl (hd k)
    | _ => rfl
  · cases k with
    | true => exact ⟨e, R1, z⟩
    | false => exact ⟨e, R1, z⟩
theorem st_and {rest : List Expr} (ha : PT X a (liftT P (ev Φ A))) (hb : PW X (.BoolOp .And (b :: rest) pos) (liftT P (ev Φ B))) : PW X (.BoolOp .And (a :: b :: rest) pos) (liftT P (ev Φ (.and A B))) := by
  refine PW.imp (pw_and ha hb) fun σ H Q ⟨e, R, p⟩ => ⟨e, R, ?_⟩
  simp only [ev] at p
  refine PostT.weaken (bindT' (gdPostT) R (fun d hd => ?_) p) fun k H1 ⟨_, s, R1, z⟩ => ?_
  · cases d with
    | bool k => exact absurd rfl (hd k)
    | _ => rfl
  · cases k with
    | true => exact ⟨e, R1, z⟩
    | false => exact z H1 (Same.refl _)
theorem st_or {rest : List Expr} (ha : PT X a (liftT P (ev Φ A))) (hb : PW X (.BoolOp .Or (b :: rest) pos) (liftT P (ev Φ B))) : PW X (.BoolOp .Or (a :: b :: rest) pos) (liftT P (ev Φ (.or A B))) := by
  refine PW.imp (pw_or ha hb) fun σ H Q ⟨e, R, p⟩ => ⟨e, R, ?_⟩
  simp only [ev] at p
  refine PostT.weaken (bindT' (gdPostT) R (fun d hd => ?_) p) fun k H1 ⟨_, s, R1, z⟩ => ?_
  · cases d with
    | bool k => exact absurd rfl (hd k)
    | _ => rfl
  · cases k with
    | true => exact z H1 (Same.refl _)
    | false => exact ⟨e, R1, z⟩
theorem st_and1 {f : Sl → Res D} (ha : PT X a (liftT P f)) : PW X (.BoolOp .And [a] pos) (liftT P f) := pw_and1 ha
theorem st_or1 {f : Sl → Res D} (ha : PT X a (liftT P f)) : PW X (.BoolOp .Or [a] pos) (liftT P f) := pw_or1 ha
theorem se_one {op : BoolOp} {f : Sl → Res D} (ha : PE X a (lift P m f)) : PE X (.BoolOp op [a] pos) (lift P m f) := pe_one ha
theorem st_chain (C : Ctx X P N sc) (o1 o2 : COp) (ha : PE X a (lift P 0 (ev Φ A))) (hb : PE X b (lift P 0 (ev Φ B))) (hc : PE X c (lift P 0 (ev Φ E))) (hm : lastMarks [cOp o1, cOp o2] [b, c] = false) :
    PT X (.Compare a [cOp o1, cOp o2] [b, c] pos) (liftT P (ev Φ (.chain o1 o2 A B E))) := by
  have w1 := op_cmpD (X := X) C.un o1
  have w2 := op_cmpD (X := X) C.un o2
  rw [C.hK] at w1 w2
  refine PT.imp (pt_chain w1 w2 ha hb hc hm) fun σ H Q ⟨e, R, p⟩ => ⟨e, R, ?_⟩
  simp only [ev] at p
  refine Post.weaken (bindZ (α := D) (m := 0) gdPostT R p) fun v H1 ⟨x, _, s1, R1, d1, p1⟩ => ⟨e, R1, ?_⟩
  refine Post.weaken (bindZ (α := D) (m := 0) gdPostT R1 p1) fun w H2 ⟨y, _, s2, R2, d2, p2⟩ => ?_
  cases q : cmpD o1 x y with
  | none => rw [q] at p2; exact p2.elim
  | some k =>
    rw [q] at p2
    refine ⟨_, _, _, x, y, k, d1.same s2, d2, q, k, rfl, ?_⟩
    cases k with
    | false => exact ⟨false, rfl, p2 _ (Same.refl _)⟩
    | true =>
      refine ⟨e, R2, ?_⟩
      refine Post.weaken (bindZ (α := D) (m := 0) gdPostT R2 p2) fun u H3 ⟨z, _, s3, R3, d3, p3⟩ => ?_
      cases q3 : cmpD o2 y z with
      | none => rw [q3] at p3; exact p3.elim
      | some d =>
        rw [q3] at p3
        exact ⟨_, _, _, y, z, d, d2.same s3, d3, q3, d, rfl, p3 _ (Same.refl _)⟩
theorem st_not (ha : PT X a (liftT P (ev Φ A))) : PT X (.UnaryOp .Not a pos) (liftT P (ev Φ (.not A))) := by
  refine PT.imp (pt_not ha) fun σ H Q ⟨e, R, p⟩ => ⟨e, R, ?_⟩
  simp only [ev] at p
  refine PostT.weaken (bindT' (gdPostT) R (fun d hd => ?_) p) fun k H1 ⟨_, s, R1, z⟩ => ?_
  · cases d with
    | bool k => exact absurd rfl (hd k)
    | _ => rfl
  · exact z H1 (Same.refl _)
/-- a bool evaluated -/
theorem bindB {β : Type} {Z : Hp → Res β → Prop} {e : Sl} {σ : L2.St} {H : Hp} (gd : Gd P σ Z) (R : Rel P e σ H) {F : D → Res β} {r : Res D} (hF : ∀ d, (∀ k, d ≠ .bool k) → F d = .stuck) (h : Z H (r.bind F)) :
    Post P e σ m H (fun v H1 => ∃ k, v = .bl k ∧ Same H H1 ∧ Rel P e σ H1 ∧ Z H1 (F (.bool k))) r := by
  cases r with
  | ok d =>
    cases d with
    | bool k => exact fun v H1 s hd => ⟨k, d2_bool hd, s, R.same s, gd.back s h⟩
    | none => exact (gd.no (by have := hF .none (fun _ z => nomatch z); rw [← this]; exact h)).elim
    | int i => exact (gd.no (by have := hF (.int i) (fun _ z => nomatch z); rw [← this]; exact h)).elim
    | str i => exact (gd.no (by have := hF (.str i) (fun _ z => nomatch z); rw [← this]; exact h)).elim
    | list i => exact (gd.no (by have := hF (.list i) (fun _ z => nomatch z); rw [← this]; exact h)).elim
    | tuple i => exact (gd.no (by have := hF (.tuple i) (fun _ z => nomatch z); rw [← this]; exact h)).elim
    | dict i => exact (gd.no (by have := hF (.dict i) (fun _ z => nomatch z); rw [← this]; exact h)).elim
  | ex c => exact gd.ex h
  | stuck => exact gd.no h
theorem se_and {rest : List Expr} (ha : PE X a (lift P 0 (ev Φ A))) (hb : PE X (.BoolOp .And (b :: rest) pos) (lift P m (ev Φ B))) : PE X (.BoolOp .And (a :: b :: rest) pos) (lift P m (ev Φ (.and A B))) := by
  refine PE.imp (pe_and ha hb) fun σ H Q ⟨e, R, p⟩ => ⟨e, R, ?_⟩
  simp only [ev] at p
  refine Post.weaken (bindB (m := 0) (gdPost (m := m)) R (fun d hd => ?_) p) fun v H1 ⟨k, hv, s, R1, z⟩ => ⟨k, hv, ?_⟩
  · cases d with
    | bool k => exact absurd rfl (hd k)
    | _ => rfl
  · cases k with
    | true => exact ⟨e, R1, z⟩
    | false => exact z _ H1 (Same.refl _) bl_m
theorem se_or {rest : List Expr} (ha : PE X a (lift P 0 (ev Φ A))) (hb : PE X (.BoolOp .Or (b :: rest) pos) (lift P m (ev Φ B))) : PE X (.BoolOp .Or (a :: b :: rest) pos) (lift P m (ev Φ (.or A B))) := by
  refine PE.imp (pe_or ha hb) fun σ H Q ⟨e, R, p⟩ => ⟨e, R, ?_⟩
  simp only [ev] at p
  refine Post.weaken (bindB (m := 0) (gdPost (m := m)) R (fun d hd => ?_) p) fun v H1 ⟨k, hv, s, R1, z⟩ => ⟨k, hv, ?_⟩
  · cases d with
    | bool k => exact absurd rfl (hd k)
    | _ => rfl
  · cases k with
    | true => exact z _ H1 (Same.refl _) bl_m
    | false => exact ⟨e, R1, z⟩
theorem se_not (ha : PE X a (lift P 0 (ev Φ A))) : PE X (.UnaryOp .Not a pos) (lift P m (ev Φ (.not A))) := by
  refine PE.imp (pe_not ha) fun σ H Q ⟨e, R, p⟩ => ⟨e, R, ?_⟩
  simp only [ev] at p
  refine Post.weaken (bindB (m := 0) (gdPost (m := m)) R (fun d hd => ?_) p) fun v H1 ⟨k, hv, s, R1, z⟩ => ⟨k, hv, ?_⟩
  · cases d with
    | bool k => exact absurd rfl (hd k)
    | _ => rfl
  · exact z _ H1 (Same.refl _) bl_m
theorem se_neg (ha : PE X a (lift P 0 (ev Φ A))) : PE X (.UnaryOp .USub a pos) (lift P m (ev Φ (.neg A))) := by
  refine PE.imp (pe_un un_neg ha) fun σ H Q ⟨e, R, p⟩ => ⟨e, R, ?_⟩
  simp only [ev] at p
  refine Post.weaken (bindZ (α := D) (m := 0) gdPost R p) fun v H1 ⟨x, _, s1, R1, d1, p1⟩ => ?_
  cases x with
  | int i => exact ⟨i, d2_int d1, p1 _ H1 (Same.refl _) int_m⟩
  | _ => exact p1.elim

/-! ### argument lists, displays -/
theorem ses_nil : PA X [] (lifts P m (evs Φ [])) := PA.imp pa_nil fun σ H Q ⟨e, R, p⟩ => by
  simp only [evs] at p
  exact p [] H (Same.refl _) trivial
theorem ses_cons (ha : PE X a (lift P m (ev Φ A))) (hr : PA X es (lifts P m (evs Φ ES))) (hs : starEach (a :: es) X.env = (false, eval a X.env) :: starEach es X.env := by rfl) : PA X (a :: es) (lifts P m (evs Φ (A :: ES))) := by
  refine PA.imp (pa_cons ha hr hs) fun σ H Q ⟨e, R, p⟩ => ⟨e, R, ?_⟩
  simp only [evs] at p
  refine Post.weaken (bindZ (α := D) (m := m) (gdPosts (m := m)) R p) fun v H1 ⟨x, _, s1, R1, d1, p1⟩ => ⟨e, R1, ?_⟩
  refine Posts.weaken (bindZs (m := m) (gdPosts (m := m)) R1 p1) fun vs H2 ⟨xs, _, s2, R2, d2, p2⟩ => ?_
  exact p2 (v :: vs) H2 (Same.refl _) ⟨d1.same s2, d2⟩
theorem DenMs.len {e : Sl} {σ : L2.St} {H : Hp} : ∀ {vs : List V} {ds : List D}, DenMs P e σ m H vs ds → vs.length = ds.length
  | [], [], _ => rfl
  | _ :: _, _ :: _, h => congrArg (· + 1) (DenMs.len h.2)
  | [], _ :: _, h => h.elim
  | _ :: _, [], h => h.elim
/-- the items' mode of a display -/
def cm : Nat → Nat
  | 0 => 0
  | _ => 2
theorem cm_av1 {e : Sl} {σ : L2.St} : av1 P e σ (cm m) = av1 P e σ m := by cases m <;> rfl
theorem DenMs.dens {e : Sl} {σ : L2.St} {H : Hp} {vs : List V} {ds : List D} (h : DenMs P e σ (cm m) H vs ds) : Dens P.K (av1 P e σ m) H vs ds := by
  cases m with
  | zero => exact h.weak
  | succ n => exact h.d2
theorem DenMs.dena {e : Sl} {σ : L2.St} {H : Hp} : ∀ {vs : List V} {ds : List D}, DenMs P e σ m H vs ds → DenA P.K (av1 P e σ m) H vs ds
  | [], [], _ => trivial
  | _ :: _, _ :: _, h => ⟨⟨_, h.1⟩, DenMs.dena h.2⟩
  | [], _ :: _, h => h.elim
  | _ :: _, [], h => h.elim
theorem se_tup {k : Nat} (hn : ES.length ≤ 1000) (ha : PA X es (lifts P (cm m) (evs Φ ES))) : PE X (.Tuple es k pos) (lift P m (ev Φ (.tup ES))) := by
  refine PE.imp (pe_tup ha) fun σ H Q ⟨e, R, p⟩ => ⟨e, R, ?_⟩
  simp only [ev] at p
  refine Posts.weaken (bindZs (m := cm m) (gdPost (m := m)) R p) fun vs H1 ⟨xs, hx, s1, R1, d1, p1⟩ => ⟨?_, fun q no => ?_⟩
  · rw [d1.len, evs_len hx]
    exact Nat.le_trans hn (by decide)
  · exact p1 _ _ (same_upd no) (DenM.up (new_tup no d1.dens))
theorem se_lst (hn : ES.length ≤ 1000) (ha : PA X es (lifts P (cm m) (evs Φ ES))) : PE X (.List es pos) (liftN P m (ev Φ (.lst ES))) := by
  refine PE.imp (pe_lst ha) fun σ H Q ⟨e, R, p⟩ => ⟨e, R, ?_⟩
  simp only [ev] at p
  refine Posts.weaken (bindZs (m := cm m) (gdPostN (m := m)) R p) fun vs H1 ⟨xs, hx, s1, R1, d1, p1⟩ => ⟨?_, fun q no => ?_⟩
  · rw [d1.len, evs_len hx]
    exact Nat.le_trans hn (by decide)
  · exact p1 _ _ (same_upd no) (new_lst no d1.dens)
theorem se_emp : PE X (.Dict [] [] pos) (liftN P m (ev Φ .emp)) := by
  refine PE.imp pe_dnewK fun σ H Q ⟨e, R, p⟩ q no => ?_
  simp only [ev] at p
  exact p _ _ (same_upd no) (new_dct no .nil)
theorem se_idx (C : Ctx X P N sc) (ha : PE X a (lift P (sub m) (ev Φ A))) (hb : PE X b (lift P 0 (ev Φ B))) (hp : PlainIx b) : PE X (.Subscript a b pos) (lift P m (ev Φ (.idx A B))) := by
  have o := ixD (X := X) C.u1
  rw [C.hK] at o
  refine PE.imp (pe_ix o ha hb hp) fun σ H Q ⟨e, R, p⟩ => ⟨e, R, ?_⟩
  simp only [ev] at p
  refine Post.weaken (bindZ (α := D) (m := sub m) gdPost R p) fun v H1 ⟨x, _, s1, R1, d1, p1⟩ => ⟨e, R1, ?_⟩
  refine Post.weaken (bindZ (α := D) (m := 0) gdPost R1 p1) fun w H2 ⟨y, _, s2, R2, d2, p2⟩ => ?_
  cases q : idxD x y with
  | none => rw [q] at p2; exact p2.elim
  | some d =>
    rw [q] at p2
    have d1' := d1.same s2
    unfold DenM at d1'
    rw [av1_sub] at d1'
    exact ⟨_, _, _, _, x, y, d, d1', d2, q, fun z hz => p2 z H2 (Same.refl _) (DenM.up hz)⟩
/-- a slice's bound -/
def evo (Φ : FT) (A : Exp) (e : Sl) : Res (Option Int) := if A.isNop then .ok none else (ev Φ A e).bind partD
def PostO (P : Pk) (σ : L2.St) (H : Hp) (Q : Option Int → Hp → Prop) : Res (Option Int) → Prop
  | .ok o => ∀ H', Same H H' → Q o H'
  | .ex c => ∀ H', Same H H' → P.W (.ref (P.ca c)) none σ H'
  | .stuck => False
def liftO (P : Pk) (f : Sl → Res (Option Int)) : L2.TO := fun σ H Q => ∃ e, Rel P e σ H ∧ PostO P σ H Q (f e)
theorem so_none : PO X none (liftO P (evo Φ .nop)) := ⟨fun pins s σ H Q I ⟨e, R, p⟩ => (po_none (X := X)).run pins s σ H Q I (p H (Same.refl _))⟩
theorem so_some (ha : PE X a (lift P 0 (ev Φ A))) (hA : A.isNop = false := by rfl) : PO X (some a) (liftO P (evo Φ A)) := ⟨fun pins s σ H Q I ⟨e, R, p⟩ => by
  refine (po_some ha).run pins s σ H Q I ⟨e, R, ?_⟩
  unfold evo at p
  rw [hA, if_neg (by decide)] at p
  cases q : ev Φ A e with
  | ok d =>
    rw [q] at p
    cases d with
    | int i => exact fun v H' s hd => ⟨i, d2_int hd, p H' s⟩
    | _ => exact p.elim
  | ex c => rw [q] at p; exact p
  | stuck => rw [q] at p; exact p⟩
theorem bindO {β : Type} {Z : Hp → Res β → Prop} {e : Sl} {σ : L2.St} {H : Hp} (gd : Gd P σ Z) (R : Rel P e σ H) {F : Option Int → Res β} {r : Res (Option Int)} (h : Z H (r.bind F)) :
    PostO P σ H (fun o H1 => Same H H1 ∧ Rel P e σ H1 ∧ Z H1 (F o)) r := by
  cases r with
  | ok d => exact fun H1 s => ⟨s, R.same s, gd.back s h⟩
  | ex c => exact gd.ex h
  | stuck => exact gd.no h
theorem PostO.weaken {σ : L2.St} {H : Hp} {Q Q' : Option Int → Hp → Prop} {r : Res (Option Int)} (h : PostO P σ H Q r) (w : ∀ k H', Q k H' → Q' k H') : PostO P σ H Q' r := by
  cases r with
  | ok d => exact fun H' s => w _ _ (h H' s)
  | ex c => exact h
  | stuck => exact h
theorem se_sl (C : Ctx X P N sc) {lo hi : Option Expr} {p2 : Pos} {L U : Exp} (ha : PE X a (lift P (sub m) (ev Φ A))) (hl : PO X lo (liftO P (evo Φ L))) (hh : PO X hi (liftO P (evo Φ U))) :
    PE X (.Subscript a (.Slice lo hi none p2) pos) (liftN P m (ev Φ (.sl A L U))) := by
  have o := slD (X := X)
  rw [C.hK] at o
  refine PE.imp (pe_slice o ha hl hh) fun σ H Q ⟨e, R, p⟩ => ⟨e, R, ?_⟩
  simp only [ev] at p
  refine Post.weaken (bindZ (α := D) (m := sub m) gdPostN R p) fun v H1 ⟨x, _, s1, R1, d1, p1⟩ => ⟨e, R1, ?_⟩
  refine PostO.weaken (bindO (r := evo Φ L e) gdPostN R1 p1) fun l H2 ⟨s2, R2, p2⟩ => ⟨e, R2, ?_⟩
  refine PostO.weaken (bindO (r := evo Φ U e) gdPostN R2 p2) fun u H3 ⟨s3, R3, p3⟩ => ?_
  cases q : sliceD x l u with
  | none => rw [q] at p3; exact p3.elim
  | some d =>
    rw [q] at p3
    have d1' := (d1.same s2).same s3
    unfold DenM at d1'
    rw [av1_sub] at d1'
    exact ⟨_, _, x, d, d1', q, fun z H' s hz => p3 z H' s hz⟩
/-! ### calls -/
theorem se_call (C : Ctx X P N sc) {x : Str} {F : Nat} {p : Pos} (fn : Fn1 X.prog X.w X.K X.mg X.base X.A P.ca Φ x F) (hg : X.env.kindOf x = some .globalImplicit) (ha : PA X (a :: es) (lifts P (cm m) (evs Φ ES))) (hdb : (x == ("__debug__" : Str)) = false := by decide)
    (he : starEach (a :: es) X.env = (false, eval a X.env) :: starEach es X.env := by rfl) (hpl : (backTo pos (starEach es X.env)).any (·.1) = false := by rfl) :
    PE X (.Call (.Name x p) (a :: es) [] pos) (lift P m (ev Φ (.call F ES))) := by
  obtain ⟨k, fA, fd, ps, ok, hr, hm, hk, hb⟩ := fn.ex
  refine PE.imp (pe_callS ok hr hg hm hk hb (fun σ => passAt C.tk σ) ha hdb he hpl) fun σ H Q ⟨e, R, p⟩ => ⟨e, R, ?_⟩
  simp only [ev] at p
  refine Posts.weaken (bindZs (m := cm m) (gdPost (m := m)) R p) fun vs H1 ⟨xs, hx, s1, R1, d1, p1⟩ => ?_
  refine ⟨av1 P e σ m, xs, fun a z => ?_, by rw [C.hK]; exact d1.dens, ?_⟩
  · match m with
    | 0 => exact R1.av_ne (.inl z)
    | _ + 1 => exact R1.av_ne z
  · cases q : Φ F xs with
    | ok d => rw [q] at p1; exact fun v H' s hd => p1 v H' s (DenM.up (by rw [C.hK] at hd; exact hd))
    | ex c => rw [q] at p1; exact p1
    | stuck => rw [q] at p1; exact p1.elim
theorem se_callv (C : Ctx X P N sc) {x : Str} {F : Nat} {p : Pos} (fn : Fn1 X.prog X.w X.K X.mg X.base X.A P.ca Φ x F) (hg : X.env.kindOf x = some .globalImplicit) (ha : PA X (a :: es) (lifts P 0 (evs Φ ES))) (hdb : (x == ("__debug__" : Str)) = false := by decide)
    (he : starEach (a :: es) X.env = (false, eval a X.env) :: starEach es X.env := by rfl) (hpl : (backTo pos (starEach es X.env)).any (·.1) = false := by rfl) :
    PE X (.Call (.Name x p) (a :: es) [] pos) (lift P m (ev Φ (.callv F ES))) := by
  refine PE.imp (se_call (m := 0) C fn hg ha hdb he hpl) fun σ H Q ⟨e, R, p⟩ => ⟨e, R, ?_⟩
  simp only [ev] at p ⊢
  cases q : evs Φ ES e with
  | ok xs =>
    simp only [q, Res.bind_ok] at p ⊢
    cases q2 : Φ F xs with
    | ok y =>
      simp only [q2, Res.bind_ok] at p ⊢
      cases q3 : noLst y with
      | true =>
        rw [q3, if_pos rfl] at p
        exact fun v H' s hd => p v H' s (hd.flat q3).mm
      | false => rw [q3, if_neg (by decide)] at p; exact p.elim
    | ex c => rw [q2] at p; exact p
    | stuck => rw [q2] at p; exact p.elim
  | ex c => rw [q] at p; exact p
  | stuck => rw [q] at p; exact p.elim
/-! ### built-ins -/
theorem tCB_of {σ : L2.St} {H : Hp} {Q : VK} {Bl : Blt} (h : liftN P m (ev Φ (.blt Bl ES)) σ H Q) : tCB (RCl P.K (bltD Bl)) (lifts P (sub m) (evs Φ ES)) σ H Q := by
  obtain ⟨e, R, p⟩ := h
  refine ⟨e, R, ?_⟩
  simp only [ev] at p
  refine Posts.weaken (bindZs (m := sub m) (gdPostN (m := m)) R p) fun vs H1 ⟨xs, hx, s1, R1, d1, p1⟩ => ?_
  cases q : bltD Bl xs with
  | none => rw [q] at p1; exact p1.elim
  | some d =>
    rw [q] at p1
    have da := d1.dena
    rw [av1_sub] at da
    exact ⟨_, xs, d, da, q, fun z H' s hz => p1 z H' s hz⟩
/-- a built-in function -/
theorem se_bltB (C : Ctx X P N sc) {x : Str} {p : Pos} {id : String} {Bl : Blt} (hc : CallR X (.builtin id) (RCl X.K (bltD Bl))) (hg : X.env.kindOf x = some .globalImplicit) (hm : X.mg x = none) (hv : bootBuiltins x = some (.builtin id))
    (ha : PA X (a :: es) (lifts P (sub m) (evs Φ ES))) (hn : x ≠ ("__name__" : Str) := by decide) (hdb : (x == ("__debug__" : Str)) = false := by decide)
    (he : starEach (a :: es) X.env = (false, eval a X.env) :: starEach es X.env := by rfl) (hpl : (backTo pos (starEach es X.env)).any (·.1) = false := by rfl) :
    PE X (.Call (.Name x p) (a :: es) [] pos) (liftN P m (ev Φ (.blt Bl ES))) := by
  rw [C.hK] at hc
  exact PE.imp (pe_callB hc hg hm hv ha hn hdb he hpl) fun σ H Q h => tCB_of h
/-- a built-in type -/
theorem se_bltT (C : Ctx X P N sc) {x : Str} {p : Pos} {T : String} {Bl : Blt} (hc : CallR X (.type T) (RCl X.K (bltD Bl))) (hg : X.env.kindOf x = some .globalImplicit) (hm : X.mg x = none) (hv : bootBuiltins x = some (.type T))
    (ha : PA X (a :: es) (lifts P (sub m) (evs Φ ES))) (hn : x ≠ ("__name__" : Str) := by decide) (hdb : (x == ("__debug__" : Str)) = false := by decide)
    (he : starEach (a :: es) X.env = (false, eval a X.env) :: starEach es X.env := by rfl) (hpl : (backTo pos (starEach es X.env)).any (·.1) = false := by rfl) :
    PE X (.Call (.Name x p) (a :: es) [] pos) (liftN P m (ev Φ (.blt Bl ES))) := by
  rw [C.hK] at hc
  exact PE.imp (pe_callTy hc hg hm hv ha hn hdb he hpl) fun σ H Q h => tCB_of h
/-- a result that holds no list is strong -/
theorem PE.flat {f : Sl → Res D} (hf : ∀ e d, f e = .ok d → noLst d = true) (h : PE X a (liftN P 0 f)) : PE X a (lift P m f) := Rf.PE.imp (Rf.PE.new h) fun σ H Q ⟨e, R, p⟩ => ⟨e, R, by
  cases q : f e with
  | ok d => rw [q] at p; exact fun v H' s hd => p v H' s (hd.flat (hf e d q)).mm
  | ex c => rw [q] at p; exact p
  | stuck => rw [q] at p; exact p⟩
def Blt.flat : Blt → Bool
  | .tuple => false
  | .list => false
  | .sorted => false
  | .dict => false
  | _ => true
theorem bltD_flat {Bl : Blt} (hB : Bl.flat = true) {ds : List D} {d : D} (h : bltD Bl ds = some d) : noLst d = true := by
  unfold bltD at h
  split at h <;> first
    | (exact absurd hB (by decide))
    | (simp only [Option.some.injEq] at h; subst h; rfl)
    | (split at h <;> first | (simp only [Option.some.injEq] at h; subst h; rfl) | (simp only [Option.map_eq_some_iff] at h; obtain ⟨_, _, rfl⟩ := h; rfl) | (exact absurd h (by simp)))
    | (simp only [Option.map_eq_some_iff] at h; obtain ⟨_, _, rfl⟩ := h; rfl)
    | (exact absurd h (by simp))
theorem se_flat {Bl : Blt} (hB : Bl.flat = true) (h : PE X a (liftN P 0 (ev Φ (.blt Bl ES)))) : PE X a (lift P m (ev Φ (.blt Bl ES))) := PE.flat (fun e d q => by
  simp only [ev] at q
  cases q1 : evs Φ ES e with
  | ok xs =>
    rw [q1] at q
    cases q2 : bltD Bl xs with
    | none => simp [q2] at q
    | some y =>
      simp only [Res.bind_ok, q2, Res.of_some, Res.ok.injEq] at q
      subst q
      exact bltD_flat hB q2
  | ex c => rw [q1] at q; simp at q
  | stuck => rw [q1] at q; simp at q) h
theorem binD_flat {op : BOp} {x y : D} (fx : noLst x = true) (fy : noLst y = true) {d : D} (h : binD op x y = some d) : noLst d = true := by
  unfold binD at h
  split at h <;> first
    | (simp only [Option.some.injEq] at h; subst h; rfl)
    | (simp [noLst] at fx; done)
    | (split at h <;> first
        | (simp only [Option.some.injEq] at h; subst h; rfl)
        | (simp only [Option.some.injEq] at h; subst h; simp only [noLst, noLsts, Bool.and_eq_true, List.cons_append] at fx fy ⊢; refine ⟨fx.1, ?_⟩; exact noLsts_append fx.2 fy)
        | (exact absurd h (by simp)))
    | (exact absurd h (by simp))
theorem se_isi (C : Ctx X P N sc) {x y : Str} {p py : Pos} {T : Nat} (hT : T < 5) (hx : x = "isinstance") (hg : X.env.kindOf x = some .globalImplicit) (hm : X.mg x = none)
    (hy : X.env.kindOf y = some .globalImplicit) (hmy : X.mg y = none) (hvy : bootBuiltins y = some (.type (tyN T))) (ha : PE X a (lift P 0 (ev Φ A)))
    (he : starEach [a, .Name y py] X.env = (false, eval a X.env) :: starEach [.Name y py] X.env := by rfl) (hpl : (backTo pos (starEach [.Name y py] X.env)).any (·.1) = false := by rfl)
    (he2 : starEach [.Name y py] X.env = (false, eval (.Name y py) X.env) :: starEach [] X.env := by rfl) (hn : y ≠ ("__name__" : Str) := by decide) (hdb : (y == ("__debug__" : Str)) = false := by decide) :
    PE X (.Call (.Name x p) [a, .Name y py] [] pos) (lift P m (ev Φ (.blt (.isi T) [A]))) := by
  subst hx
  have o := cl_isi (X := X) hT
  rw [C.hK] at o
  refine PE.imp (pe_callB o hg hm (by decide +kernel) (pa_cons ha (pa_cons (pe_bltn hy hmy hvy (v := .ty (tyN T)) rfl hn hdb) pa_nil he2) he) (by decide) (by decide) he hpl) fun σ H Q ⟨e, R, p⟩ => ⟨e, R, ?_⟩
  simp only [ev, evs] at p
  cases q : ev Φ A e with
  | ok d =>
    simp only [q, Res.bind_ok] at p
    refine fun v H1 s hd => ?_
    cases q2 : isiD T d with
    | none => simp only [bltD, q2, Option.map_none, Res.of_none] at p; exact p.elim
    | some b =>
      simp only [bltD, q2, Option.map_some, Res.of_some] at p
      exact ⟨v, _, _, d, b, rfl, hd, q2, p _ H1 s bl_m⟩
  | ex c => simp only [q, Res.bind_ex] at p; exact p
  | stuck => simp only [q, Res.bind_stuck] at p; exact p.elim

/-! ### methods -/
theorem se_m0 (C : Ctx X P N sc) (M : Mth) {o : Expr} {apos : Pos} (hM : M ≠ .get ∧ M ≠ .bits ∧ M ≠ .join) (ho : PE X o (lift P 0 (ev Φ A))) (hb : attributeBase o (mthN M) X.env (eval o X.env) = eval o X.env := by rfl) (hl : (apos.endLine == pos.line) = true := by rfl) :
    PE X (.Call (.Attribute o (mthN M) apos) [] [] pos) (lift P m (ev Φ (.mth M A []))) := by
  have w := pe_str0 (X := X) (pos := pos) M hM ho hb hl
  rw [C.hK] at w
  refine PE.imp w fun σ H Q ⟨e, R, p⟩ => ⟨e, R, ?_⟩
  simp only [ev, evs] at p
  refine Post.weaken (bindZ (α := D) (m := 0) gdPost R p) fun v H1 ⟨x, _, s1, R1, d1, p1⟩ => ?_
  simp only [Res.bind_ok] at p1
  cases x with
  | str z =>
    obtain rfl := d2_str d1
    have e1 : mthD M (.str z) [] = strM M z := by
      cases M with
      | get => exact absurd rfl hM.1
      | bits => exact absurd rfl hM.2.1
      | join => exact absurd rfl hM.2.2
      | _ => rfl
    rw [e1] at p1
    cases q : strM M z with
    | none => rw [q] at p1; exact p1.elim
    | some d => rw [q] at p1; exact ⟨⟨z, rfl⟩, z, rfl, d, rfl, q, fun w hw => p1 w H1 (Same.refl _) (DenM.up (hw.flat2 (strM_flat q)))⟩
  | _ =>
    cases M with
    | get => exact absurd rfl hM.1
    | bits => exact absurd rfl hM.2.1
    | join => exact absurd rfl hM.2.2
    | _ => exact p1.elim
theorem se_bits {o : Expr} {apos : Pos} (ho : PE X o (lift P 0 (ev Φ A))) (hb : attributeBase o "bit_length" X.env (eval o X.env) = eval o X.env := by rfl) (hl : (apos.endLine == pos.line) = true := by rfl) :
    PE X (.Call (.Attribute o "bit_length" apos) [] [] pos) (lift P m (ev Φ (.mth .bits A []))) := by
  refine PE.imp (pe_bits ho hb hl) fun σ H Q ⟨e, R, p⟩ => ⟨e, R, ?_⟩
  simp only [ev, evs] at p
  refine Post.weaken (bindZ (α := D) (m := 0) gdPost R p) fun v H1 ⟨x, _, s1, R1, d1, p1⟩ => ?_
  simp only [Res.bind_ok] at p1
  cases x with
  | int i => exact ⟨i, d2_int d1, p1 _ H1 (Same.refl _) int_m⟩
  | _ => exact p1.elim
theorem se_join (C : Ctx X P N sc) {o : Expr} {apos : Pos} {z : Str} (ho : PE X o (tC (.str z))) (ha : PE X a (lift P 0 (ev Φ B))) (he : starEach [a] X.env = [(false, eval a X.env)] := by rfl) (hb : attributeBase o "join" X.env (eval o X.env) = eval o X.env := by rfl) (hl : (apos.endLine == pos.line) = true := by rfl) :
    PE X (.Call (.Attribute o "join" apos) [a] [] pos) (lift P m (ev Φ (.mth .join (.con (.str z)) [B]))) := by
  refine PE.imp (pe_m1 PySem.F.slot_str_join PySem.F.type_str_join mt_join ho ha he hb hl) fun σ H Q ⟨e, R, p⟩ => ⟨⟨z, rfl⟩, e, R, ?_⟩
  simp only [ev, evs, Res.bind_ok] at p
  cases q : ev Φ B e with
  | ok y =>
    simp only [q, Res.bind_ok] at p
    intro w H2 s2 d2
    cases y with
    | list xs =>
      obtain ⟨b, ys, rfl, hr, dd⟩ := d2_lst d2
      simp only [mthD] at p
      cases q2 : allStrs xs with
      | none => simp only [q2, Option.bind_none, Res.of_none] at p; exact p.elim
      | some l =>
        simp only [q2, Option.bind_some] at p
        by_cases hz : (l.map (·.length)).sum + l.length * z.length ≤ line
        · rw [if_pos hz] at p
          rw [allStrs_of dd q2, ← C.hK] at hr
          exact ⟨z, b, l, rfl, rfl, .inl hr, Nat.le_trans hz (by decide), p _ H2 s2 (DenM.up (.str _))⟩
        · rw [if_neg hz] at p; exact p.elim
    | _ => exact p.elim
  | ex c => simp only [q, Res.bind_ex] at p; exact p
  | stuck => simp only [q, Res.bind_stuck] at p; exact p.elim
end
end
end Rf

set_option Elab.async false
set_option linter.all false
set_option maxRecDepth 100000
set_option maxHeartbeats 1000000
/-! Rf, part F: how the relation changes; targets, sources. -/
namespace Rf
noncomputable section
open PySem PySem.Spec PyProof.Rows L2
section
variable {K : PySem.W.Frag} {av : Addr → Prop} {H : Hp} {a : Addr} {o : HO}
theorem upd_rd (hk : ∀ ys, H a ≠ some (.tup ys)) (hf : ∀ o u, H a ≠ some (.frz o u)) {b : Addr} {ys : List V} (h : Rd H b (.tup ys)) : Rd (upd H a o) b (.tup ys) := by
  have hb : b ≠ a := fun e => by
    subst e
    rcases h with h | ⟨o, h⟩
    · exact hk _ h
    · exact hf _ _ h
  rcases h with h | ⟨o, h⟩
  · exact .inl (by rw [upd_ne hb]; exact h)
  · exact .inr ⟨o, by rw [upd_ne hb]; exact h⟩
theorem upd_rd2 {b : Addr} {u : HO} (hb : b ≠ a) (h : Rd H b u) : Rd (upd H a o) b u := by
  rcases h with h | ⟨o, h⟩
  · exact .inl (by rw [upd_ne hb]; exact h)
  · exact .inr ⟨o, by rw [upd_ne hb]; exact h⟩
mutual
theorem Den.upd (hk : ∀ ys, H a ≠ some (.tup ys)) (hf : ∀ o u, H a ≠ some (.frz o u)) (ha : av a) : ∀ {v : V} {d : D}, Den K av H v d → Den K av (L2.upd H a o) v d
  | _, _, .none => .none
  | _, _, .bool b => .bool b
  | _, _, .int i => .int i
  | _, _, .str x => .str x
  | _, _, .list h n t => .list (n.elim (fun n => h.imp (upd_rd2 fun e => n (e ▸ ha)) id) .inr) n (Dens.upd hk hf ha t)
  | _, _, .tuple h t => .tuple (by rw [upd_ne fun e => hk _ (e ▸ h)]; exact h) (Dens.upd hk hf ha t)
  | _, _, .dict h n t => .dict (upd_rd2 (fun e => n (e ▸ ha)) h) n (DenKs.upd hk hf ha t)
theorem Dens.upd (hk : ∀ ys, H a ≠ some (.tup ys)) (hf : ∀ o u, H a ≠ some (.frz o u)) (ha : av a) : ∀ {v : List V} {d : List D}, Dens K av H v d → Dens K av (L2.upd H a o) v d
  | _, _, .nil => .nil
  | _, _, .cons x y => .cons (Den.upd hk hf ha x) (Dens.upd hk hf ha y)
theorem DenKs.upd (hk : ∀ ys, H a ≠ some (.tup ys)) (hf : ∀ o u, H a ≠ some (.frz o u)) (ha : av a) : ∀ {v : List (Key × V)} {d : List (D × D)}, DenKs K av H v d → DenKs K av (L2.upd H a o) v d
  | _, _, .nil => .nil
  | _, _, .cons x y => .cons (Den.upd hk hf ha x) (DenKs.upd hk hf ha y)
end
theorem SlotOk.imp {av' : Addr → Prop} (g : ∀ a, H a ≠ none → av' a → av a) : ∀ {s : Slot} {o : Option V}, SlotOk K av H s o → SlotOk K av' H s o
  | .un, _, _ => trivial
  | .d _, _, ⟨v, h, d⟩ => ⟨v, h, d.imp (fun _ _ => ⟨id, id⟩) g⟩
  | .ol _, _, ⟨a, ys, h, q, d⟩ => ⟨a, ys, h, q, d.imp (fun _ _ => ⟨id, id⟩) g⟩
  | .od _, _, ⟨a, ys, h, q, d⟩ => ⟨a, ys, h, q, d.imp (fun _ _ => ⟨id, id⟩) g⟩
  | .ot _, _, ⟨a, ys, h, q, d⟩ => ⟨a, ys, h, q, d.mp fun _ _ z => z.imp (fun _ _ => ⟨id, id⟩) g⟩
  | .ob _, _, h => h
end

section
variable {P : Pk} {e : Sl} {σ : L2.St} {H H' : Hp} {i : Nat}
theorem own_set_d {a : Addr} {s : Slot} {o : Option V} (hs : isOwn s = false) (h : Owns (e.set i s) (σ.set i o) a) : Owns e σ a := by
  obtain ⟨j, t, h1, h2, h3⟩ := h
  by_cases hj : i = j
  · subst hj
    rw [List.getElem?_set_self'] at h1
    cases q : e[i]? with
    | none => rw [q] at h1; simp at h1
    | some x => rw [q] at h1; simp only [Option.map_eq_map, Option.map_some, Function.const_apply, Option.some.injEq] at h1; subst h1; rw [hs] at h2; cases h2
  · rw [List.getElem?_set_ne hj] at h1 h3
    exact ⟨j, t, h1, h2, h3⟩
/-- a slot that takes what is not own -/
theorem Rel.set (R : Rel P e σ H) {s : Slot} {o : Option V} (hs : isOwn s = false) (hd : SlotOk P.K (avo P e σ) H s o) : Rel P (e.set i s) (σ.set i o) H where
  len := by rw [List.length_set, List.length_set, R.len]
  slot := fun j t o' h1 h2 => by
    have mono : ∀ b, avo P (e.set i s) (σ.set i o) b → avo P e σ b := fun b z => z.imp id (own_set_d hs)
    by_cases hj : i = j
    · subst hj
      rw [List.getElem?_set_self'] at h1 h2
      cases q : e[i]? with
      | none => rw [q] at h1; simp at h1
      | some x =>
        cases q2 : σ[i]? with
        | none => rw [q2] at h2; simp at h2
        | some y =>
          rw [q] at h1
          rw [q2] at h2
          simp only [Option.map_eq_map, Option.map_some, Function.const_apply, Option.some.injEq] at h1 h2
          subst h1 h2
          exact hd.imp fun a _ => mono a
    · rw [List.getElem?_set_ne hj] at h1 h2
      exact (R.slot j t o' h1 h2).imp fun a _ => mono a
  inj := fun j k s1 s2 a h1 h2 h3 h4 h5 h6 => by
    have get : ∀ {j : Nat} {t : Slot} {p : Option V}, (e.set i s)[j]? = some t → isOwn t = true → (σ.set i o)[j]? = some p → e[j]? = some t ∧ σ[j]? = some p := fun {j t p} h1 h2 h3 => by
      by_cases hj : i = j
      · subst hj
        rw [List.getElem?_set_self'] at h1
        cases q : e[i]? with
        | none => rw [q] at h1; simp at h1
        | some x => rw [q] at h1; simp only [Option.map_eq_map, Option.map_some, Function.const_apply, Option.some.injEq] at h1; subst h1; rw [hs] at h2; cases h2
      · rw [List.getElem?_set_ne hj] at h1 h3
        exact ⟨h1, h3⟩
    obtain ⟨a1, a2⟩ := get h1 h2 h5
    obtain ⟨b1, b2⟩ := get h3 h4 h6
    exact R.inj j k s1 s2 a a1 h2 b1 h4 a2 b2
  fr := R.fr
  new := fun a h => R.new a (own_set_d hs h)
theorem Rel.setD (R : Rel P e σ H) {x : D} {v : V} (hd : Den P.K (avo P e σ) H v x) : Rel P (e.set i (.d x)) (σ.set i (some v)) H := R.set rfl ⟨v, rfl, hd⟩
theorem own_set_new {a p : Addr} {s : Slot} (h : Owns (e.set i s) (σ.set i (some (.ref p))) a) : Owns e σ a ∨ a = p := by
  obtain ⟨j, t, h1, h2, h3⟩ := h
  by_cases hj : i = j
  · subst hj
    rw [List.getElem?_set_self'] at h3
    cases q : σ[i]? with
    | none => rw [q] at h3; simp at h3
    | some x =>
      rw [q] at h3
      simp only [Option.map_eq_map, Option.map_some, Function.const_apply, Option.some.injEq, V.ref.injEq] at h3
      exact .inr h3.symm
  · rw [List.getElem?_set_ne hj] at h1 h3
    exact .inl ⟨j, t, h1, h2, h3⟩
/-- a slot that takes a new list or dict as its own -/
theorem Rel.setNew (R : Rel P e σ H) {s : Slot} {p : Addr} (hp : H p = none) (sm : Same H H') (hs : SlotOk P.K (fun a => avo P e σ a ∨ a = p) H' s (some (.ref p))) : Rel P (e.set i s) (σ.set i (some (.ref p))) H' where
  len := by rw [List.length_set, List.length_set, R.len]
  slot := fun j t o' h1 h2 => by
    have mono : ∀ b, avo P (e.set i s) (σ.set i (some (.ref p))) b → avo P e σ b ∨ b = p := fun b z => z.elim (fun z => .inl (.inl z)) fun z => (own_set_new z).imp .inr id
    by_cases hj : i = j
    · subst hj
      rw [List.getElem?_set_self'] at h1 h2
      cases q : e[i]? with
      | none => rw [q] at h1; simp at h1
      | some x =>
        cases q2 : σ[i]? with
        | none => rw [q2] at h2; simp at h2
        | some y =>
          rw [q] at h1
          rw [q2] at h2
          simp only [Option.map_eq_map, Option.map_some, Function.const_apply, Option.some.injEq] at h1 h2
          subst h1 h2
          exact hs.imp fun a _ => mono a
    · rw [List.getElem?_set_ne hj] at h1 h2
      refine ((R.slot j t o' h1 h2).imp fun a ha z => ?_).same sm
      exact (mono a z).elim id fun z => absurd (z ▸ hp) ha
  inj := fun j k s1 s2 a h1 h2 h3 h4 h5 h6 => by
    have get : ∀ {j : Nat} {t : Slot} {a : Addr}, (e.set i s)[j]? = some t → isOwn t = true → (σ.set i (some (.ref p)))[j]? = some (some (V.ref a)) → (i = j ∧ a = p) ∨ (i ≠ j ∧ e[j]? = some t ∧ σ[j]? = some (some (V.ref a)) ∧ a ≠ p) := fun {j t a} h1 h2 h3 => by
      by_cases hj : i = j
      · subst hj
        rw [List.getElem?_set_self'] at h3
        cases q : σ[i]? with
        | none => rw [q] at h3; simp at h3
        | some x => rw [q] at h3; simp only [Option.map_eq_map, Option.map_some, Function.const_apply, Option.some.injEq, V.ref.injEq] at h3; exact .inl ⟨rfl, h3.symm⟩
      · rw [List.getElem?_set_ne hj] at h1 h3
        exact .inr ⟨hj, h1, h3, fun z => R.own_ne ⟨j, t, h1, h2, h3⟩ (z ▸ hp)⟩
    rcases get h1 h2 h5 with ⟨r1, r2⟩ | ⟨r1, r2, r3, r4⟩ <;> rcases get h3 h4 h6 with ⟨q1, q2⟩ | ⟨q1, q2, q3, q4⟩
    · exact r1.symm.trans q1
    · exact absurd r2 q4
    · exact absurd q2 r4
    · exact R.inj j k s1 s2 a r2 h2 q2 h4 r3 q3
  fr := R.fr.trans sm
  new := fun a h => by
    rcases own_set_new h with h | rfl
    · exact R.new a h
    · cases q : P.H0 a with
      | none => rfl
      | some o => rw [R.fr _ _ q] at hp; cases hp
/-- an own list or dict is changed -/
theorem Rel.updOwn (R : Rel P e σ H) {s s' : Slot} {a : Addr} {o : HO} (h1 : e[i]? = some s) (hs : isOwn s = true) (hs' : isOwn s' = true) (h2 : σ[i]? = some (some (.ref a))) (hd : SlotOk P.K (avo P e σ) (upd H a o) s' (some (.ref a))) : Rel P (e.set i s') σ (upd H a o) := by
  have oa : Owns e σ a := ⟨i, s, h1, hs, h2⟩
  have hkk : (∃ ys, H a = some (.lst ys)) ∨ (∃ ks, H a = some (.dK ks)) ∨ ∃ ks, H a = some (.dT ks) := by
    have q := R.slot i s _ h1 h2
    cases s with
    | un => cases hs
    | ob _ => cases hs
    | d _ => cases hs
    | ol xs => obtain ⟨b, ys, e1, e2, _⟩ := q; cases e1; exact .inl ⟨_, e2⟩
    | od xs => obtain ⟨b, ys, e1, e2, _⟩ := q; cases e1; exact .inr (.inl ⟨_, e2⟩)
    | ot xs => obtain ⟨b, ys, e1, e2, _⟩ := q; cases e1; exact .inr (.inr ⟨_, e2⟩)
  have hk : ∀ ys, H a ≠ some (.tup ys) := fun ys z => by rcases hkk with ⟨_, q⟩ | ⟨_, q⟩ | ⟨_, q⟩ <;> rw [q] at z <;> cases z
  have hf : ∀ o u, H a ≠ some (.frz o u) := fun o u z => by rcases hkk with ⟨_, q⟩ | ⟨_, q⟩ | ⟨_, q⟩ <;> rw [q] at z <;> cases z
  have own : ∀ b, Owns (e.set i s') σ b → Owns e σ b := fun b ⟨j, t, q1, q2, q3⟩ => by
    by_cases hj : i = j
    · subst hj; exact ⟨i, s, h1, hs, q3⟩
    · rw [List.getElem?_set_ne hj] at q1; exact ⟨j, t, q1, q2, q3⟩
  have mono : ∀ b, avo P (e.set i s') σ b → avo P e σ b := fun b z => z.imp id (own b)
  refine ⟨by rw [List.length_set]; exact R.len, fun j t o' q1 q2 => ?_, fun j k t1 t2 b q1 q2 q3 q4 q5 q6 => ?_, fun b x q => ?_, fun b z => R.new b (own b z)⟩
  · by_cases hj : i = j
    · subst hj
      rw [List.getElem?_set_self (by rw [← R.len]; exact (List.getElem?_eq_some_iff.mp h2).1)] at q1
      cases q1
      rw [h2] at q2
      cases q2
      exact hd.imp fun b _ => mono b
    · rw [List.getElem?_set_ne hj] at q1
      have q := R.slot j t o' q1 q2
      cases t with
      | un => trivial
      | ob _ => exact q
      | d x => obtain ⟨v, e1, dd⟩ := q; exact ⟨v, e1, (dd.upd hk hf (.inr oa)).imp (fun _ _ => ⟨id, id⟩) fun b _ => mono b⟩
      | ol x =>
        obtain ⟨b, ys, e1, e2, dd⟩ := q
        have nb : b ≠ a := fun z => hj (R.inj i j s _ a h1 hs q1 rfl h2 (by rw [q2, e1, z]))
        exact ⟨b, ys, e1, by rw [upd_ne nb]; exact e2, (dd.upd hk hf (.inr oa)).imp (fun _ _ => ⟨id, id⟩) fun b _ => mono b⟩
      | od x =>
        obtain ⟨b, ys, e1, e2, dd⟩ := q
        have nb : b ≠ a := fun z => hj (R.inj i j s _ a h1 hs q1 rfl h2 (by rw [q2, e1, z]))
        exact ⟨b, ys, e1, by rw [upd_ne nb]; exact e2, (dd.upd hk hf (.inr oa)).imp (fun _ _ => ⟨id, id⟩) fun b _ => mono b⟩
      | ot x =>
        obtain ⟨b, ys, e1, e2, dd⟩ := q
        have nb : b ≠ a := fun z => hj (R.inj i j s _ a h1 hs q1 rfl h2 (by rw [q2, e1, z]))
        exact ⟨b, ys, e1, by rw [upd_ne nb]; exact e2, dd.mp fun _ _ z => (z.upd hk hf (.inr oa)).imp (fun _ _ => ⟨id, id⟩) fun b _ => mono b⟩
  · have get : ∀ {j : Nat} {t : Slot}, (e.set i s')[j]? = some t → isOwn t = true → ∃ t', e[j]? = some t' ∧ isOwn t' = true := fun {j t} q1 q2 => by
      by_cases hj : i = j
      · subst hj; exact ⟨s, h1, hs⟩
      · rw [List.getElem?_set_ne hj] at q1; exact ⟨t, q1, q2⟩
    obtain ⟨u1, a1, a2⟩ := get q1 q2
    obtain ⟨u2, b1, b2⟩ := get q3 q4
    exact R.inj j k u1 u2 b a1 a2 b1 b2 q5 q6
  · have nb : b ≠ a := fun z => by rw [z, R.new a oa] at q; cases q
    rw [upd_ne nb]
    exact R.fr _ _ q
/-- own no more -/
theorem Rel.give (R : Rel P e σ H) {xs : List D} (h1 : e[i]? = some (.ol xs)) : Rel P (e.set i (.d (.list xs))) σ H := by
  obtain ⟨o, h2, a, ys, rfl, ha, dd⟩ := R.at h1
  have own : ∀ b, Owns (e.set i (.d (.list xs))) σ b → Owns e σ b ∧ b ≠ a := fun b ⟨j, t, q1, q2, q3⟩ => by
    by_cases hj : i = j
    · subst hj
      rw [List.getElem?_set_self (List.getElem?_eq_some_iff.mp h1).1] at q1
      cases q1; cases q2
    · rw [List.getElem?_set_ne hj] at q1
      exact ⟨⟨j, t, q1, q2, q3⟩, fun z => hj (R.inj i j _ t a h1 rfl q1 q2 h2 (by rw [q3, z]))⟩
  have mono : ∀ b, avo P (e.set i (.d (.list xs))) σ b → avo P e σ b := fun b z => z.imp id fun z => (own b z).1
  refine ⟨by rw [List.length_set]; exact R.len, fun j t o' q1 q2 => ?_, fun j k t1 t2 b q1 q2 q3 q4 q5 q6 => ?_, R.fr, fun b z => R.new b (own b z).1⟩
  · by_cases hj : i = j
    · subst hj
      rw [List.getElem?_set_self (List.getElem?_eq_some_iff.mp h1).1] at q1
      cases q1
      rw [h2] at q2
      cases q2
      refine ⟨_, rfl, .list (.inl (.inl ha)) (.inl fun z => ?_) (dd.imp (fun _ _ => ⟨id, id⟩) fun b _ => mono b)⟩
      rcases z with z | z
      · exact R.own_av ⟨i, _, h1, rfl, h2⟩ z
      · exact (own _ z).2 rfl
    · rw [List.getElem?_set_ne hj] at q1
      exact (R.slot j t o' q1 q2).imp fun b _ => mono b
  · have get : ∀ {j : Nat} {t : Slot}, (e.set i (.d (.list xs)))[j]? = some t → isOwn t = true → e[j]? = some t := fun {j t} q1 q2 => by
      by_cases hj : i = j
      · subst hj
        rw [List.getElem?_set_self (List.getElem?_eq_some_iff.mp h1).1] at q1
        cases q1; cases q2
      · rw [List.getElem?_set_ne hj] at q1; exact q1
    exact R.inj j k t1 t2 b (get q1 q2) q2 (get q3 q4) q4 q5 q6
theorem wipeS_length : ∀ vs : List Nat, (wipeS e vs).length = e.length
  | [] => rfl
  | v :: vs => by unfold wipeS; rw [List.length_set, wipeS_length vs]
theorem Rel.wipe (R : Rel P e σ H) : ∀ vs : List Nat, Rel P (wipeS e vs) (L2.wipe σ vs) H
  | [] => R
  | v :: vs => (R.wipe vs).set rfl trivial
theorem wipeS_own : ∀ {vs : List Nat} {j : Nat} {t : Slot}, e[j]? = some t → isOwn t = true → freeOf e vs = true → (wipeS e vs)[j]? = some t ∧ (L2.wipe σ vs)[j]? = σ[j]?
  | [], _, _, h, _, _ => ⟨h, rfl⟩
  | v :: vs, j, t, h, ht, hf => by
    unfold freeOf at hf
    simp only [List.all_cons, Bool.and_eq_true] at hf
    obtain ⟨h1, h2⟩ := wipeS_own (vs := vs) h ht hf.2
    have hj : v ≠ j := fun z => by
      subst z
      rw [h] at hf
      simp only [ht] at hf
      exact absurd hf.1 (by decide)
    unfold wipeS L2.wipe
    rw [List.getElem?_set_ne hj, List.getElem?_set_ne hj]
    exact ⟨h1, h2⟩
theorem avo_wipe {vs : List Nat} (hf : freeOf e vs = true) {a : Addr} (h : avo P e σ a) : avo P (wipeS e vs) (L2.wipe σ vs) a := by
  refine h.imp id fun ⟨j, t, h1, h2, h3⟩ => ?_
  obtain ⟨q1, q2⟩ := wipeS_own (σ := σ) h1 h2 hf
  exact ⟨j, t, q1, h2, by rw [q2]; exact h3⟩

/-! ### a later base -/
@[reducible] def Pk.at (P : Pk) (h0 : Hp) (hav : ∀ a, P.Av a → h0 a ≠ none) : Pk := { P with H0 := h0, avok := hav }
open Classical in
/-- the heap without the own ones -/
def lessOwn (e : Sl) (σ : L2.St) (H : Hp) : Hp := fun a => if Owns e σ a then none else H a
theorem lessOwn_av (R : Rel P e σ H) : ∀ a, P.Av a → lessOwn e σ H a ≠ none := fun a h => by
  unfold lessOwn
  rw [if_neg fun z => R.own_av z h]
  exact R.av_ne (.inl h)
theorem Rel.into (R : Rel P e σ H) : Rel (P.at (lessOwn e σ H) (lessOwn_av R)) e σ H where
  len := R.len
  slot := R.slot
  inj := R.inj
  fr := fun b o h => by
    have h : lessOwn e σ H b = some o := h
    unfold lessOwn at h
    split at h
    · cases h
    · exact h
  new := fun a h => by
    show lessOwn e σ H a = none
    unfold lessOwn
    rw [if_pos h]
theorem base_same (R : Rel P e σ H) : Same P.H0 (lessOwn e σ H) := fun b o h => by
  unfold lessOwn
  rw [if_neg fun z => by rw [R.new b z] at h; cases h]
  exact R.fr _ _ h
theorem Rel.out (R : Rel P e σ H) {e' : Sl} {σ' : L2.St} (R' : Rel (P.at (lessOwn e σ H) (lessOwn_av R)) e' σ' H') : Rel P e' σ' H' where
  len := R'.len
  slot := R'.slot
  inj := R'.inj
  fr := (base_same R).trans R'.fr
  new := fun a h => by
    have q := R'.new a h
    cases q2 : P.H0 a with
    | none => rfl
    | some o => have := base_same R _ _ q2; rw [show lessOwn e σ H a = none from q] at this; cases this
end

/-! ### statements' ends -/
def PostS (P : Pk) (D : Ends) : Out → Prop
  | .nx e' => ∀ σ' H', Rel P e' σ' H' → D.nx σ' H'
  | .ret x => ∀ v H', Same P.H0 H' → Den P.K P.Av H' v x → D.rt v H'
  | .bk e' => ∀ σ' H', Rel P e' σ' H' → D.bk σ' H'
  | .ct e' => ∀ σ' H', Rel P e' σ' H' → D.ct σ' H'
  | .ex c e' => ∀ σ' H', Rel P e' σ' H' → P.W (.ref (P.ca c)) none σ' H'
  | .stuck => False
def liftS (P : Pk) (f : Sl → Out) : L2.TS := fun D σ H => ∃ e, Rel P e σ H ∧ PostS P D (f e)
theorem PostS.into {P : Pk} {e : Sl} {σ : L2.St} {H : Hp} (R : Rel P e σ H) {D : Ends} : ∀ {o : Out}, PostS P D o → PostS (P.at (lessOwn e σ H) (lessOwn_av R)) D o
  | .nx _, h => fun σ' H' r => h σ' H' (R.out r)
  | .ret _, h => fun v H' s d => h v H' ((base_same R).trans s) d
  | .bk _, h => fun σ' H' r => h σ' H' (R.out r)
  | .ct _, h => fun σ' H' r => h σ' H' (R.out r)
  | .ex _ _, h => fun σ' H' r => h σ' H' (R.out r)
  | .stuck, h => h
theorem gdS {P : Pk} {e : Sl} {σ : L2.St} {D : Ends} : Gd P σ (fun (H : Hp) (r : Res Out) => Rel P e σ H ∧ PostS P D (match r with | .ok o => o | .ex c => .ex c e | .stuck => .stuck)) where
  back := fun s h => ⟨h.1.same s, h.2⟩
  ex := fun h H' s => h.2 σ H' (h.1.same s)
  no := fun h => h.2
theorem PSs.ofAll {ι : Type} {X : Cx} {st : List Stmt} {t : ι → L2.TS} (h : ∀ i, PSs X st (t i)) : PSs X st (fun D σ H => ∃ i, t i D σ H) := ⟨fun pins s σ H D I ⟨i, q⟩ => (h i).run pins s σ H D I q⟩
theorem PE.ofAll {ι : Sort _} {X : Cx} {ex : Expr} {t : ι → L2.TE} (h : ∀ i, PE X ex (t i)) : PE X ex (fun σ H Q => ∃ i, t i σ H Q) := ⟨fun pins s σ H Q I ⟨i, q⟩ => (h i).run pins s σ H Q I q⟩
theorem PTs.ofAll {ι : Sort _} {X : Cx} {ex : List Expr} {t : ι → L2.TT} (h : ∀ i, PTs X ex (t i)) : PTs X ex (fun σ H Q => ∃ i, t i σ H Q) := ⟨fun pins s σ H Q I ⟨i, q⟩ => (h i).run pins s σ H Q I q⟩

/-! ### targets -/
/-- the same but for the places vs -/
def Agr (σ σ1 : L2.St) (vs : List Nat) : Prop := σ1.length = σ.length ∧ ∀ j, j ∉ vs → σ1[j]? = σ[j]?
theorem wipe_in {σ : L2.St} {j : Nat} : ∀ {vs : List Nat}, j ∈ vs → (L2.wipe σ vs)[j]? = if j < σ.length then some none else none
  | v :: vs, h => by
    unfold L2.wipe
    by_cases e : v = j
    · subst e
      rw [List.getElem?_set_self']
      by_cases hl : v < σ.length
      · rw [if_pos hl, List.getElem?_eq_getElem (by rw [L2.wipe_length]; exact hl)]
        rfl
      · rw [if_neg hl, List.getElem?_eq_none (by rw [L2.wipe_length]; omega)]
        rfl
    · rw [List.getElem?_set_ne e]
      exact wipe_in ((List.mem_cons.mp h).resolve_left fun z => e z.symm)
theorem Agr.wipe {σ σ1 : L2.St} {vs : List Nat} (h : Agr σ σ1 vs) : L2.wipe σ1 vs = L2.wipe σ vs := by
  apply List.ext_getElem?
  intro j
  by_cases hj : j ∈ vs
  · rw [wipe_in hj, wipe_in hj, h.1]
  · rw [wipe_out hj, wipe_out hj]
    exact h.2 j hj
mutual
theorem bindT_out : ∀ {t : Tgt} {d : D} {e e1 : Sl}, bindT t d e = some e1 → ∀ j, (j ∉ t.ix → e1[j]? = e[j]?) ∧ (j ∈ t.ix → ∃ x, e1[j]? = some (.d x))
  | .nm i, d, e, e1, h, j => by
    simp only [bindT] at h
    split at h
    · rename_i hl
      simp only [Option.some.injEq] at h
      subst h
      refine ⟨fun hj => ?_, fun hj => ?_⟩
      · rw [List.getElem?_set_ne]
        intro z; exact hj (by rw [z]; exact List.mem_cons_self ..)
      · have : j = i := by simpa [Tgt.ix] using hj
        subst this
        exact ⟨d, List.getElem?_set_self hl⟩
    · cases h
  | .tp ts, d, e, e1, h, j => by
    cases d with
    | tuple xs => exact bindTs_out (by simpa only [bindT] using h) j
    | _ => simp [bindT] at h
theorem bindTs_out : ∀ {ts : List Tgt} {ds : List D} {e e1 : Sl}, bindTs ts ds e = some e1 → ∀ j, (j ∉ Tgt.ixs ts → e1[j]? = e[j]?) ∧ (j ∈ Tgt.ixs ts → ∃ x, e1[j]? = some (.d x))
  | [], [], e, e1, h, j => by
    simp only [bindTs, Option.some.injEq] at h
    subst h
    exact ⟨fun _ => rfl, fun z => by simp [Tgt.ixs] at z⟩
  | t :: ts, x :: xs, e, e1, h, j => by
    simp only [bindTs] at h
    cases q : bindT t x e with
    | none => rw [q] at h; simp at h
    | some e' =>
      rw [q] at h
      have h : bindTs ts xs e' = some e1 := h
      have a := bindT_out q j
      have b := bindTs_out h j
      simp only [Tgt.ixs, List.mem_append, not_or]
      refine ⟨fun z => (b.1 z.2).trans (a.1 z.1), fun z => ?_⟩
      by_cases hj : j ∈ Tgt.ixs ts
      · exact b.2 hj
      · rw [b.1 hj]
        exact a.2 (z.resolve_right hj)
  | [], _ :: _, _, _, h, _ => by simp [bindTs] at h
  | _ :: _, [], _, _, h, _ => by simp [bindTs] at h
end
theorem avo_out {P : Pk} {e e1 : Sl} {σ σ1 : L2.St} {vs : List Nat} (g : Agr σ σ1 vs) (h1 : ∀ j, j ∉ vs → e1[j]? = e[j]?) (h2 : ∀ j, j ∈ vs → ∃ x, e1[j]? = some (.d x)) {a : Addr} (h : avo P e1 σ1 a) : avo P e σ a := by
  refine h.imp id fun ⟨j, t, q1, q2, q3⟩ => ?_
  by_cases hj : j ∈ vs
  · obtain ⟨x, z⟩ := h2 j hj
    rw [q1] at z
    cases z
    cases q2
  · exact ⟨j, t, by rw [← h1 j hj]; exact q1, q2, by rw [← g.2 j hj]; exact q3⟩
def liftG (K : PySem.W.Frag) (t : Tgt) : L2.TG := fun v σ H Q => ∃ (P : Pk) (e : Sl) (d : D) (e1 : Sl), P.K = K ∧ Rel P e σ H ∧ Den P.K (avo P e σ) H v d ∧ bindT t d e = some e1 ∧ ∀ σ1, Rel P e1 σ1 H → Agr σ σ1 t.ix → Q σ1 H
def liftGs (K : PySem.W.Frag) (ts : List Tgt) : L2.TGs := fun vs σ H Q => ∃ (P : Pk) (e : Sl) (ds : List D) (e1 : Sl), P.K = K ∧ Rel P e σ H ∧ Dens P.K (avo P e σ) H vs ds ∧ bindTs ts ds e = some e1 ∧ ∀ σ1, Rel P e1 σ1 H → Agr σ σ1 (Tgt.ixs ts) → Q σ1 H
theorem PG.imp {X : Cx} {ex : Expr} {t t' : L2.TG} (h : PG X ex t) (i : ∀ v σ H Q, t' v σ H Q → t v σ H Q) : PG X ex t' := ⟨fun pins s σ H v u Q I r q => h.run pins s σ H v u Q I r (i _ _ _ _ q)⟩
theorem PGs.imp {X : Cx} {ex : List Expr} {t t' : L2.TGs} (h : PGs X ex t) (i : ∀ v σ H Q, t' v σ H Q → t v σ H Q) : PGs X ex t' := ⟨fun pins s σ H v u Q I r q => h.run pins s σ H v u Q I r (i _ _ _ _ q)⟩
section
variable {X : Cx} {K : PySem.W.Frag} {N : List Str} {pos : Pos}
theorem sg_nm (hN : X.N = N) (nd : N.Nodup) {i : Nat} {x : Str} (hi : N[i]? = some x) (hx : Loc X.env.scope x) (hf : X.fn x = true ∨ X.env.scope.names.lookup x = some .local) : PG X (.Name x pos) (liftG K (.nm i)) := by
  refine PG.imp (pg_name (i := i) (by rw [hN]; exact nd) (by rw [hN]; exact hi) hx hf) fun v σ H Q ⟨P, e, d, e1, hK, R, hd, hb, q⟩ => ?_
  simp only [bindT] at hb
  split at hb
  · simp only [Option.some.injEq] at hb
    subst hb
    exact q _ (R.setD hd) ⟨List.length_set .., fun j hj => List.getElem?_set_ne fun z => hj (by rw [z]; exact List.mem_cons_self ..)⟩
  · cases hb
theorem sgs_nil : PGs X [] (liftGs K []) := PGs.imp pgs_nil fun vs σ H Q ⟨P, e, d, e1, hK, R, hd, hb, q⟩ => by
  cases d with
  | nil =>
    cases hd
    simp only [bindTs, Option.some.injEq] at hb
    subst hb
    exact ⟨rfl, q _ R ⟨rfl, fun _ _ => rfl⟩⟩
  | cons x d => simp [bindTs] at hb
theorem sgs_cons {a : Expr} {es : List Expr} {t : Tgt} {ts : List Tgt} (h1 : PG X a (liftG K t)) (h2 : PGs X es (liftGs K ts)) (hs : (assignEach (a :: es) X.env).map (·.2) = assign a X.env :: (assignEach es X.env).map (·.2) := by rfl) : PGs X (a :: es) (liftGs K (t :: ts)) := by
  refine PGs.imp (pgs_cons h1 h2 hs) fun vs σ H Q ⟨P, e, d, e1, hK, R, hd, hb, q⟩ => ?_
  cases hd with
  | nil => simp [bindTs] at hb
  | @cons v x vs xs hd hr =>
    simp only [bindTs] at hb
    cases q1 : bindT t x e with
    | none => rw [q1] at hb; simp at hb
    | some e' =>
      rw [q1] at hb
      have hb : bindTs ts xs e' = some e1 := hb
      refine ⟨_, _, rfl, P, e, x, e', hK, R, hd, q1, fun σ1 R1 g1 => ?_⟩
      have sm := bindT_out q1
      refine ⟨P, e', xs, e1, hK, R1, hr.imp (fun _ _ => ⟨id, id⟩) (fun b _ z => avo_out g1 (fun j => (sm j).1) (fun j => (sm j).2) z), hb, fun σ2 R2 g2 => q σ2 R2 ⟨g2.1.trans g1.1, fun j hj => ?_⟩⟩
      simp only [Tgt.ixs, List.mem_append, not_or] at hj
      exact (g2.2 j hj.2).trans (g1.2 j hj.1)
theorem bindTs_len : ∀ {ts : List Tgt} {ds : List D} {e e1 : Sl}, bindTs ts ds e = some e1 → ds.length = ts.length
  | [], [], _, _, _ => rfl
  | t :: ts, x :: xs, e, e1, h => by
    simp only [bindTs] at h
    cases q : bindT t x e with
    | none => rw [q] at h; simp at h
    | some e' => rw [q] at h; exact congrArg (· + 1) (bindTs_len (show bindTs ts xs e' = some e1 from h))
  | [], _ :: _, _, _, h => by simp [bindTs] at h
  | _ :: _, [], _, _, h => by simp [bindTs] at h
theorem sg_tp (hc : X.calm = true) (hK : X.K = K) {es : List Expr} {k : Nat} {ts : List Tgt} (h : PGs X es (liftGs K ts)) (hn : (assignEach es X.env).length = ts.length := by rfl) (hst : (assignEach es X.env).findIdx? (·.1) = none := by rfl) : PG X (.Tuple es k pos) (liftG K (.tp ts)) := by
  refine PG.imp (pg_tup hc h hn hst) fun v σ H Q ⟨P, e, d, e1, hK', R, hd, hb, q⟩ => ?_
  cases d with
  | tuple xs =>
    simp only [bindT] at hb
    cases hd with
    | tuple hq ht =>
      refine ⟨_, _, rfl, by rw [hK, ← hK']; exact (.inl (.inl hq)), by rw [ht.length]; exact bindTs_len hb, P, e, xs, e1, hK', R, ht, hb, q⟩
  | _ => simp [bindT] at hb
end
end
end Rf

set_option Elab.async false
set_option linter.all false
set_option maxRecDepth 100000
set_option maxHeartbeats 1000000
/-! Rf, part G: what is walked; comprehensions. -/
namespace Rf
noncomputable section
open PySem PySem.Spec PyProof.Rows L2
section
variable {K : PySem.W.Frag} {av ow : Addr → Prop} {H H' : Hp}
mutual
theorem Den.keep (hw : ∀ b, ow b → av b) (ht : ∀ b, ow b → (∀ ys, H b ≠ some (.tup ys)) ∧ ∀ o u, H b ≠ some (.frz o u)) (kp : ∀ b o, H b = some o → ¬ ow b → H' b = some o) : ∀ {v : V} {d : D}, Den K av H v d → Den K (fun a => av a ∨ H a = none) H' v d
  | _, _, .none => .none
  | _, _, .bool b => .bool b
  | _, _, .int i => .int i
  | _, _, .str x => .str x
  | _, _, .list h n t => .list (n.elim (fun n => h.imp (fun h => h.imp (fun q => kp _ _ q fun z => n (hw _ z)) fun ⟨o, q⟩ => ⟨o, kp _ _ q fun z => n (hw _ z)⟩) id) .inr) (n.elim (fun n => h.elim (fun h => .inl fun z => z.elim n (rd_ne h)) .inr) .inr) (Dens.keep hw ht kp t)
  | _, _, .tuple h t => .tuple (kp _ _ h fun z => (ht _ z).1 _ h) (Dens.keep hw ht kp t)
  | _, _, .dict h n t => .dict (h.imp (fun q => kp _ _ q fun z => n (hw _ z)) fun ⟨o, q⟩ => ⟨o, kp _ _ q fun z => n (hw _ z)⟩) (fun z => z.elim n (rd_ne h)) (DenKs.keep hw ht kp t)
theorem Dens.keep (hw : ∀ b, ow b → av b) (ht : ∀ b, ow b → (∀ ys, H b ≠ some (.tup ys)) ∧ ∀ o u, H b ≠ some (.frz o u)) (kp : ∀ b o, H b = some o → ¬ ow b → H' b = some o) : ∀ {v : List V} {d : List D}, Dens K av H v d → Dens K (fun a => av a ∨ H a = none) H' v d
  | _, _, .nil => .nil
  | _, _, .cons x y => .cons (Den.keep hw ht kp x) (Dens.keep hw ht kp y)
theorem DenKs.keep (hw : ∀ b, ow b → av b) (ht : ∀ b, ow b → (∀ ys, H b ≠ some (.tup ys)) ∧ ∀ o u, H b ≠ some (.frz o u)) (kp : ∀ b o, H b = some o → ¬ ow b → H' b = some o) : ∀ {v : List (Key × V)} {d : List (D × D)}, DenKs K av H v d → DenKs K (fun a => av a ∨ H a = none) H' v d
  | _, _, .nil => .nil
  | _, _, .cons x y => .cons (Den.keep hw ht kp x) (DenKs.keep hw ht kp y)
end
/-- an iterator that walks its -/
def ItOk (K : PySem.W.Frag) (av ow : Addr → Prop) (H : Hp) (J : It) (its : List D) : Prop :=
  ∀ i H', (∀ b o, H b = some o → ¬ ow b → H' b = some o) → (i < its.length → J.go i H') ∧ (its.length ≤ i → J.stop i H') ∧ ∀ x H'', J.yld i H' x H'' → ∀ d, its[i]? = some d → Same H' H'' ∧ Den K (fun a => av a ∨ H a = none) H'' x d
end
theorem Rel.kinds {P : Pk} {e : Sl} {σ : L2.St} {H : Hp} (R : Rel P e σ H) : ∀ b, Owns e σ b → (∀ ys, H b ≠ some (.tup ys)) ∧ ∀ o u, H b ≠ some (.frz o u) := fun b ⟨i, s, h1, hs, h2⟩ => by
  have q := R.slot i s _ h1 h2
  cases s with
  | un => cases hs
  | ob _ => cases hs
  | d _ => cases hs
  | ol xs => obtain ⟨c, ys, e1, e2, _⟩ := q; cases e1; exact ⟨fun _ z => by (rw [e2] at z; cases z), fun _ _ z => by (rw [e2] at z; cases z)⟩
  | od xs => obtain ⟨c, ys, e1, e2, _⟩ := q; cases e1; exact ⟨fun _ z => by (rw [e2] at z; cases z), fun _ _ z => by (rw [e2] at z; cases z)⟩
  | ot xs => obtain ⟨c, ys, e1, e2, _⟩ := q; cases e1; exact ⟨fun _ z => by (rw [e2] at z; cases z), fun _ _ z => by (rw [e2] at z; cases z)⟩
def PostI (P : Pk) (e : Sl) (σ : L2.St) (H : Hp) (Q : It → Hp → Prop) : Res (List D) → Prop
  | .ok its => ∀ J H', Same H H' → ItOk P.K (avo P e σ) (Owns e σ) H' J its → Q J H'
  | .ex c => ∀ H', Same H H' → P.W (.ref (P.ca c)) none σ H'
  | .stuck => False
def liftI (P : Pk) (f : Sl → Res (List D)) : L2.TI := fun σ H Q => ∃ e, Rel P e σ H ∧ PostI P e σ H Q (f e)
def srcs (Φ : FT) (k : SrcK) (ES : List Exp) (e : Sl) : Res (List D) := (evs Φ ES e).bind fun xs => Res.of (srcD k xs)
theorem PI.imp {X : Cx} {tg ex : Expr} {t t' : L2.TI} (h : PI X tg ex t) (i : ∀ σ H Q, t' σ H Q → t σ H Q) : PI X tg ex t' := ⟨fun pins s σ H Q I q => h.run pins s σ H Q I (i _ _ _ q)⟩
theorem gdI {P : Pk} {e : Sl} {σ : L2.St} {Q : It → Hp → Prop} : Gd P σ (fun H r => PostI P e σ H Q r) := ⟨fun {H H' r} s h => match r, h with
  | .ok _, h => fun v H2 s2 d => h v H2 (s.trans s2) d
  | .ex _, h => fun H2 s2 => h H2 (s.trans s2)
  | .stuck, h => h, fun h => h, fun h => h⟩
section
variable {X : Cx} {P : Pk} {N : List Str} {sc : Scope} {m : Nat} {Φ : FT} {A B E : Exp} {ES : List Exp} {a b c tg : Expr} {es : List Expr} {pos : Pos}
theorem rd_keep {ow : Addr → Prop} {H H' : Hp} {l : Addr} {u : HO} (kp : ∀ b o, H b = some o → ¬ ow b → H' b = some o) (n : ¬ ow l) (h : Rd H l u) : Rd H' l u := h.imp (fun q => kp _ _ q n) fun ⟨o, q⟩ => ⟨o, kp _ _ q n⟩
theorem sqt_keep {K : PySem.W.Frag} {ow : Addr → Prop} {H H' : Hp} {l : Addr} {us : List V} (ht : ∀ b, ow b → (∀ ys, H b ≠ some (.tup ys)) ∧ ∀ o u, H b ≠ some (.frz o u)) (kp : ∀ b o, H b = some o → ¬ ow b → H' b = some o) (h : SqT K H l us) : SqT K H' l us :=
  h.imp (fun h => h.imp (fun q => kp _ _ q fun z => (ht _ z).1 _ q) fun ⟨o, q⟩ => ⟨o, kp _ _ q fun z => (ht _ z).2 _ _ q⟩) id
theorem it_list {K : PySem.W.Frag} {av ow : Addr → Prop} {H : Hp} {l : Addr} {us : List V} {ds : List D} (hw : ∀ b, ow b → av b) (ht : ∀ b, ow b → (∀ ys, H b ≠ some (.tup ys)) ∧ ∀ o u, H b ≠ some (.frz o u)) (n : ¬ av l ∨ KLst K l us) (h : SqL K H l us) (hd : Dens K av H us ds) : ItOk K av ow H (Itl K l) ds := fun i H' kp => by
  have h' : SqL K H' l us := n.elim (fun n => h.imp (rd_keep kp fun z => n (hw _ z)) id) .inr
  have hl := hd.length
  refine ⟨fun hi => ⟨us, us[i], h', List.getElem?_eq_getElem (by omega)⟩, fun hi => ⟨us, h', by omega⟩, fun x H'' y d hdd => ?_⟩
  obtain ⟨rfl, y⟩ := y
  refine ⟨Same.refl _, ?_⟩
  obtain ⟨d', e1, e2⟩ := hd.get (y us h')
  rw [hdd] at e1
  cases e1
  exact e2.keep hw ht kp
theorem it_tup {K : PySem.W.Frag} {av ow : Addr → Prop} {H : Hp} {l : Addr} {us : List V} {ds : List D} (hw : ∀ b, ow b → av b) (ht : ∀ b, ow b → (∀ ys, H b ≠ some (.tup ys)) ∧ ∀ o u, H b ≠ some (.frz o u)) (h : SqT K H l us) (hd : Dens K av H us ds) : ItOk K av ow H (Itt K l) ds := fun i H' kp => by
  have h' := sqt_keep ht kp h
  have hl := hd.length
  refine ⟨fun hi => ⟨us, us[i], h', List.getElem?_eq_getElem (by omega)⟩, fun hi => ⟨us, h', by omega⟩, fun x H'' y d hdd => ?_⟩
  obtain ⟨rfl, y⟩ := y
  refine ⟨Same.refl _, ?_⟩
  obtain ⟨d', e1, e2⟩ := hd.get (y us h')
  rw [hdd] at e1
  cases e1
  exact e2.keep hw ht kp
theorem ow_av {e : Sl} {σ : L2.St} : ∀ b, Owns e σ b → avo P e σ b := fun _ z => .inr z
theorem si_lst (C : Ctx X P N sc) (ha : PE X a (lift P 2 (ev Φ A))) : PI X tg a (liftI P (srcs Φ .lst [A])) := by
  refine PI.imp (pi_list ha) fun σ H Q ⟨e, R, p⟩ => ⟨e, R, ?_⟩
  unfold srcs at p
  cases q : ev Φ A e with
  | ok d =>
    simp only [evs, q, Res.bind_ok] at p
    intro v H1 s hd
    cases d with
    | list ds =>
      obtain ⟨l, us, rfl, h1, h2, h3⟩ := hd
      exact ⟨l, rfl, ⟨us, by rw [C.hK]; exact h1⟩, by rw [C.hK]; exact p _ H1 s (it_list ow_av (R.same s).kinds h2 h1 h3)⟩
    | _ => exact p.elim
  | ex c => simp only [evs, q, Res.bind_ex] at p; exact p
  | stuck => simp only [evs, q, Res.bind_stuck] at p; exact p.elim
theorem si_tup (C : Ctx X P N sc) (ha : PE X a (lift P 2 (ev Φ A))) : PI X tg a (liftI P (srcs Φ .tup [A])) := by
  refine PI.imp (pi_tup ha) fun σ H Q ⟨e, R, p⟩ => ⟨e, R, ?_⟩
  unfold srcs at p
  cases q : ev Φ A e with
  | ok d =>
    simp only [evs, q, Res.bind_ok] at p
    intro v H1 s hd
    cases d with
    | tuple ds =>
      obtain ⟨l, us, rfl, h1, h3⟩ := d2_tup hd
      exact ⟨l, rfl, ⟨us, by rw [C.hK]; exact h1⟩, by rw [C.hK]; exact p _ H1 s (it_tup ow_av (R.same s).kinds h1 h3)⟩
    | _ => exact p.elim
  | ex c => simp only [evs, q, Res.bind_ex] at p; exact p
  | stuck => simp only [evs, q, Res.bind_stuck] at p; exact p.elim
theorem si_str (ha : PE X a (lift P 0 (ev Φ A))) : PI X tg a (liftI P (srcs Φ .str [A])) := by
  refine PI.imp (pi_str ha) fun σ H Q ⟨e, R, p⟩ => ⟨e, R, ?_⟩
  unfold srcs at p
  cases q : ev Φ A e with
  | ok d =>
    simp only [evs, q, Res.bind_ok] at p
    intro v H1 s hd
    cases d with
    | str z =>
      obtain rfl := d2_str hd
      refine ⟨z, rfl, p _ H1 s fun i H' kp => ?_⟩
      have hl : (z.cps.toList.map fun c => PyData.str (S [c])).length = z.cps.size := by simp
      refine ⟨fun hi => by rw [hl] at hi; exact hi, fun hi => by rw [hl] at hi; exact hi, fun x H'' y d hdd => ?_⟩
      obtain ⟨rfl, c, hc, rfl⟩ := y
      refine ⟨Same.refl _, ?_⟩
      rw [List.getElem?_map, Array.getElem?_toList, hc] at hdd
      simp only [Option.map_some, Option.some.injEq] at hdd
      subst hdd
      exact .str _
    | _ => exact p.elim
  | ex c => simp only [evs, q, Res.bind_ex] at p; exact p
  | stuck => simp only [evs, q, Res.bind_stuck] at p; exact p.elim
theorem it_rng {K : PySem.W.Frag} {av ow : Addr → Prop} {H : Hp} (lo : Int) (n : Nat) : ItOk K av ow H (Itr lo n) (rngD lo n) := fun i H' kp => by
  have hl : (rngD lo n).length = n := by simp [rngD]
  refine ⟨fun hi => by rw [hl] at hi; exact hi, fun hi => by rw [hl] at hi; exact hi, fun x H'' y d hdd => ?_⟩
  obtain ⟨rfl, rfl⟩ := y
  refine ⟨Same.refl _, ?_⟩
  unfold rngD at hdd
  rw [List.getElem?_map] at hdd
  cases q : (List.range n)[i]? with
  | none => rw [q] at hdd; cases hdd
  | some j =>
    rw [q] at hdd
    have : j = i := by
      have := List.getElem?_eq_some_iff.mp q
      obtain ⟨h, e⟩ := this
      rw [List.getElem_range] at e
      exact e.symm
    subst this
    simp only [Option.map_some, Option.some.injEq] at hdd
    subst hdd
    exact .int _
theorem si_rng1 {p pos : Pos} (hg : X.env.kindOf "range" = some .globalImplicit) (hm : X.mg "range" = none) (ha : PA X [a] (lifts P 0 (evs Φ [A]))) (hs : starEach [a] X.env = [(false, eval a X.env)] := by rfl) :
    PI X tg (.Call (.Name "range" p) [a] [] pos) (liftI P (srcs Φ .rng [A])) := by
  refine PI.imp (pi_range1 hg hm ha hs) fun σ H Q ⟨e, R, p⟩ => ⟨e, R, ?_⟩
  refine Posts.weaken (bindZs (m := 0) (gdI) R p) fun vs H1 ⟨xs, hx, s1, R1, d1, p1⟩ => ?_
  have hlen := evs_len hx
  match xs, hlen with
  | [x], _ =>
    match vs, d1 with
    | [v], d1 =>
      cases x with
      | int n =>
        simp only [srcD] at p1
        split at p1
        · rename_i hr
          obtain rfl := d2_int d1.1
          exact ⟨n, rfl, hr.1, hr.2, p1 _ H1 (Same.refl _) (it_rng 0 n.toNat)⟩
        · exact p1.elim
      | _ => exact p1.elim
theorem si_rng2 {p pos : Pos} (hg : X.env.kindOf "range" = some .globalImplicit) (hm : X.mg "range" = none) (ha : PA X [a, b] (lifts P 0 (evs Φ [A, B]))) (hs : starEach [a, b] X.env = [(false, eval a X.env), (false, eval b X.env)] := by rfl) (hs2 : starEach [b] X.env = [(false, eval b X.env)] := by rfl) :
    PI X tg (.Call (.Name "range" p) [a, b] [] pos) (liftI P (srcs Φ .rng [A, B])) := by
  refine PI.imp (pi_range2 hg hm ha hs hs2) fun σ H Q ⟨e, R, p⟩ => ⟨e, R, ?_⟩
  refine Posts.weaken (bindZs (m := 0) (gdI) R p) fun vs H1 ⟨xs, hx, s1, R1, d1, p1⟩ => ?_
  have hlen := evs_len hx
  match xs, hlen with
  | [x, y], _ =>
    match vs, d1 with
    | [v, w], d1 =>
      cases x with
      | int i =>
        cases y with
        | int j =>
          simp only [srcD] at p1
          split at p1
          · rename_i hr
            obtain rfl := d2_int d1.1
            obtain rfl := d2_int d1.2.1
            exact ⟨i, j, rfl, hr, p1 _ H1 (Same.refl _) (it_rng i (j - i).toNat)⟩
          · exact p1.elim
        | _ => exact p1.elim
      | _ => exact p1.elim

theorem zip_len : ∀ {xs ys : List D}, (zipD xs ys).length = min xs.length ys.length
  | [], _ => by simp [zipD]
  | _ :: _, [] => by simp [zipD]
  | x :: xs, y :: ys => by simp only [zipD, List.length_cons, zip_len]; omega
theorem zip_get : ∀ {xs ys : List D} {i : Nat} {d : D}, (zipD xs ys)[i]? = some d → ∃ x y, xs[i]? = some x ∧ ys[i]? = some y ∧ d = .tuple [x, y]
  | [], _, _, _, h => by simp [zipD] at h
  | _ :: _, [], _, _, h => by simp [zipD] at h
  | x :: xs, y :: ys, 0, d, h => by simp only [zipD, List.getElem?_cons_zero, Option.some.injEq] at h; exact ⟨x, y, rfl, rfl, h.symm⟩
  | x :: xs, y :: ys, i + 1, d, h => by simp only [zipD, List.getElem?_cons_succ] at h ⊢; exact zip_get h
theorem si_zip (C : Ctx X P N sc) {p tpos : Pos} {elts : List Expr} {kk : Nat} (hg : X.env.kindOf "zip" = some .globalImplicit) (hm : X.mg "zip" = none) (ha : PA X [a, b] (lifts P 2 (evs Φ [A, B]))) (hs : starEach [a, b] X.env = (false, eval a X.env) :: starEach [b] X.env := by rfl) (hpl : (backTo pos (starEach [b] X.env)).any (·.1) = false := by rfl) :
    PI X (.Tuple elts kk tpos) (.Call (.Name "zip" p) [a, b] [] pos) (liftI P (srcs Φ .zip [A, B])) := by
  refine PI.imp (RZ.pi_zipA hg hm ha hs hpl) fun σ H Q ⟨e, R, p⟩ => ⟨e, R, ?_⟩
  refine Posts.weaken (bindZs (m := 2) (gdI) R p) fun vs H1 ⟨xs, hx, s1, R1, d1, p1⟩ => ?_
  have hlen := evs_len hx
  match xs, hlen with
  | [x, y], _ =>
    match vs, d1 with
    | [v, w], d1 =>
      have fin : ∀ {T : Addr} {H' : Hp} {x1 y1 : V} {x2 y2 : D}, H' T = none → Den P.K (fun a => avo P e σ a ∨ H1 a = none) H' x1 x2 → Den P.K (fun a => avo P e σ a ∨ H1 a = none) H' y1 y2 → Same H' (upd H' T (.tup [x1, y1])) ∧ Den P.K (fun a => avo P e σ a ∨ H1 a = none) (upd H' T (.tup [x1, y1])) (.ref T) (.tuple [x2, y2]) := fun {T H' x1 y1 x2 y2} nT hx hy =>
        ⟨same_upd nT, .tuple upd_same (.cons (hx.same (same_upd nT)) (.cons (hy.same (same_upd nT)) .nil))⟩
      cases x with
      | list xs =>
        cases y with
        | list ys =>
          obtain ⟨l, us, rfl, h1, h2, h3⟩ := d1.1
          obtain ⟨k, ws, rfl, g1, g2, g3⟩ := d1.2.1
          suffices io : ItOk P.K (avo P e σ) (Owns e σ) H1 (Itz P.K l k) (zipD xs ys) from ⟨l, k, us, ws, rfl, .inl ⟨by rw [C.hK]; exact h1, by rw [C.hK]; exact g1, by rw [C.hK]; exact p1 _ H1 (Same.refl _) io⟩⟩
          intro i H' kp
          have h' : SqL P.K H' l us := h2.elim (fun n => h1.imp (rd_keep kp fun z => n (.inr z)) id) .inr
          have g' : SqL P.K H' k ws := g2.elim (fun n => g1.imp (rd_keep kp fun z => n (.inr z)) id) .inr
          have hl := h3.length
          have gl := g3.length
          refine ⟨fun hi => ?_, fun hi => ?_, fun x H'' y d hdd => ?_⟩
          · rw [zip_len] at hi
            exact ⟨us, ws, us[i], ws[i], h', g', List.getElem?_eq_getElem (by omega), List.getElem?_eq_getElem (by omega)⟩
          · rw [zip_len] at hi
            exact ⟨us, ws, h', g', by omega⟩
          · obtain ⟨T, x1, y1, rfl, nT, rfl, f1, f2⟩ := y
            obtain ⟨x2, y2, e1, e2, rfl⟩ := zip_get hdd
            obtain ⟨x2', r1, r2⟩ := h3.get (f1 us h')
            obtain ⟨y2', q1, q2⟩ := g3.get (f2 ws g')
            rw [e1] at r1; cases r1
            rw [e2] at q1; cases q1
            exact fin nT (r2.keep ow_av R1.kinds kp) (q2.keep ow_av R1.kinds kp)
        | _ => exact p1.elim
      | tuple xs =>
        cases y with
        | tuple ys =>
          obtain ⟨l, us, rfl, h1, h3⟩ := d2_tup d1.1
          obtain ⟨k, ws, rfl, g1, g3⟩ := d2_tup d1.2.1
          suffices io : ItOk P.K (avo P e σ) (Owns e σ) H1 (RZ.ItzT P.K l k) (zipD xs ys) from ⟨l, k, us, ws, rfl, .inr ⟨by rw [C.hK]; exact h1, by rw [C.hK]; exact g1, by rw [C.hK]; exact p1 _ H1 (Same.refl _) io⟩⟩
          intro i H' kp
          have h' := sqt_keep R1.kinds kp h1
          have g' := sqt_keep R1.kinds kp g1
          have hl := h3.length
          have gl := g3.length
          refine ⟨fun hi => ?_, fun hi => ?_, fun x H'' y d hdd => ?_⟩
          · rw [zip_len] at hi
            exact ⟨us, ws, us[i], ws[i], h', g', List.getElem?_eq_getElem (by omega), List.getElem?_eq_getElem (by omega)⟩
          · rw [zip_len] at hi
            exact ⟨us, ws, h', g', by omega⟩
          · obtain ⟨T, x1, y1, rfl, nT, rfl, f1, f2⟩ := y
            obtain ⟨x2, y2, e1, e2, rfl⟩ := zip_get hdd
            obtain ⟨x2', r1, r2⟩ := h3.get (f1 us h')
            obtain ⟨y2', q1, q2⟩ := g3.get (f2 ws g')
            rw [e1] at r1; cases r1
            rw [e2] at q1; cases q1
            exact fin nT (r2.keep ow_av R1.kinds kp) (q2.keep ow_av R1.kinds kp)
        | _ => exact p1.elim
      | _ => exact p1.elim

/-! ### comprehensions -/
/-- the pack of a block: Av more, no exception -/
@[reducible] def Pk.blk (P : Pk) (av : Addr → Prop) (h0 : Hp) (hav : ∀ a, av a → h0 a ≠ none) : Pk := { K := P.K, H0 := h0, Av := av, avok := hav, W := fun _ _ _ _ => False, ca := P.ca }
def liftTs (P : Pk) (f : Sl → Res Bool) : L2.TT := fun σ H Q => ∃ e, Rel P e σ H ∧ match f e with
  | .ok b => ∀ H', Same H H' → Q b H'
  | .ex c => ∀ H', Same H H' → P.W (.ref (P.ca c)) none σ H'
  | .stuck => False
theorem sf_nil : PTs X [] (liftTs P (evt Φ [])) := ⟨fun pins s σ H Q I ⟨e, R, p⟩ => by
  simp only [evt] at p
  exact (pts_nil (X := X)).run pins s σ H Q I (p H (Same.refl _))⟩
theorem sf_one (ha : PT X a (liftT P (ev Φ A))) : PTs X [a] (liftTs P (evt Φ [A])) := ⟨fun pins s σ H Q I ⟨e, R, p⟩ => (pts_one ha).run pins s σ H Q I ⟨e, R, by
  simp only [evt] at p
  cases q : ev Φ A e with
  | ok d =>
    simp only [q, Res.bind_ok] at p
    cases d with
    | bool k => cases k <;> exact p
    | _ => exact p.elim
  | ex c => simp only [q, Res.bind_ex] at p; exact p
  | stuck => simp only [q, Res.bind_stuck] at p⟩⟩
theorem compL_len {f : Sl → Res D} {g : Sl → Res Bool} {t : Tgt} {e : Sl} : ∀ {its zs : List D}, compL f g t its e = .ok zs → zs.length ≤ its.length
  | [], zs, h => by simp only [compL, Res.ok.injEq] at h; subst h; exact Nat.le_refl _
  | x :: its, zs, h => by
    simp only [compL] at h
    cases q1 : bindT t x e with
    | none => simp [q1] at h
    | some e1 =>
      simp only [q1] at h
      cases q2 : g e1 with
      | ok b =>
        simp only [q2, Res.bind_ok] at h
        cases b with
        | true =>
          rw [if_pos rfl] at h
          cases q3 : f e1 with
          | ok y =>
            simp only [q3, Res.bind_ok] at h
            cases q4 : compL f g t its e with
            | ok ys => simp only [q4, Res.bind_ok, Res.ok.injEq] at h; subst h; have := compL_len q4; simp only [List.length_cons]; omega
            | ex c => simp [q4] at h
            | stuck => simp [q4] at h
          | ex c => simp [q3] at h
          | stuck => simp [q3] at h
        | false => rw [if_neg (by decide)] at h; have := compL_len h; simp only [List.length_cons]; omega
      | ex c => simp [q2] at h
      | stuck => simp [q2] at h
/-- one turn -/
theorem compL_cons {f : Sl → Res D} {g : Sl → Res Bool} {t : Tgt} {e : Sl} {x : D} {its zs : List D} (h : compL f g t (x :: its) e = .ok zs) :
    ∃ e1 b, bindT t x e = some e1 ∧ g e1 = .ok b ∧ ((b = true ∧ ∃ y ys, f e1 = .ok y ∧ compL f g t its e = .ok ys ∧ zs = y :: ys) ∨ (b = false ∧ compL f g t its e = .ok zs)) := by
  simp only [compL] at h
  cases q1 : bindT t x e with
  | none => simp [q1] at h
  | some e1 =>
    simp only [q1] at h
    cases q2 : g e1 with
    | ok b =>
      simp only [q2, Res.bind_ok] at h
      cases b with
      | true =>
        rw [if_pos rfl] at h
        cases q3 : f e1 with
        | ok y =>
          simp only [q3, Res.bind_ok] at h
          cases q4 : compL f g t its e with
          | ok ys => simp only [q4, Res.bind_ok, Res.ok.injEq] at h; exact ⟨e1, true, rfl, q2, .inl ⟨rfl, y, ys, q3, rfl, h.symm⟩⟩
          | ex c => simp [q4] at h
          | stuck => simp [q4] at h
        | ex c => simp [q3] at h
        | stuck => simp [q3] at h
      | false => rw [if_neg (by decide)] at h; exact ⟨e1, false, rfl, q2, .inr ⟨rfl, h⟩⟩
    | ex c => simp [q2] at h
    | stuck => simp [q2] at h
theorem Dens.mono {K : PySem.W.Frag} {a1 b1 : Addr → Prop} {H : Hp} {vs : List V} {ds : List D} (h : Dens K a1 H vs ds) (f : ∀ a, H a ≠ none → b1 a → a1 a) : Dens K b1 H vs ds := h.imp (fun _ _ => ⟨id, id⟩) f
theorem tLc_of {own : List Nat} {t : Tgt} {k : SrcK} {IFS : List Exp} (hown : own = t.ix) {σ : L2.St} {H : Hp} {Q : VK} (h : liftN P 2 (ev Φ (.comp E t k ES IFS)) σ H Q) :
    tLc (liftI P (srcs Φ k ES)) (liftG P.K t) (fun σ H Q => ∃ i : ((av : Addr → Prop) ×' (h0 : Hp) ×' (∀ a, av a → h0 a ≠ none)), liftTs (P.blk i.1 i.2.1 i.2.2) (evt Φ IFS) σ H Q) (fun σ H Q => ∃ i : ((av : Addr → Prop) ×' (h0 : Hp) ×' (∀ a, av a → h0 a ≠ none)), lift (P.blk i.1 i.2.1 i.2.2) 2 (ev Φ E) σ H Q) own σ H Q := by
  subst hown
  obtain ⟨e, R, p⟩ := h
  refine ⟨e, R, ?_⟩
  simp only [ev] at p
  have p : PostN P e σ 2 H Q ((srcs Φ k ES e).bind fun its => if (freeOf e t.ix && decide (its.length ≤ line)) = true then (noEx (compL (fun e' => ev Φ E e') (fun e' => evt Φ IFS e') t its (wipeS e t.ix))).bind fun ys => .ok (.list ys) else .stuck) := by
    unfold srcs
    cases q : evs Φ ES e with
    | ok xs => simpa only [q, Res.bind_ok] using p
    | ex c => simpa only [q, Res.bind_ex] using p
    | stuck => simpa only [q, Res.bind_stuck] using p
  cases q : srcs Φ k ES e with
  | ex c => rw [q] at p; exact p
  | stuck => rw [q] at p; exact p
  | ok its =>
    rw [q] at p
    simp only [Res.bind_ok] at p
    intro J H1 s1 io D nD
    have R1 := R.same s1
    cases hf : (freeOf e t.ix && decide (its.length ≤ line)) with
    | false => rw [hf, if_neg (by decide)] at p; exact p.elim
    | true =>
      rw [hf, if_pos rfl] at p
      simp only [Bool.and_eq_true, decide_eq_true_eq] at hf
      cases hz : compL (fun e' => ev Φ E e') (fun e' => evt Φ IFS e') t its (wipeS e t.ix) with
      | ex c => rw [hz] at p; exact p.elim
      | stuck => rw [hz] at p; exact p.elim
      | ok zs =>
        rw [hz] at p
        simp only [noEx, Res.bind_ok] at p
        have zl : zs.length ≤ its.length := compL_len hz
        -- the block's relation, at any later heap
        let avD : Addr → Prop := fun a => P.Av a ∨ a = D
        refine ⟨fun i m H2 => m = its.length - i ∧ i ≤ its.length ∧ Same H1 H2 ∧ ∃ acc ys zs', H2 D = some (.lst acc) ∧ Dens P.K (fun a => avo P e σ a ∨ a = D) H2 acc ys ∧ compL (fun e' => ev Φ E e') (fun e' => evt Φ IFS e') t (its.drop i) (wipeS e t.ix) = .ok zs' ∧ zs = ys ++ zs',
          ⟨its.length, by omega, Nat.zero_le _, same_upd nD, [], [], zs, upd_same, .nil, by simpa using hz, rfl⟩, ?_⟩
        rintro i m H2 ⟨rfl, hi, s2, acc, ys, zs', hD, dn, hc, hzs⟩
        obtain ⟨hgo, hstop, hy⟩ := io i H2 fun b o q _ => s2 _ _ q
        by_cases hlt : i < its.length
        · refine .inr ⟨hgo hlt, fun H' => Same H1 H' ∧ ∃ acc ys zs', H' D = some (.lst acc) ∧ Dens P.K (fun a => avo P e σ a ∨ a = D) H' acc ys ∧ compL (fun e' => ev Φ E e') (fun e' => evt Φ IFS e') t (its.drop (i + 1)) (wipeS e t.ix) = .ok zs' ∧ zs = ys ++ zs', fun H' hN => ⟨its.length - (i + 1), by omega, rfl, by omega, hN⟩, fun x H3 y => ?_⟩
          rw [List.drop_eq_getElem_cons hlt] at hc
          obtain ⟨e1, b, hb, hg, hrest⟩ := compL_cons hc
          obtain ⟨s3, dx⟩ := hy x H3 y _ (List.getElem?_eq_getElem hlt)
          -- the relation in the block
          have noD : ¬ Owns (wipeS e t.ix) (L2.wipe σ t.ix) D := fun z => (R1.wipe t.ix).own_ne z nD
          have s13 : Same H1 H3 := s2.trans s3
          have hD3 : H3 D = some (.lst acc) := s3 _ _ hD
          have hav : ∀ a, avD a → lessOwn (wipeS e t.ix) (L2.wipe σ t.ix) H3 a ≠ none := fun a z => by
            unfold lessOwn
            rcases z with z | rfl
            · rw [if_neg fun w => (R1.wipe t.ix).own_av w z]
              exact ((R1.wipe t.ix).same s13).av_ne (.inl z)
            · rw [if_neg noD, hD3]
              exact fun z => nomatch z
          have RB : Rel (P.blk avD (lessOwn (wipeS e t.ix) (L2.wipe σ t.ix) H3) hav) (wipeS e t.ix) (L2.wipe σ t.ix) H3 := by
            have R3 := (R1.wipe t.ix)
            refine ⟨R3.len, fun j s o q1 q2 => ((R3.slot j s o q1 q2).imp fun a ha z => ?_).same s13, R3.inj, fun b o q => ?_, fun a z => ?_⟩
            · rcases z with (z | rfl) | z
              · exact .inl z
              · exact absurd nD ha
              · exact .inr z
            · have q : lessOwn (wipeS e t.ix) (L2.wipe σ t.ix) H3 b = some o := q
              unfold lessOwn at q
              split at q
              · cases q
              · exact q
            · show lessOwn (wipeS e t.ix) (L2.wipe σ t.ix) H3 a = none
              unfold lessOwn
              rw [if_pos z]
          have ownsub : ∀ b, Owns (wipeS e t.ix) (L2.wipe σ t.ix) b → Owns e σ b := fun b ⟨j, s, q1, q2, q3⟩ => by
            have : ∀ {vs : List Nat} {j : Nat} {s : Slot}, (wipeS e vs)[j]? = some s → isOwn s = true → e[j]? = some s := by
              intro vs
              induction vs with
              | nil => intro j s h _; exact h
              | cons v vs ih =>
                intro j s h hs
                unfold wipeS at h
                by_cases hv : v = j
                · subst hv
                  rw [List.getElem?_set_self'] at h
                  cases q : (wipeS e vs)[v]? with
                  | none => rw [q] at h; simp at h
                  | some w => rw [q] at h; simp only [Option.map_eq_map, Option.map_some, Function.const_apply, Option.some.injEq] at h; subst h; cases hs
                · rw [List.getElem?_set_ne hv] at h
                  exact ih h hs
            exact ⟨j, s, this q1 q2, q2, (wipe_some q3).1⟩
          refine ⟨P.blk avD _ hav, wipeS e t.ix, _, e1, rfl, RB, dx.imp (fun _ _ => ⟨id, id⟩) (fun b _ z => ?_), hb, fun σ2 R2 g2 => ⟨?_, ⟨avD, _, hav⟩, e1, R2, ?_⟩⟩
          · rcases z with (z | rfl) | z
            · exact .inl (.inl z)
            · exact .inr nD
            · exact .inl (.inr (ownsub b z))
          · rw [g2.wipe]
            apply List.ext_getElem?
            intro j
            by_cases hj : j ∈ t.ix
            · rw [wipe_in hj, wipe_in hj, wipe_length]
            · rw [wipe_out hj]
          · rw [hg]
            intro H4 s4
            rcases hrest with ⟨rfl, y', ys', hfy, hc', rfl⟩ | ⟨rfl, hc'⟩
            · rw [if_pos rfl]
              refine ⟨⟨avD, _, hav⟩, e1, R2.same s4, ?_⟩
              rw [hfy]
              intro v H5 s5 hv
              have s15 : Same H1 H5 := (s13.trans s4).trans s5
              have hD5 : H5 D = some (.lst acc) := s5 _ _ (s4 _ _ hD3)
              have sm := bindT_out hb
              have d5 : Den P.K (fun a => avo P e σ a ∨ a = D) H5 v y' := hv.d2.imp (fun _ _ => ⟨id, id⟩) fun a _ z => by
                rcases z with (z | z) | rfl
                · exact .inl (.inl z)
                · obtain ⟨j, s, q1, q2, q3⟩ := z
                  obtain ⟨r1, r2⟩ := wipeS_own (σ := σ) q1 q2 hf.1
                  have hj : j ∉ t.ix := fun hj => by
                    obtain ⟨x0, r⟩ := (sm j).2 hj
                    have := hf.1
                    unfold freeOf at this
                    rw [List.all_eq_true] at this
                    have := this j hj
                    rw [q1] at this
                    simp only [q2] at this
                    exact absurd this (by decide)
                  exact .inr ⟨j, s, by rw [(sm j).1 hj]; exact r1, q2, by rw [g2.2 j hj, r2]; exact q3⟩
                · exact .inl (.inr rfl)
              have hk5 : (∀ ys, H5 D ≠ some (.tup ys)) ∧ ∀ o u, H5 D ≠ some (.frz o u) := ⟨fun _ z => by (rw [hD5] at z; cases z), fun _ _ z => by (rw [hD5] at z; cases z)⟩
              have acl : acc.length < sizeLine := by
                have h1 := dn.length
                have h2 : zs.length = ys.length + (ys'.length + 1) := by rw [hzs, List.length_append, List.length_cons]
                exact line_lt (by have := hf.2; omega)
              refine ⟨acc, hD5, acl, fun b o q => ?_, acc ++ [v], ys ++ [y'], ys', upd_same, ?_, hc', by rw [hzs, List.append_assoc]; rfl⟩
              · rw [upd_ne (fun z => by rw [z, nD] at q; cases q)]
                exact s15 _ _ q
              · have d6 := ((dn.same s3).same s4).same s5
                exact (d6.append (.cons d5 .nil)).upd hk5.1 hk5.2 (.inr rfl)
            · rw [if_neg (by decide)]
              exact ⟨s13.trans s4, acc, ys, zs', s4 _ _ hD3, (dn.same s3).same s4, hc', hzs⟩
        · refine .inl ⟨hstop (by omega), ?_⟩
          rw [List.drop_of_length_le (by omega)] at hc
          simp only [compL, Res.ok.injEq] at hc
          subst hc
          rw [List.append_nil] at hzs
          subst hzs
          have nD0 : H D = none := by
            cases q : H D with
            | none => rfl
            | some o => rw [s1 _ _ q] at nD; cases nD
          exact p _ H2 (fun b o q => s2 _ _ (s1 _ _ q)) ⟨D, acc, rfl, nD0, hD, dn⟩
end
end
end Rf

set_option Elab.async false
set_option linter.all false
set_option maxRecDepth 100000
set_option maxHeartbeats 1000000
/-! Rf, part H: statements. -/
namespace Rf
noncomputable section
open PySem PySem.Spec PyProof.Rows L2
section
variable {X : Cx} {P : Pk} {N : List Str} {sc : Scope} {m : Nat} {Φ : FT} {F : Nat} {A B E : Exp} {ES IFS : List Exp} {a b c tg : Expr} {es : List Expr} {pos : Pos}
theorem Ctx.at (C : Ctx X P N sc) (h0 : Hp) (hav : ∀ a, P.Av a → h0 a ≠ none) : Ctx X (P.at h0 hav) N sc := ⟨C.hK, C.hN, C.nd, C.hs, C.calm, C.un, C.tk, C.po⟩
theorem Ctx.blk (C : Ctx X P N sc) {scope : Scope} (av : Addr → Prop) (h0 : Hp) (hav : ∀ a, av a → h0 a ≠ none) (s : Shared) (H : Hp) (Cl : Addr) (cl : List (Str × Addr)) (fp : List Addr) : Ctx (X.blk s H scope (compEnvC scope cl Cl X.env) fp) (P.blk av h0 hav) N (relS scope sc) :=
  ⟨C.hK, C.hN, C.nd, by rw [← C.hs]; rfl, C.calm, C.un, takes0, PassesOwn.never⟩
/-- a comprehension -/
theorem se_comp (C : Ctx X P N sc) {scope : Scope} {own : List (Str × Nat)} {t : Tgt} {k : SrcK} {ifs : List Expr} {iter : Expr} (hi : PI X tg iter (liftI P (srcs Φ k ES))) (hown : own.map (·.2) = t.ix) (ok : BlkOk N sc scope own)
    (hg : ∀ (s : Shared) (H : Hp) (Cl : Addr) (cl : List (Str × Addr)) (fp : List Addr) (Pb : Pk), Ctx (X.blk s H scope (compEnvC scope cl Cl X.env) fp) Pb N (relS scope sc) → PG (X.blk s H scope (compEnvC scope cl Cl X.env) fp) tg (liftG P.K t))
    (ht : ∀ (s : Shared) (H : Hp) (Cl : Addr) (cl : List (Str × Addr)) (fp : List Addr) (av : Addr → Prop) (h0 : Hp) (hav : ∀ a, av a → h0 a ≠ none), Ctx (X.blk s H scope (compEnvC scope cl Cl X.env) fp) (P.blk av h0 hav) N (relS scope sc) → PTs (X.blk s H scope (compEnvC scope cl Cl X.env) fp) ifs (liftTs (P.blk av h0 hav) (evt Φ IFS)))
    (he : ∀ (s : Shared) (H : Hp) (Cl : Addr) (cl : List (Str × Addr)) (fp : List Addr) (av : Addr → Prop) (h0 : Hp) (hav : ∀ a, av a → h0 a ≠ none), Ctx (X.blk s H scope (compEnvC scope cl Cl X.env) fp) (P.blk av h0 hav) N (relS scope sc) → PE (X.blk s H scope (compEnvC scope cl Cl X.env) fp) a (lift (P.blk av h0 hav) 2 (ev Φ E)))
    (hs : ∀ x, foldedSetIterable iter X.env x = pure x := by intro _; rfl) :
    PE X (.ListComp a [⟨tg, iter, ifs, 0⟩] scope pos) (liftN P 2 (ev Φ (.comp E t k ES IFS))) :=
  PE.imp (pe_lc C.calm (by rw [C.hN]; exact C.nd) hi (by rw [C.hN, C.hs]; exact ok)
    (fun s H Cl cl fp => hg s H Cl cl fp (P.blk (fun _ => False) (fun _ => none) (fun _ z => z.elim)) (C.blk _ _ _ s H Cl cl fp))
    (fun s H Cl cl fp => PTs.ofAll fun i => ht s H Cl cl fp i.1 i.2.1 i.2.2 (C.blk _ _ _ s H Cl cl fp))
    (fun s H Cl cl fp => PE.ofAll fun i => he s H Cl cl fp i.1 i.2.1 i.2.2 (C.blk _ _ _ s H Cl cl fp)) hs) fun σ H Q h => tLc_of hown h
/-- name = a comprehension, in one row -/
theorem ss_lc {f : Sl → Out} (C : Ctx X P N sc) {y : Str} {py cpos : Pos} {i : Nat} {scope : Scope} {own : List (Str × Nat)} {t : Tgt} {k : SrcK} {ifs : List Expr} {iter : Expr} (hy : N[i]? = some y) (hyl : sc.names.lookup y = some .local)
    (hsw : swapsWith (.ListComp a [⟨tg, iter, ifs, 0⟩] scope cpos) (some (.Name y py)) pos.line X.env = pure true)
    (hi : PI X tg iter (liftI P (srcs Φ k ES))) (hown : own.map (·.2) = t.ix) (ok : BlkOk N sc scope own)
    (hg : ∀ (s : Shared) (H : Hp) (Cl : Addr) (cl : List (Str × Addr)) (fp : List Addr) (Pb : Pk), Ctx (X.blk s H scope (compEnvC scope cl Cl X.env) fp) Pb N (relS scope sc) → PG (X.blk s H scope (compEnvC scope cl Cl X.env) fp) tg (liftG P.K t))
    (ht : ∀ (s : Shared) (H : Hp) (Cl : Addr) (cl : List (Str × Addr)) (fp : List Addr) (av : Addr → Prop) (h0 : Hp) (hav : ∀ a, av a → h0 a ≠ none), Ctx (X.blk s H scope (compEnvC scope cl Cl X.env) fp) (P.blk av h0 hav) N (relS scope sc) → PTs (X.blk s H scope (compEnvC scope cl Cl X.env) fp) ifs (liftTs (P.blk av h0 hav) (evt Φ IFS)))
    (he : ∀ (s : Shared) (H : Hp) (Cl : Addr) (cl : List (Str × Addr)) (fp : List Addr) (av : Addr → Prop) (h0 : Hp) (hav : ∀ a, av a → h0 a ≠ none), Ctx (X.blk s H scope (compEnvC scope cl Cl X.env) fp) (P.blk av h0 hav) N (relS scope sc) → PE (X.blk s H scope (compEnvC scope cl Cl X.env) fp) a (lift (P.blk av h0 hav) 2 (ev Φ E)))
    (hf : ∀ D σ H, liftS P f D σ H → tAsg (liftN P 2 (ev Φ (.comp E t k ES IFS))) (gName i) D σ H)
    (hs : ∀ x, foldedSetIterable iter X.env x = pure x := by intro _; rfl) :
    PS X (.Assign [.Name y py] (.ListComp a [⟨tg, iter, ifs, 0⟩] scope cpos) pos) (liftS P f) :=
  PS.imp (ps_setLc C.calm (by rw [C.hN]; exact C.nd) (by rw [C.hN]; exact hy) (by rw [C.hs]; exact hyl) hsw hi (by rw [C.hN, C.hs]; exact ok)
    (fun s H Cl cl fp => hg s H Cl cl fp (P.blk (fun _ => False) (fun _ => none) (fun _ z => z.elim)) (C.blk _ _ _ s H Cl cl fp))
    (fun s H Cl cl fp => PTs.ofAll fun i => ht s H Cl cl fp i.1 i.2.1 i.2.2 (C.blk _ _ _ s H Cl cl fp))
    (fun s H Cl cl fp => PE.ofAll fun i => he s H Cl cl fp i.1 i.2.1 i.2.2 (C.blk _ _ _ s H Cl cl fp)) hs) fun D σ H h => tLc_of hown (hf D σ H h)

/-! ### assignments -/
theorem bindS {e : Sl} {σ : L2.St} {H : Hp} (R : Rel P e σ H) {D : Ends} {r : Res Rf.D} {G : Rf.D → Out} (h : PostS P D (Out.ofR r e G)) : Post P e σ m H (fun v H1 => ∃ x, r = .ok x ∧ Same H H1 ∧ Rel P e σ H1 ∧ DenM P e σ m H1 v x ∧ PostS P D (G x)) r := by
  cases r with
  | ok x => exact fun v H1 s d => ⟨x, rfl, s, R.same s, d, h⟩
  | ex c => exact fun H1 s => h σ H1 (R.same s)
  | stuck => exact h.elim
theorem bindSN {e : Sl} {σ : L2.St} {H : Hp} (R : Rel P e σ H) {D : Ends} {r : Res Rf.D} {G : Rf.D → Out} (h : PostS P D (Out.ofR r e G)) : PostN P e σ m H (fun v H1 => ∃ x, r = .ok x ∧ Same H H1 ∧ Rel P e σ H1 ∧ Fr2 P.K (av1 P e σ m) H v H1 x ∧ PostS P D (G x)) r := by
  cases r with
  | ok x => exact fun v H1 s d => ⟨x, rfl, s, R.same s, d, h⟩
  | ex c => exact fun H1 s => h σ H1 (R.same s)
  | stuck => exact h.elim
theorem bindST {e : Sl} {σ : L2.St} {H : Hp} (R : Rel P e σ H) {D : Ends} {r : Res Rf.D} {G : Rf.D → Out} (hG : ∀ d, (∀ k, d ≠ .bool k) → G d = .stuck) (h : PostS P D (Out.ofR r e G)) : PostT P σ H (fun k H1 => Same H H1 ∧ Rel P e σ H1 ∧ PostS P D (G (.bool k))) r := by
  cases r with
  | ok d =>
    cases d with
    | bool k => exact fun H1 s => ⟨s, R.same s, h⟩
    | none => have := hG .none (fun _ z => nomatch z); rw [Out.ofR_ok, this] at h; exact h.elim
    | int i => have := hG (.int i) (fun _ z => nomatch z); rw [Out.ofR_ok, this] at h; exact h.elim
    | str i => have := hG (.str i) (fun _ z => nomatch z); rw [Out.ofR_ok, this] at h; exact h.elim
    | list i => have := hG (.list i) (fun _ z => nomatch z); rw [Out.ofR_ok, this] at h; exact h.elim
    | tuple i => have := hG (.tuple i) (fun _ z => nomatch z); rw [Out.ofR_ok, this] at h; exact h.elim
    | dict i => have := hG (.dict i) (fun _ z => nomatch z); rw [Out.ofR_ok, this] at h; exact h.elim
  | ex c => exact fun H1 s => h σ H1 (R.same s)
  | stuck => exact h.elim
theorem PostN.weaken {e : Sl} {σ : L2.St} {H : Hp} {Q Q' : VK} {r : Res Rf.D} (h : PostN P e σ m H Q r) (w : ∀ v H', Q v H' → Q' v H') : PostN P e σ m H Q' r := by
  cases r with
  | ok d => exact fun v H' s hd => w _ _ (h v H' s hd)
  | ex c => exact h
  | stuck => exact h
theorem asg_of {i : Nat} {D : Ends} {σ : L2.St} {H : Hp} (h : liftS P (exec Φ F (.asg (.nm i) A)) D σ H) : tAsg (lift P 2 (ev Φ A)) (gName i) D σ H := by
  obtain ⟨e, R, p⟩ := h
  refine ⟨e, R, ?_⟩
  simp only [exec] at p
  refine Post.weaken (bindS (m := 2) R p) fun v H1 ⟨x, _, s, R1, hd, q⟩ => ?_
  simp only [bindT] at q
  split at q
  · rename_i e' hb
    split at hb
    · simp only [Option.some.injEq] at hb; subst hb; exact q _ H1 (R1.setD hd.d2)
    · cases hb
  · exact q.elim
theorem own_of {i : Nat} {D : Ends} {σ : L2.St} {H : Hp} (h : liftS P (exec Φ F (.own i A)) D σ H) : tAsg (liftN P 2 (ev Φ A)) (gName i) D σ H := by
  obtain ⟨e, R, p⟩ := h
  refine ⟨e, R, ?_⟩
  simp only [exec] at p
  refine PostN.weaken (bindSN (m := 2) R p) fun v H1 ⟨x, _, s, R1, hd, q⟩ => ?_
  cases x with
  | list xs =>
    obtain ⟨l, us, rfl, nl, hl, hx⟩ := hd
    simp only [ownS] at q
    split at q
    · exact q _ H1 (R.setNew nl s ⟨l, us, rfl, hl, hx⟩)
    · exact q.elim
  | dict kvs =>
    obtain ⟨l, us, rfl, nl, hl, hx⟩ := hd
    simp only [ownS] at q
    by_cases hk : keysOk kvs = true
    · rw [if_pos hk] at q
      simp only [] at q
      split at q
      · exact q _ H1 (R.setNew nl s ⟨l, us, rfl, hl, hx⟩)
      · exact q.elim
    · rw [if_neg hk] at q; exact q.elim
  | _ => exact q.elim
theorem ss_set (C : Ctx X P N sc) {i : Nat} {x : Str} {px : Pos} (hi : N[i]? = some x) (hx : Loc sc x) (he : PE X a (lift P 2 (ev Φ A))) (hs : swapsWith a (some (.Name x px)) pos.line X.env = pure false := by rfl) (hf : X.fn x = true ∨ X.env.scope.names.lookup x = some .local := by first | exact .inl rfl | exact .inr rfl) :
    PS X (.Assign [.Name x px] a pos) (liftS P (exec Φ F (.asg (.nm i) A))) :=
  PS.imp (ps_set (by rw [C.hN]; exact C.nd) (by rw [C.hN]; exact hi) (by rw [C.hs]; exact hx) he hs hf) fun D σ H h => asg_of h
theorem ss_own (C : Ctx X P N sc) {i : Nat} {x : Str} {px : Pos} (hi : N[i]? = some x) (hx : Loc sc x) (he : PE X a (liftN P 2 (ev Φ A))) (hs : swapsWith a (some (.Name x px)) pos.line X.env = pure false := by rfl) (hf : X.fn x = true ∨ X.env.scope.names.lookup x = some .local := by first | exact .inl rfl | exact .inr rfl) :
    PS X (.Assign [.Name x px] a pos) (liftS P (exec Φ F (.own i A))) :=
  PS.imp (ps_set (by rw [C.hN]; exact C.nd) (by rw [C.hN]; exact hi) (by rw [C.hs]; exact hx) he hs hf) fun D σ H h => own_of h
theorem asgN_of {i : Nat} {D : Ends} {σ : L2.St} {H : Hp} (h : liftS P (exec Φ F (.asg (.nm i) A)) D σ H) : tAsg (liftN P 2 (ev Φ A)) (gName i) D σ H := by
  obtain ⟨e, R, p⟩ := asg_of h
  exact ⟨e, R, PostN.post R p⟩
theorem ss_tgt (C : Ctx X P N sc) {t : Tgt} (hg : PG X tg (liftG P.K t)) (he : PE X a (lift P 2 (ev Φ A))) (hs : swapsWithSole [tg] a pos.line X.env = pure false := by rfl) (hw : swappedStores [tg] a X.env = pure none := by rfl) (h1 : (assignEach [tg] X.env).map (·.2) = [assign tg X.env] := by rfl) :
    PS X (.Assign [tg] a pos) (liftS P (exec Φ F (.asg t A))) := by
  refine PS.imp (ps_asg he hg hs hw h1) fun D σ H ⟨e, R, p⟩ => ⟨e, R, ?_⟩
  simp only [exec] at p
  refine Post.weaken (bindS (m := 2) R p) fun v H1 ⟨x, _, s, R1, hd, q⟩ => ?_
  cases hb : bindT t x e with
  | none => rw [hb] at q; exact q.elim
  | some e' => rw [hb] at q; exact ⟨P, e, x, e', rfl, R1, hd.d2, hb, fun σ1 R2 _ => q _ _ R2⟩
theorem ss_par (C : Ctx X P N sc) {i j : Nat} {x y : Str} {px py pt : Pos} {kt k2 : Nat} {pt2 : Pos} (hi : N[i]? = some x) (hj : N[j]? = some y) (hij : i ≠ j) (hx : sc.names.lookup x = some .local) (hy : sc.names.lookup y = some .local) (ha : PA X [a, b] (lifts P 2 (evs Φ [A, B])))
    (hw : swappedStores [.Tuple [.Name x px, .Name y py] kt pt] (.Tuple [a, b] k2 pt2) X.env = pure (some [x, y])) (hs : swapsWithSole [.Tuple [.Name x px, .Name y py] kt pt] (.Tuple [a, b] k2 pt2) pos.line X.env = pure false := by rfl) :
    PS X (.Assign [.Tuple [.Name x px, .Name y py] kt pt] (.Tuple [a, b] k2 pt2) pos) (liftS P (exec Φ F (.par i j A B))) := by
  refine PS.imp (ps_par C.calm (by rw [C.hN]; exact C.nd) (by rw [C.hN]; exact hi) (by rw [C.hN]; exact hj) hij (by rw [C.hs]; exact hx) (by rw [C.hs]; exact hy) ha hw hs) fun D σ H ⟨e, R, p⟩ => ⟨e, R, ?_⟩
  simp only [exec] at p
  cases q1 : ev Φ A e with
  | ex c => simp only [evs, q1, Res.bind_ex, Out.ofR_ex] at p ⊢; exact fun H1 s => p σ H1 (R.same s)
  | stuck => simp only [q1, Out.ofR_stuck] at p; exact p.elim
  | ok x1 =>
    cases q2 : ev Φ B e with
    | ex c => simp only [evs, q1, q2, Res.bind_ex, Res.bind_ok, Out.ofR_ex, Out.ofR_ok] at p ⊢; exact fun H1 s => p σ H1 (R.same s)
    | stuck => simp only [q1, q2, Out.ofR_stuck, Out.ofR_ok] at p; exact p.elim
    | ok y1 =>
      simp only [evs, q1, q2, Res.bind_ok, Out.ofR_ok] at p ⊢
      intro vs H1 s hd
      match vs, hd with
      | [v, w], hd =>
        refine ⟨v, w, rfl, ?_⟩
        split at p
        · have R1 := R.same s
          have r2 := R1.setD (i := i) hd.1.d2
          refine p _ H1 (r2.setD (hd.2.1.d2.imp (fun _ _ => ⟨id, id⟩) fun b _ z => z.imp id (own_set_d rfl)))
        · exact p.elim
theorem ss_aug (C : Ctx X P N sc) (op : BOp) (hop : op ≠ .pow) {i : Nat} {x : Str} {px : Pos} (hi : N[i]? = some x) (hx : Loc sc x) (he : PE X a (lift P 1 (ev Φ A))) (hf : X.fn x = true ∨ X.env.scope.names.lookup x = some .local := by first | exact .inl rfl | exact .inr rfl) :
    PS X (.AugAssign (.Name x px) (bOp op) a pos) (liftS P (exec Φ F (.aug i op A))) := by
  have o : PIp X (bOp op) (RB X.K (augD op)) := op_augD op hop
  rw [C.hK] at o
  refine PS.imp (ps_aug (by rw [C.hN]; exact C.nd) (by rw [C.hN]; exact hi) (by rw [C.hs]; exact hx) he o hf) fun D σ H ⟨e, R, p⟩ => ?_
  simp only [exec] at p
  cases q : e[i]? with
  | none => rw [q] at p; exact p.elim
  | some s =>
    rw [q] at p
    cases s with
    | d x1 =>
      obtain ⟨o1, h1, v, rfl, hd⟩ := R.at q
      refine ⟨v, h1, e, R, ?_⟩
      refine Post.weaken (bindS (m := 1) R p) fun w H1 ⟨y, _, s, R1, hy, q⟩ => ?_
      cases qz : augD op x1 y with
      | none => rw [qz] at q; exact q.elim
      | some z =>
        rw [qz] at q
        have R1 := R.same s
        refine ⟨_, _, _, x1, y, z, (hd.same s).mm (m := 1), hy, qz, fun u H2 s2 hz => q _ H2 ((R1.same s2).setD ?_)⟩
        exact (hz.two (c0 := avo P e σ) fun a z => R1.av_ne z).one
    | _ => exact p.elim

/-! ### own lists and dicts -/
theorem ss_app (C : Ctx X P N sc) {i : Nat} {x : Str} {px apos cpos : Pos} (hi : N[i]? = some x) (hv : Vis sc x) (he : PE X a (lift P 2 (ev Φ A)))
    (h1 : (((backTo cpos (starEach [a] X.env)).all fun x => !x.1) && (backToKw cpos (keywordEach [] X.env)).all (fun x => x.1.isSome) && decide (([a] : List Expr).length + ([] : List Keyword).length + (if ([] : List Keyword).isEmpty then 0 else 1) < 30)) = true := by rfl)
    (h2 : (apos.endLine == cpos.line) = true := by rfl) (h3 : starEach [a] X.env = (false, eval a X.env) :: starEach [] X.env := by rfl) (h4 : ((backTo cpos (starEach [] X.env)).any fun x => x.1) = false := by rfl) (hd : (x == ("__debug__" : Str)) = false := by decide) (hcd : (x == ("__classdict__" : Str)) = false := by decide)
    (hb : attributeBase (.Name x px) "append" X.env (eval (.Name x px) X.env) = eval (.Name x px) X.env := by rfl) (hs : swapsWith (.Call (.Attribute (.Name x px) "append" apos) [a] [] cpos) none pos.line X.env = pure false := by rfl) :
    PS X (.Expr (.Call (.Attribute (.Name x px) "append" apos) [a] [] cpos) pos) (liftS P (exec Φ F (.app i A))) := by
  refine PS.imp (ps_expr (pe_bm PySem.F.plainAttrs_list PySem.F.slot_list_append PySem.F.type_list_append mt_append (pe_var (i := i) (by rw [C.hN]; exact hi) (by rw [C.hs]; exact hv) hd hcd) (pa_cons he pa_nil h3) hb h1 h2 h3 h4) hs) fun D σ H ⟨e, R, p⟩ => ?_
  simp only [exec] at p
  cases q : e[i]? with
  | none => rw [q] at p; exact p.elim
  | some s =>
    rw [q] at p
    cases s with
    | ol xs =>
      obtain ⟨o1, h1, l, us, rfl, hl, dd⟩ := R.at q
      refine ⟨_, h1, .inl ⟨rfl, us, .inl (.inl hl)⟩, e, R, ?_⟩
      refine Post.weaken (bindS (m := 2) R p) fun w H1 ⟨y, _, s, R1, hy, p⟩ => ?_
      split at p
      · rename_i hz
        refine ⟨l, us, w, rfl, rfl, s _ _ hl, by rw [dd.length]; exact line_lt hz, p σ _ (R1.updOwn q rfl rfl h1 ⟨l, us ++ [w], rfl, upd_same, ?_⟩)⟩
        exact ((dd.same s).append (.cons hy.d2 .nil)).upd (R1.kinds _ ⟨i, _, q, rfl, h1⟩).1 (R1.kinds _ ⟨i, _, q, rfl, h1⟩).2 (.inr ⟨i, _, q, rfl, h1⟩)
      · exact p.elim
    | _ => exact p.elim
theorem ss_setl (C : Ctx X P N sc) {i : Nat} {x : Str} {px tp : Pos} (hi : N[i]? = some x) (hv : Vis sc x) (he : PE X a (lift P 2 (ev Φ A))) (hk : PE X b (lift P 0 (ev Φ B))) (hd : (x == ("__debug__" : Str)) = false := by decide) (hcd : (x == ("__classdict__" : Str)) = false := by decide)
    (ha : ∀ v, assign (.Subscript (.Name x px) b tp) X.env v = (do
      let ov ← holding [v] (eval (.Name x px) X.env)
      let iv ← holding [v, ov] (eval b X.env)
      standAt tp
      holding [v, ov, iv] (setItem ov iv v)
      release [v, ov, iv] []) := by intro _; rfl) (hs : swapsWithSole [.Subscript (.Name x px) b tp] a pos.line X.env = pure false := by rfl) (hw : swappedStores [.Subscript (.Name x px) b tp] a X.env = pure none := by rfl) (h1 : (assignEach [.Subscript (.Name x px) b tp] X.env).map (·.2) = [assign (.Subscript (.Name x px) b tp) X.env] := by rfl) :
    PS X (.Assign [.Subscript (.Name x px) b tp] a pos) (liftS P (exec Φ F (.setl i B A))) := by
  refine PS.imp (ps_asg he (pg_sub (pe_var (i := i) (by rw [C.hN]; exact hi) (by rw [C.hs]; exact hv) hd hcd) hk set_list ha) hs hw h1) fun D σ H ⟨e, R, p⟩ => ⟨e, R, ?_⟩
  simp only [exec] at p
  cases q : e[i]? with
  | none => rw [q] at p; exact p.elim
  | some s =>
    rw [q] at p
    cases s with
    | ol xs =>
      obtain ⟨o1, h1, l, us, rfl, hl, dd⟩ := R.at q
      refine Post.weaken (bindS (m := 2) R p) fun w H1 ⟨y, _, s, R1, hy, p⟩ => ⟨_, h1, e, R1, ?_⟩
      refine Post.weaken (bindS (m := 0) R1 p) fun k H2 ⟨k', _, s2, R2, hk', p⟩ => ?_
      cases k' with
      | int k' =>
        obtain rfl := d2_int hk'
        simp only [] at p
        cases qj : ixN xs.length k' with
        | none => rw [qj] at p; exact p.elim
        | some j =>
          rw [qj] at p
          refine ⟨l, us, k', j, rfl, rfl, s2 _ _ (s _ _ hl), by rw [dd.length]; exact qj, p σ _ (R2.updOwn q rfl rfl h1 ⟨l, us.set j w, rfl, upd_same, ?_⟩)⟩
          exact (((dd.same s).same s2).set j (hy.d2.same s2)).upd (R2.kinds _ ⟨i, _, q, rfl, h1⟩).1 (R2.kinds _ ⟨i, _, q, rfl, h1⟩).2 (.inr ⟨i, _, q, rfl, h1⟩)
      | _ => exact p.elim
    | _ => exact p.elim
theorem ss_setd (C : Ctx X P N sc) {i : Nat} {x : Str} {px tp : Pos} (hi : N[i]? = some x) (hv : Vis sc x) (he : PE X a (lift P 2 (ev Φ A))) (hk : PE X b (lift P 0 (ev Φ B))) (hd : (x == ("__debug__" : Str)) = false := by decide) (hcd : (x == ("__classdict__" : Str)) = false := by decide)
    (hs : swapsWith a (some (.Subscript (.Name x px) b tp)) pos.line X.env = pure false := by rfl) :
    PS X (.Assign [.Subscript (.Name x px) b tp] a pos) (liftS P (exec Φ F (.setd i B A))) := by
  refine PS.imp (ps_dput C.u1 (pe_var (i := i) (by rw [C.hN]; exact hi) (by rw [C.hs]; exact hv) hd hcd) hk he hs) fun D σ H ⟨e, R, p⟩ => ⟨e, R, ?_⟩
  simp only [exec] at p
  cases q : e[i]? with
  | none => rw [q] at p; exact p.elim
  | some s =>
    rw [q] at p
    cases s with
    | od xs =>
      obtain ⟨o1, h1, l, us, rfl, hl, dd⟩ := R.at q
      refine Post.weaken (bindS (m := 2) R p) fun w H1 ⟨y, _, s, R1, hy, p⟩ => ⟨_, h1, e, R1, ?_⟩
      refine Post.weaken (bindS (m := 0) R1 p) fun k H2 ⟨k', _, s2, R2, hk', p⟩ => ?_
      split at p
      · rename_i hz
        obtain ⟨hz1, hz2⟩ := hz
        obtain ⟨c, hc⟩ := Option.isSome_iff_exists.mp hz1
        obtain rfl := keyD_of hc
        obtain rfl := keyV hk'
        refine ⟨l, _, rfl, DPut.k (s2 _ _ (s _ _ hl)) (by rw [dd.length]; exact line_lt hz2), p σ _ (R2.updOwn q rfl rfl h1 ⟨l, _, rfl, upd_same, ?_⟩)⟩
        exact (put_of c (hy.d2.same s2) ((dd.same s).same s2)).upd (R2.kinds _ ⟨i, _, q, rfl, h1⟩).1 (R2.kinds _ ⟨i, _, q, rfl, h1⟩).2 (.inr ⟨i, _, q, rfl, h1⟩)
      · exact p.elim
    | _ => exact p.elim
theorem pop_of {i : Nat} {σ : L2.St} {H : Hp} {e : Sl} {xs : List D} {x : D} {Q : VK} (R : Rel P e σ H) (q : e[i]? = some (.ol xs)) (hx : xs[xs.length - 1]? = some x)
    (h : ∀ v H', Rel P (e.set i (.ol xs.dropLast)) σ H' → Den P.K (avo P (e.set i (.ol xs.dropLast)) σ) H' v x → Q v H') : tBM0 P.K "list" rPop (tVar i) σ H Q := by
  obtain ⟨o1, h1, l, us, rfl, hl, dd⟩ := R.at q
  have hlen := dd.length
  obtain ⟨v, hv, dv⟩ := dd.getD hx
  have ow : Owns e σ l := ⟨i, _, q, rfl, h1⟩
  refine ⟨_, h1, .inl ⟨rfl, us, .inl (.inl hl)⟩, l, us, v, rfl, rfl, hl, by rw [hlen]; exact hv, h _ _ ?_ ?_⟩
  · exact R.updOwn q rfl rfl h1 ⟨l, _, rfl, upd_same, dd.dropLast.upd (R.kinds _ ow).1 (R.kinds _ ow).2 (.inr ow)⟩
  · refine (dv.upd (R.kinds _ ow).1 (R.kinds _ ow).2 (.inr ow)).imp (fun _ _ => ⟨id, id⟩) fun b _ z => z.imp id fun ⟨j, t, q1, q2, q3⟩ => ?_
    by_cases hj : i = j
    · subst hj; exact ⟨i, _, q, rfl, q3⟩
    · rw [List.getElem?_set_ne hj] at q1; exact ⟨j, t, q1, q2, q3⟩
theorem ss_pop (C : Ctx X P N sc) {i : Nat} {x : Str} {px apos cpos : Pos} (hi : N[i]? = some x) (hv : Vis sc x)
    (h2 : (apos.endLine == cpos.line) = true := by rfl) (hd : (x == ("__debug__" : Str)) = false := by decide) (hcd : (x == ("__classdict__" : Str)) = false := by decide)
    (hb : attributeBase (.Name x px) "pop" X.env (eval (.Name x px) X.env) = eval (.Name x px) X.env := by rfl) (hs : swapsWith (.Call (.Attribute (.Name x px) "pop" apos) [] [] cpos) none pos.line X.env = pure false := by rfl) :
    PS X (.Expr (.Call (.Attribute (.Name x px) "pop" apos) [] [] cpos) pos) (liftS P (exec Φ F (.pop i))) := by
  refine PS.imp (ps_expr (pe_bm0 PySem.F.plainAttrs_list PySem.F.slot_list_pop PySem.F.type_list_pop mt_pop (pe_var (i := i) (by rw [C.hN]; exact hi) (by rw [C.hs]; exact hv) hd hcd) hb h2) hs) fun D σ H ⟨e, R, p⟩ => ?_
  simp only [exec] at p
  cases q : e[i]? with
  | none => rw [q] at p; exact p.elim
  | some s =>
    rw [q] at p
    cases s with
    | ol xs =>
      simp only [] at p
      split at p
      · exact p.elim
      · rename_i hx
        have hx : xs.length - 1 < xs.length := by
          cases xs with
          | nil => exact absurd rfl hx
          | cons _ _ => simp
        unfold tDrop
        rw [C.hK]
        exact pop_of R q (List.getElem?_eq_getElem hx) fun v H' R' _ => p σ H' R'
    | _ => exact p.elim
theorem ss_popto (C : Ctx X P N sc) {i t : Nat} {x y : Str} {px py apos cpos : Pos} (hi : N[i]? = some x) (hv : Vis sc x) (hy : N[t]? = some y) (hyl : Loc sc y)
    (h2 : (apos.endLine == cpos.line) = true := by rfl) (hd : (x == ("__debug__" : Str)) = false := by decide) (hcd : (x == ("__classdict__" : Str)) = false := by decide)
    (hb : attributeBase (.Name x px) "pop" X.env (eval (.Name x px) X.env) = eval (.Name x px) X.env := by rfl) (hs : swapsWith (.Call (.Attribute (.Name x px) "pop" apos) [] [] cpos) (some (.Name y py)) pos.line X.env = pure false := by rfl) (hf : X.fn y = true ∨ X.env.scope.names.lookup y = some .local := by first | exact .inl rfl | exact .inr rfl) :
    PS X (.Assign [.Name y py] (.Call (.Attribute (.Name x px) "pop" apos) [] [] cpos) pos) (liftS P (exec Φ F (.popto t i))) := by
  refine PS.imp (ps_set (i := t) (by rw [C.hN]; exact C.nd) (by rw [C.hN]; exact hy) (by rw [C.hs]; exact hyl) (pe_bm0 PySem.F.plainAttrs_list PySem.F.slot_list_pop PySem.F.type_list_pop mt_pop (pe_var (i := i) (by rw [C.hN]; exact hi) (by rw [C.hs]; exact hv) hd hcd) hb h2) hs hf) fun D σ H ⟨e, R, p⟩ => ?_
  simp only [exec] at p
  cases q : e[i]? with
  | none => rw [q] at p; exact p.elim
  | some s =>
    rw [q] at p
    cases s with
    | ol xs =>
      simp only [] at p
      cases hx : xs[xs.length - 1]? with
      | none => rw [hx] at p; exact p.elim
      | some x1 =>
        rw [hx] at p
        simp only [] at p
        split at p
        · unfold tAsg
          rw [C.hK]
          exact pop_of R q hx fun v H' R' dv => p _ H' (R'.setD dv)
        · exact p.elim
    | _ => exact p.elim

/-! ### flow -/
theorem ss_expr (he : PE X a (lift P 0 (ev Φ A))) (hs : swapsWith a none pos.line X.env = pure false := by rfl) : PS X (.Expr a pos) (liftS P (exec Φ F (.expr A))) := by
  refine PS.imp (ps_expr he hs) fun D σ H ⟨e, R, p⟩ => ⟨e, R, ?_⟩
  simp only [exec] at p
  exact Post.weaken (bindS (m := 0) R p) fun v H1 ⟨x, _, s, R1, hd, q⟩ => q σ H1 R1
theorem ss_ret (he : PE X a (lift P 0 (ev Φ A))) : PS X (.Return (some a) pos) (liftS P (exec Φ F (.ret A))) := by
  refine PS.imp (ps_ret he) fun D σ H ⟨e, R, p⟩ => ⟨e, R, ?_⟩
  simp only [exec] at p
  exact Post.weaken (bindS (m := 0) R p) fun v H1 ⟨x, _, s, R1, hd, q⟩ => q v H1 R1.fr hd.weak
theorem ss_retn : PS X (.Return none pos) (liftS P (exec Φ F .retn)) := PS.imp ps_retN fun D σ H ⟨e, R, p⟩ => by
  simp only [exec] at p
  exact p .non H R.fr .none
theorem ss_if {ba bb : List Stmt} {BA BB : List Stm} (hc : PT X c (liftT P (ev Φ E))) (ha : PSs X ba (liftS P (execs Φ F BA))) (hb : PSs X bb (liftS P (execs Φ F BB))) : PS X (.If c ba bb pos) (liftS P (exec Φ F (.ifs E BA BB))) := by
  refine PS.imp (ps_if hc ha hb) fun D σ H ⟨e, R, p⟩ => ⟨e, R, ?_⟩
  simp only [exec] at p
  refine PostT.weaken (bindST R (fun d hd => ?_) p) fun k H1 ⟨s, R1, q⟩ => ?_
  · cases d with
    | bool k => exact absurd rfl (hd k)
    | _ => rfl
  · cases k with
    | true => exact ⟨e, R1, q⟩
    | false => exact ⟨e, R1, q⟩
theorem ss_pass : PS X (.Pass pos) (liftS P (exec Φ F .pas)) := PS.imp ps_pass fun D σ H ⟨e, R, p⟩ => by
  simp only [exec] at p
  exact p σ H R
theorem ss_brk : PS X (.Break pos) (liftS P (exec Φ F .brk)) := PS.imp ps_break fun D σ H ⟨e, R, p⟩ => by
  simp only [exec] at p
  exact p σ H R
theorem ss_cnt : PS X (.Continue pos) (liftS P (exec Φ F .cnt)) := PS.imp ps_continue fun D σ H ⟨e, R, p⟩ => by
  simp only [exec] at p
  exact p σ H R
theorem sss_nil : PSs X [] (liftS P (execs Φ F [])) := PSs.imp pss_nil fun D σ H ⟨e, R, p⟩ => by
  simp only [execs] at p
  exact p σ H R
theorem sss_cons {st : Stmt} {r : List Stmt} {S1 : Stm} {SR : List Stm} (h1 : PS X st (liftS P (exec Φ F S1))) (h2 : PSs X r (liftS P (execs Φ F SR))) : PSs X (st :: r) (liftS P (execs Φ F (S1 :: SR))) := by
  refine PSs.imp (pss_cons h1 h2) fun D σ H ⟨e, R, p⟩ => ⟨e, R, ?_⟩
  simp only [execs] at p
  cases q : exec Φ F S1 e with
  | nx e' => rw [q] at p; exact fun σ' H' R' => ⟨e', R', p⟩
  | ret x => rw [q] at p; exact p
  | bk e' => rw [q] at p; exact p
  | ct e' => rw [q] at p; exact p
  | ex c e' => rw [q] at p; exact p
  | stuck => rw [q] at p; exact p
theorem sss_give {r : List Stmt} {SR : List Stm} {i : Nat} (h2 : PSs X r (liftS P (execs Φ F SR))) : PSs X r (liftS P (execs Φ F (.give i :: SR))) := PSs.imp h2 fun D σ H ⟨e, R, p⟩ => by
  simp only [execs, exec] at p
  cases q : e[i]? with
  | none => rw [q] at p; exact p.elim
  | some s =>
    rw [q] at p
    cases s with
    | ol xs => exact ⟨_, R.give q, p⟩
    | _ => exact p.elim
/-- a turn's end -/
theorem PostS.turn {D : Ends} {N : L2.St → Hp → Prop} {G : Sl → Out} (hN : ∀ e' σ' H', Rel P e' σ' H' → PostS P D (G e') → N σ' H') : ∀ {o : Out}, PostS P D (o.turn G) → PostS P { D with nx := N, ct := N, bk := D.nx } o
  | .nx e', h => fun σ' H' R => hN e' σ' H' R h
  | .ct e', h => fun σ' H' R => hN e' σ' H' R h
  | .bk _, h => h
  | .ret _, h => h
  | .ex _ _, h => h
  | .stuck, h => h
theorem ss_while {body : List Stmt} {BD : List Stm} (C : Ctx X P N sc) (hc : PT X c (liftT P (ev Φ E))) (hb : PSs X body (liftS P (execs Φ F BD))) : PS X (.While c body [] pos) (liftS P (exec Φ F (.whl E BD))) := by
  refine PS.imp (ps_while C.po hc hb) fun D σ H ⟨e, R, p⟩ => ?_
  simp only [exec] at p
  refine ⟨fun n σ H => ∃ e, Rel P e σ H ∧ PostS P D (whileF (fun e' => ev Φ E e') (fun e' => execs Φ F BD e') n e), ⟨F, e, R, p⟩, ?_⟩
  rintro n σ1 H1 ⟨e1, R1, p1⟩
  cases n with
  | zero => exact p1.elim
  | succ n =>
    refine ⟨e1, R1, ?_⟩
    simp only [whileF] at p1
    refine PostT.weaken (bindST R1 (fun d hd => ?_) p1) fun k H2 ⟨s, R2, q⟩ => ?_
    · cases d with
      | bool k => exact absurd rfl (hd k)
      | _ => rfl
    · cases k with
      | true =>
        rw [if_pos rfl]
        exact ⟨fun σ' H' => ∃ e, Rel P e σ' H' ∧ PostS P D (whileF (fun e' => ev Φ E e') (fun e' => execs Φ F BD e') n e), fun σ' H' z => ⟨n, Nat.lt_succ_self n, z⟩, e1, R2, PostS.turn (fun e' σ' H' R' z => ⟨e', R', z⟩) q⟩
      | false => rw [if_neg (by decide)]; exact q σ1 H2 R2
theorem ss_for {body : List Stmt} {BD : List Stm} {iter : Expr} {t : Tgt} {k : SrcK} (C : Ctx X P N sc) (hi : PI X tg iter (liftI P (srcs Φ k ES))) (hg : PG X tg (liftG P.K t)) (hb : ∀ (h0 : Hp) (hav : ∀ a, P.Av a → h0 a ≠ none), Ctx X (P.at h0 hav) N sc → PSs X body (liftS (P.at h0 hav) (execs Φ F BD)))
    (hs : ∀ x, foldedSetIterable iter X.env x = pure x := by intro _; rfl) : PS X (.For tg iter body [] pos) (liftS P (exec Φ F (.for t k ES BD))) := by
  refine PS.imp (ps_for C.po C.calm hi hg (PSs.ofAll (ι := { h0 : Hp // ∀ a, P.Av a → h0 a ≠ none }) fun i => hb i.1 i.2 (C.at i.1 i.2)) hs) fun D σ H ⟨e, R, p⟩ => ⟨e, R, ?_⟩
  simp only [exec] at p
  unfold srcs
  cases qx : evs Φ ES e with
  | ex c => rw [qx] at p; exact fun H1 s => p σ H1 (R.same s)
  | stuck => rw [qx] at p; exact p.elim
  | ok xs =>
    rw [qx] at p
    simp only [Out.ofR_ok] at p
    simp only [Res.bind_ok]
    cases qs : srcD k xs with
    | none => rw [qs] at p; exact p.elim
    | some its =>
      rw [qs] at p
      simp only [] at p
      intro J H1 s1 io
      have R1 := R.same s1
      refine ⟨fun i m σ2 H2 => m = its.length - i ∧ i ≤ its.length ∧ ∃ e2, Rel (P.at (lessOwn e σ H1) (lessOwn_av R1)) e2 σ2 H2 ∧ PostS (P.at (lessOwn e σ H1) (lessOwn_av R1)) D (forL (fun e' => execs Φ F BD e') t (its.drop i) e2), ⟨its.length, by omega, Nat.zero_le _, e, R1.into, PostS.into R1 (by simpa using p)⟩, ?_⟩
      rintro i m σ2 H2 ⟨rfl, hi, e2, R2, p2⟩
      obtain ⟨hgo, hstop, hy⟩ := io i H2 fun b o q n => R2.fr _ _ (show lessOwn e σ H1 b = some o by unfold lessOwn; rw [if_neg n]; exact q)
      by_cases hlt : i < its.length
      · refine .inr ⟨hgo hlt, fun σ' H' => ∃ e3, Rel (P.at (lessOwn e σ H1) (lessOwn_av R1)) e3 σ' H' ∧ PostS (P.at (lessOwn e σ H1) (lessOwn_av R1)) D (forL (fun e' => execs Φ F BD e') t (its.drop (i + 1)) e3), fun σ' H' z => ⟨its.length - (i + 1), by omega, rfl, by omega, z⟩, fun x H' y => ?_⟩
        rw [List.drop_eq_getElem_cons hlt] at p2
        simp only [forL] at p2
        cases qb : bindT t its[i] e2 with
        | none => rw [qb] at p2; exact p2.elim
        | some e3 =>
          rw [qb] at p2
          obtain ⟨s3, dx⟩ := hy x H' y _ (List.getElem?_eq_getElem hlt)
          have R3 := R2.same s3
          refine ⟨P.at (lessOwn e σ H1) (lessOwn_av R1), e2, _, e3, rfl, R3, dx.imp (fun _ _ => ⟨id, id⟩) (fun b _ z => ?_), qb, fun σ3 R4 _ => ⟨⟨lessOwn e σ H1, lessOwn_av R1⟩, e3, R4, PostS.turn (fun e' σ' H' R' z => ⟨e', R', z⟩) p2⟩⟩
          rcases z with z | z
          · exact .inl (.inl z)
          · have q := R2.new b z
            have q : lessOwn e σ H1 b = none := q
            unfold lessOwn at q
            split at q
            · rename_i w; exact .inl (.inr w)
            · exact .inr q
      · refine .inl ⟨hstop (by omega), ?_⟩
        rw [List.drop_of_length_le (by omega)] at p2
        simp only [forL] at p2
        exact p2 σ2 H2 R2
end
end
end Rf

set_option Elab.async false
set_option linter.all false
set_option maxRecDepth 100000
set_option maxHeartbeats 1000000
/-! Rf, part I: a def's promise; the program. -/
namespace Rf
noncomputable section
open PySem PySem.Spec PyProof.Rows L2
section
variable {pr : Program} {w : World} {K : PySem.W.Frag} {mg : Str → Option Value} {base : Heap} {ca : Nat → Addr}
/-- what the top has written of a def -/
structure Txt (K : PySem.W.Frag) (mg : Str → Option Value) (x q : Str) (st : Stmt) (ps : List Str) : Prop where
  ex : ∃ f fd, Fun K q q st f fd ∧ mg x = some (.ref f) ∧ Binds K fd ps []
/-- the def i, called n deep -/
structure Good (pr : Program) (w : World) (K : PySem.W.Frag) (mg : Str → Option Value) (base : Heap) (ca : Nat → Addr) (T : List Fdef) (F : Nat) (x : Str) (i n : Nat) : Prop where
  ex : ∃ f fd ps, FnOk pr w K mg base (L2.CX pr w) n f fd ps (spP K ca (phi T F n) i) ∧ mg x = some (.ref f) ∧ PySem.W.keepIn K (.ref f) = true ∧ Binds K fd ps []
theorem Good.fn {T : List Fdef} {F : Nat} {x : Str} {i n : Nat} {A : Around} (g : Good pr w K mg base ca T F x i n) (hr : Room n A) : Fn1 pr w K mg base A ca (phi T F n) x i := by
  obtain ⟨f, fd, ps, ok, h1, h2, h3⟩ := g.ex
  exact ⟨n, f, fd, ps, ok, hr, h1, h2, h3⟩
theorem good_zero {T : List Fdef} {F : Nat} {x q : Str} {i : Nat} {st : Stmt} {ps : List Str} (t : Txt K mg x q st ps) : Good pr w K mg base ca T F x i 0 := by
  obtain ⟨f, fd, fn, h1, h2⟩ := t.ex
  refine ⟨f, fd, ps, ⟨fun vs H Q E h => ?_, fun A outer s H args us vs Q E hr he hb hv h => ?_⟩, h1, fn.kp, h2⟩ <;> (obtain ⟨av, ds, _, _, h⟩ := h; exact h.elim)
theorem start_get {N : List Str} {vs : List V} {i : Nat} {v : V} (h : vs[i]? = some v) : (L2.start N vs)[i]? = some (some v) := by
  unfold L2.start
  rw [List.getElem?_append_left (by rw [List.length_map]; exact (List.getElem?_eq_some_iff.mp h).1), List.getElem?_map, h]
  rfl
theorem rel_start {P : Pk} {N : List Str} {vs : List V} {ds : List D} (hd : Dens P.K P.Av P.H0 vs ds) (hl : ds.length ≤ N.length) : Rel P (ds.map .d ++ List.replicate (N.length - ds.length) .un) (L2.start N vs) P.H0 := by
  have hlen := hd.length
  have noOwn : ∀ (i : Nat) (s : Slot), (ds.map Slot.d ++ List.replicate (N.length - ds.length) Slot.un)[i]? = some s → isOwn s = false := fun i s h => by
    by_cases hi : i < ds.length
    · rw [List.getElem?_append_left (by rw [List.length_map]; exact hi), List.getElem?_map, List.getElem?_eq_getElem hi] at h
      simp only [Option.map_some, Option.some.injEq] at h
      subst h; rfl
    · rw [List.getElem?_append_right (by rw [List.length_map]; omega), List.getElem?_replicate] at h
      split at h
      · simp only [Option.some.injEq] at h; subst h; rfl
      · cases h
  have no : ∀ a, ¬ Owns (ds.map Slot.d ++ List.replicate (N.length - ds.length) Slot.un) (L2.start N vs) a := fun a ⟨i, s, h1, h2, _⟩ => by
    rw [noOwn i s h1] at h2; cases h2
  refine ⟨?_, fun i s o h1 h2 => ?_, fun i j s t a h1 h2 => ?_, Same.refl _, fun a h => absurd h (no a)⟩
  · unfold L2.start
    simp only [List.length_append, List.length_map, List.length_replicate]
    omega
  · by_cases hi : i < ds.length
    · rw [List.getElem?_append_left (by rw [List.length_map]; exact hi), List.getElem?_map, List.getElem?_eq_getElem hi] at h1
      simp only [Option.map_some, Option.some.injEq] at h1
      subst h1
      obtain ⟨v, hv, dv⟩ := hd.getD (List.getElem?_eq_getElem hi)
      rw [start_get hv] at h2
      simp only [Option.some.injEq] at h2
      subst h2
      exact ⟨v, rfl, dv.imp (fun _ _ => ⟨id, id⟩) fun a _ z => z.elim id fun z => absurd z (no a)⟩
    · rw [List.getElem?_append_right (by rw [List.length_map]; omega), List.getElem?_replicate] at h1
      split at h1
      · simp only [Option.some.injEq] at h1; subst h1; trivial
      · cases h1
  · rw [noOwn i s h1] at h2; cases h2
/-- the reading of a body, at the entry -/
theorem entry {P : Pk} {N : List Str} {vs : List V} {ds : List D} {fn : Fdef} {Φ : FT} {F : Nat} {Q : VK} {E : XK} (hd : Dens P.K P.Av P.H0 vs ds) (hns : fn.ns = N.length) (hnp : fn.np ≤ N.length) (hW : P.W = fun cls d _ H => E cls d H)
    (h : match fn.run Φ F ds with
      | .ok d => ∀ v H', Same P.H0 H' → Den P.K P.Av H' v d → Q v H'
      | .ex c => ∀ H', Same P.H0 H' → E (.ref (P.ca c)) none H'
      | .stuck => False) : liftS P (execs Φ F fn.body) { nx := fun _ H' => Q .non H', rt := Q } (L2.start N vs) P.H0 := by
  unfold Fdef.run at h
  by_cases hl : ds.length = fn.np
  · rw [if_pos hl, hns, ← hl] at h
    refine ⟨_, rel_start hd (by omega), ?_⟩
    cases q : execs Φ F fn.body (ds.map .d ++ List.replicate (N.length - ds.length) .un) with
    | ret x => rw [q] at h; exact h
    | nx e' => rw [q] at h; exact fun σ' H' R => h .non H' R.fr .none
    | ex c e' => rw [q] at h; exact fun σ' H' R => by rw [hW]; exact h H' R.fr
    | bk e' => rw [q] at h; exact h.elim
    | ct e' => rw [q] at h; exact h.elim
    | stuck => rw [q] at h; exact h.elim
  · rw [if_neg hl] at h; exact h.elim
/-- a body's context -/
@[reducible] def cxG (pr : Program) (w : World) (K : PySem.W.Frag) (mg : Str → Option Value) (base : Heap) (N : List Str) (x : Str) (st : Stmt) (A : Around) (s0 : Shared) (H0 : Hp) (a f : Addr) (cdv : Value) (outer : List Env) (xe : Value → Shared → Prop) : Cx :=
  { prog := pr, w := w, K := K, mg := mg, base := base, A := A, N := N, s_0 := s0, H_0 := H0, env := envOfC x (defScope st) a f cdv, outer := outer, stack := envOfC x (defScope st) a f cdv :: outer, ex := [], calm := true, fn := fun _ => true, pn := [], xe := xe }
/-- a body's walk -/
def Walk (pr : Program) (w : World) (K : PySem.W.Frag) (mg : Str → Option Value) (base : Heap) (ca : Nat → Addr) (N : List Str) (x : Str) (st : Stmt) (n : Nat) (f : Sl → Out) : Prop :=
  ∀ (A : Around) (s0 : Shared) (H0 : Hp) (a fA : Addr) (cdv : Value) (outer : List Env) (xe : Value → Shared → Prop) (h0 : Hp) (av : Addr → Prop) (avok : ∀ a, av a → h0 a ≠ none) (W : WX), Room n A →
    Ctx (cxG pr w K mg base N x st A s0 H0 a fA cdv outer xe) ⟨K, h0, av, avok, W, ca⟩ N (defScope st) → PSs (cxG pr w K mg base N x st A s0 H0 a fA cdv outer xe) (defBody st) (liftS ⟨K, h0, av, avok, W, ca⟩ f)
/-- a def keeps its promise -/
theorem good_succ {T : List Fdef} {F : Nat} {x q : Str} {i n : Nat} {st : Stmt} {N ps : List Str} {fn : Fdef} (t : Txt K mg x q st ps) (S : FnScope N ps (defScope st)) (hT : T[i]? = some fn) (hnp : fn.np = ps.length) (hns : fn.ns = N.length) (hle : ps.length ≤ N.length)
    (hb : Walk pr w K mg base ca N q st n (execs (phi T F n) F fn.body)) :
    Good pr w K mg base ca T F x i (n + 1) := by
  obtain ⟨f, fd, F0, h1, h2⟩ := t.ex
  refine ⟨f, fd, ps, F0.okX S (fun vs H Q E h => ?_) (fun cdv A outer s H vs Q E hr h => ?_), h1, F0.kp, h2⟩
  · obtain ⟨av, ds, _, hd, h⟩ := h
    simp only [phi, hT] at h
    unfold Fdef.run at h
    by_cases hl : ds.length = fn.np
    · rw [hd.length, hl, hnp]
    · rw [if_neg hl] at h; exact h.elim
  · obtain ⟨av, ds, hav, hd, h⟩ := h
    simp only [phi, hT] at h
    refine ⟨_, hb (A.deeper (envOfC q (defScope st) s.heap.objs.size f cdv)) s H _ f cdv outer _ H av hav (fun cls d _ H => E cls d H) hr ⟨rfl, rfl, S.nd, rfl, rfl, ?_, takes_of rfl rfl rfl rfl, passes_of rfl⟩, entry hd hns (by rw [hnp]; exact hle) rfl h⟩
    have := hr.un
    show (A.deeper (envOfC q (defScope st) s.heap.objs.size f cdv)).units + 190 < cLine
    omega
/-- a def out of which no exception comes -/
theorem calm_ok {T : List Fdef} {F : Nat} {x : Str} {i n : Nat} {st : Stmt} {N ps : List Str} {fn : Fdef} {f : Addr} {fd : FuncData} {sp : Sp} (F0 : Fun K x x st f fd) (S : FnScope N ps (defScope st)) (hT : T[i]? = some fn) (hnp : fn.np = ps.length) (hns : fn.ns = N.length) (hle : ps.length ≤ N.length)
    (hb : Walk pr w K mg base ca N x st n (execs (phi T F n) F fn.body))
    (hsp : ∀ vs H Q E, sp vs H Q E → ∃ ds d, Dens K (fun _ => False) H vs ds ∧ phi T F (n + 1) i ds = .ok d ∧ ∀ v H', Same H H' → Den K (fun _ => False) H' v d → Q v H') : FnOk pr w K mg base L2.CX0 (n + 1) f fd ps sp := by
  refine F0.ok S (fun vs H Q E h => ?_) (fun cdv A outer s H vs Q E hr h => ?_)
  · obtain ⟨ds, d, hd, h, _⟩ := hsp vs H Q E h
    simp only [phi, hT] at h
    unfold Fdef.run at h
    by_cases hl : ds.length = fn.np
    · rw [hd.length, hl, hnp]
    · rw [if_neg hl] at h; cases h
  · obtain ⟨ds, d, hd, h, q⟩ := hsp vs H Q E h
    simp only [phi, hT] at h
    refine ⟨_, hb (A.deeper (envOfC x (defScope st) s.heap.objs.size f cdv)) s H _ f cdv outer (fun _ _ => False) H (fun _ => False) (fun _ z => z.elim) (fun _ _ _ _ => False) hr ⟨rfl, rfl, S.nd, rfl, rfl, ?_, takes0, PassesOwn.never⟩, entry (E := fun _ _ _ => False) hd hns (by rw [hnp]; exact hle) rfl (by rw [h]; exact q)⟩
    have := hr.un
    show (A.deeper (envOfC x (defScope st) s.heap.objs.size f cdv)).units + 190 < cLine
    omega
/-- the law's own promise: at every script of at most k ints it answers True -/
def spLaw (k : Nat) (K : PySem.W.Frag) : Sp := fun vs H Q _ => ∃ (a : Addr) (ns : List Int), vs = [.ref a] ∧ SqL K H a (ns.map V.int) ∧ ns.length ≤ k ∧ ∀ H', Q (.bl true) H'
theorem law_ok {T : List Fdef} {F k : Nat} {x p : Str} {i n : Nat} {st : Stmt} {N : List Str} {fn : Fdef} {f : Addr} {fd : FuncData} (F0 : Fun K x x st f fd) (S : FnScope N [p] (defScope st)) (hT : T[i]? = some fn) (hnp : fn.np = 1) (hns : fn.ns = N.length) (hle : 1 ≤ N.length)
    (hb : Walk pr w K mg base ca N x st n (execs (phi T F n) F fn.body))
    (hm : ∀ ns : List Int, ns.length ≤ k → phi T F (n + 1) i [.list (ns.map .int)] = .ok (.bool true)) : FnOk pr w K mg base L2.CX0 (n + 1) f fd [p] (spLaw k K) :=
  calm_ok F0 S hT hnp hns hle hb fun vs H Q E ⟨a, ns, hv, hS, hl, q⟩ => ⟨[.list (ns.map .int)], .bool true, by rw [hv]; exact .cons (.list hS (.inl fun z => z) (dens_ints ns)) .nil, hm ns hl, fun v H' _ hd => by cases hd; exact q H'⟩
end
end
end Rf

set_option Elab.async false
set_option linter.all false
set_option maxRecDepth 100000
set_option maxHeartbeats 1000000
/-! Rf, part J: backwards. -/
namespace Rf
noncomputable section
open PySem PySem.Spec PyProof.Rows L2
theorem rev_text (z : Str) (u : Tok) : Txt.sliceBy z none none (-1, u) = S z.cps.toList.reverse := by
  have h := step_rev_list z u
  have e : (Txt.sliceBy z none none (-1, u)).cps.toList = z.cps.toList.reverse := by
    rw [h]
    apply List.ext_getElem
    · simp [Str.length]
    · intro i h1 h2
      simp only [List.length_map, List.length_range] at h1
      simp only [List.getElem_map, List.getElem_range, List.getElem_reverse, Array.getElem_toList, Array.length_toList]
      have : z.length - 1 - i < z.cps.size := by show _ < z.length; omega
      rw [Array.getD_eq_getD_getElem?, Array.getElem?_eq_getElem this]
      rfl
  cases q : Txt.sliceBy z none none (-1, u) with
  | mk c =>
    rw [q] at e
    simp only at e
    rw [← e]
section
variable {X : Cx} {P : Pk} {N : List Str} {sc : Scope} {m : Nat} {Φ : FT} {A : Exp} {a : Expr} {pos : Pos}
theorem pe_revS {e : Expr} {te : L2.TE} {k : Nat} {p1 p2 p3 : Pos} (he : PE X e te) : PE X (.Subscript e (.Slice none none (some (.UnaryOp .USub (.Constant (.int 1) k p1) p2)) p3) pos) (fun σ H Q => te σ H fun x H1 => ∃ z, x = .str z ∧ z.length ≤ sizeLine ∧ Q (.str (S z.cps.toList.reverse)) H1) := by
  refine ⟨fun pins s σ H Q I h => ?_⟩
  refine Subscript_ (thn (he.run pins s σ H _ I h) fun v s1 ⟨x, H1, I1, r1, q1⟩ => ?_)
  obtain ⟨z, rfl, hz, q⟩ := q1
  obtain ⟨t, rfl⟩ := r1
  have third : PO X (some (.UnaryOp .USub (.Constant (.int 1) k p1) p2)) (tPart (tUn (rU fun i => .int (-i)) (tC (.int 1)))) := po_some (pe_un un_neg pe_int)
  refine wpAny_Slice (thn (po_none.run pins s1 σ H1 (fun o H2 => o = none ∧ H2 = H1) I1 ⟨rfl, rfl⟩) fun vl s2 ⟨l, H2, I2, pl, w1, w2⟩ => ?_)
  subst w1 w2
  refine thn (po_none.run pins s2 σ H2 (fun o H3 => o = none ∧ H3 = H2) I2 ⟨rfl, rfl⟩) fun vu s3 ⟨u, H3, I3, pu, w1, w2⟩ => ?_
  subst w1 w2
  refine thn (third.run pins s3 σ H3 (fun o H4 => o = some (-1) ∧ H4 = H3) I3 ⟨1, rfl, -1, rfl, rfl, rfl⟩) fun vs s4 ⟨o, H4, I4, ps, w1, w2⟩ => ?_
  subst w1 w2
  obtain ⟨l, rfl, hl⟩ := IsPart.raw pl
  obtain ⟨u, rfl, hu⟩ := IsPart.raw pu
  obtain ⟨st, rfl, hst⟩ := IsPart.raw ps
  have e1 : l = none := by cases l with | none => rfl | some _ => cases hl
  have e2 : u = none := by cases u with | none => rfl | some _ => cases hu
  subst e1 e2
  obtain ⟨tk, rfl⟩ : ∃ tk, st = some (-1, tk) := by
    cases st with
    | none => cases hst
    | some p => obtain ⟨i, tk⟩ := p; cases hst; exact ⟨tk, rfl⟩
  have I5 : Inv X pins σ H4 { s4 with heap := s4.heap.push { cls := .type "slice", data := .fields #[partValue none, partValue none, partValue (some (-1, tk))] } } := I4.kept (t' := s4.toks) fun b ob q => Heap.get?_push_of_some _ q
  show wpAny (model X.prog X.w) X.A (subscriptTail e (.Slice none none (some (.UnaryOp .USub (.Constant (.int 1) k p1) p2)) p3) (.str z t) (.ref s4.heap.objs.size)) (EP X pins σ Q) X.xe { s4 with heap := s4.heap.push { cls := .type "slice", data := .fields #[partValue none, partValue none, partValue (some (-1, tk))] } }
  refine tail_any (ops := [.ref s4.heap.objs.size, .str z t]) (typeIs_str _ z t) (PySem.F.slot_str_getitem.lookup) ?_ (by with_unfolding_all rfl)
  refine wpAny_getItem_str_slice (l := none) (u := none) (st := some (-1, tk)) ⟨_, Heap.get?_push_size _ rfl, rfl, rfl⟩ rfl ?_
  have c : ¬ (((((some ((-1 : Int), tk)).map (·.1)).getD 1 == 1) && ((slicePicked z none none (some (-1, tk))).length == z.length)) = true) := by
    have : ((((some ((-1 : Int), tk)).map (·.1)).getD 1 == 1)) = false := rfl
    rw [this]; simp
  have hs : sliceMade z t none none (some (-1, tk)) = .str (S z.cps.toList.reverse) := by
    rw [← rev_text z tk]
    unfold sliceMade Txt.sliceBy
    rw [if_neg c, if_neg c]
  rw [hs]
  refine ⟨?_, .str _, _, I5.tok _, ⟨_, rfl⟩, q⟩
  show (S z.cps.toList.reverse).cps.size ≤ sizeLine
  simpa [Str.length] using hz
theorem se_revS {k : Nat} {p1 p2 p3 : Pos} (ha : PE X a (lift P 0 (ev Φ A))) : PE X (.Subscript a (.Slice none none (some (.UnaryOp .USub (.Constant (.int 1) k p1) p2)) p3) pos) (lift P m (ev Φ (.revs A))) := by
  refine PE.imp (pe_revS ha) fun σ H Q ⟨e, R, p⟩ => ⟨e, R, ?_⟩
  simp only [ev] at p
  refine Post.weaken (bindZ (α := D) (m := 0) gdPost R p) fun v H1 ⟨x, _, s1, R1, d1, p1⟩ => ?_
  cases x with
  | str z =>
    obtain rfl := d2_str d1
    simp only [revsD] at p1
    split at p1
    · rename_i hz
      exact ⟨z, rfl, line_le hz, p1 _ H1 (Same.refl _) (DenM.up (.str _))⟩
    · exact p1.elim
  | _ => exact p1.elim
theorem se_revL (C : Ctx X P N sc) {k : Nat} {p1 p2 p3 : Pos} (ha : PE X a (lift P (sub m) (ev Φ A))) : PE X (.Subscript a (.Slice none none (some (.UnaryOp .USub (.Constant (.int 1) k p1) p2)) p3) pos) (liftN P m (ev Φ (.rev A))) := by
  refine PE.imp (pe_revL ha) fun σ H Q ⟨e, R, p⟩ => ⟨e, R, ?_⟩
  simp only [ev] at p
  refine Post.weaken (bindZ (α := D) (m := sub m) gdPostN R p) fun v H1 ⟨x, _, s1, R1, d1, p1⟩ => ?_
  cases x with
  | list xs =>
    unfold DenM at d1
    rw [av1_sub] at d1
    obtain ⟨l, us, rfl, h1, h2⟩ := d2_lst d1
    exact ⟨l, us, rfl, by rw [C.hK]; exact h1, fun p np => p1 _ _ (same_upd np) (new_lst np h2.reverse)⟩
  | _ => exact p1.elim
theorem Fr2.mono {K : PySem.W.Frag} {a1 b1 : Addr → Prop} {H H' : Hp} {z : V} {d : D} (f : ∀ a, b1 a → a1 a) (h : Fr2 K a1 H z H' d) : Fr2 K b1 H z H' d := by
  cases d with
  | list ds => obtain ⟨p, xs, e1, n, e, t⟩ := h; exact ⟨p, xs, e1, n, e, t.imp (fun _ _ => ⟨id, id⟩) fun a _ z => z.imp (f a) id⟩
  | dict ds => obtain ⟨p, xs, e1, n, e, t⟩ := h; exact ⟨p, xs, e1, n, e, t.imp (fun _ _ => ⟨id, id⟩) fun a _ z => z.imp (f a) id⟩
  | none => exact Den.imp (fun _ _ => ⟨id, id⟩) (fun a _ => f a) h
  | bool _ => exact Den.imp (fun _ _ => ⟨id, id⟩) (fun a _ => f a) h
  | int _ => exact Den.imp (fun _ _ => ⟨id, id⟩) (fun a _ => f a) h
  | str _ => exact Den.imp (fun _ _ => ⟨id, id⟩) (fun a _ => f a) h
  | tuple _ => exact Den.imp (fun _ _ => ⟨id, id⟩) (fun a _ => f a) h
theorem PE.modeN {f : Sl → Res D} (h : PE X a (liftN P 2 f)) : PE X a (liftN P m f) := Rf.PE.imp h fun σ H Q ⟨e, R, p⟩ => ⟨e, R, by
  cases q : f e with
  | ok d => rw [q] at p; exact fun v H' s hd => p v H' s (hd.mono fun a z => by
      match m with
      | 0 => exact .inl z
      | _ + 1 => exact z)
  | ex c => rw [q] at p; exact p
  | stuck => rw [q] at p; exact p⟩
theorem se_globI {x : Str} {i : Int} {t : Tok} (hg : X.env.kindOf x = some .globalImplicit) (hm : X.mg x = some (.int i t)) (hdb : (x == ("__debug__" : Str)) = false := by decide) : PE X (.Name x pos) (lift P m (ev Φ (.con (.int i)))) := se_glob (v := .int i) hg hm ⟨_, rfl⟩ (fun _ _ => .int i) hdb
theorem se_globS {x i : Str} {t : Tok} (hg : X.env.kindOf x = some .globalImplicit) (hm : X.mg x = some (.str i t)) (hdb : (x == ("__debug__" : Str)) = false := by decide) : PE X (.Name x pos) (lift P m (ev Φ (.con (.str i)))) := se_glob (v := .str i) hg hm ⟨_, rfl⟩ (fun _ _ => .str i) hdb
theorem se_globB {x : Str} {i : Bool} (hg : X.env.kindOf x = some .globalImplicit) (hm : X.mg x = some (.bool i)) (hdb : (x == ("__debug__" : Str)) = false := by decide) : PE X (.Name x pos) (lift P m (ev Φ (.con (.bool i)))) := se_glob (v := .bl i) hg hm rfl (fun _ _ => .bool i) hdb
end
end
end Rf

set_option Elab.async false
set_option linter.all false
set_option maxRecDepth 100000
set_option maxHeartbeats 1000000
/-! Rf, part L: raise; try with a clause that returns a constant. -/
namespace Rf
noncomputable section
open PySem PySem.Spec PyProof.Rows L2
section
variable {X : Cx} {P : Pk} {N : List Str} {sc : Scope} {Φ : FT} {F : Nat} {a b : Expr} {pos : Pos}
theorem ss_raise (C : Ctx X P N sc) {c : Nat} (pm : PMk X a (fun _ H Q => Q (.ref (P.ca c)) none H)) : PS X (.Raise (some a) none pos) (liftS P (exec Φ F (.rse c))) :=
  PS.imp (ps_raise C.calm C.tk pm) fun D σ H ⟨e, R, p⟩ => by
    simp only [exec] at p
    exact p σ H R
/-- an own class of exceptions at A -/
structure XCls (K : PySem.W.Frag) (mg : Str → Option Value) (x : Str) (A : Addr) : Prop where
  g : mg x = some (.ref A)
  e : PySem.W.excIn K A [.type "ValueError", .type "Exception", .type "BaseException", .type "object"] "ValueError.__new__" = true
  k : PySem.W.keepIn K (.ref A) = true
  b : PySem.W.subIn K (.ref A) (.type "BaseException") = some true
  t : PySem.W.typeIn K (.ref A) = some (.type "type")
theorem pm_own {x m : Str} {j : Nat} {p p2 : Pos} {A : Addr} (h : XCls X.K X.mg x A) (hg : X.env.kindOf x = some .globalImplicit) (hdb : (x == ("__debug__" : Str)) = false := by decide) :
    PMk X (.Call (.Name x p) [.Constant (.str m) j p2] [] pos) (fun _ H Q => Q (.ref A) none H) :=
  pmk_own PySem.F.excBase_ValueError h.e h.g h.k (raises_own h.b h.t) hg hdb
/-- a value read while the error stands in slot i -/
def tK (i : Nat) (e : Addr) (v : V) : L2.TE := fun σ H Q => σ[i]? = some (some (.ref e)) ∧ ∀ H', Same H H' → Q v H'
theorem xk_c {i : Nat} {e : Addr} {v : V} (h : PE X a (tC v)) : PE X a (tK i e v) := PE.imp h fun σ H Q h => h.2 H (Same.refl H)
theorem xk_and {rest : List Expr} {i : Nat} {e : Addr} {k l : Bool} (ha : PE X a (tK i e (.bl k))) (hb : PE X (.BoolOp .And (b :: rest) pos) (tK i e (.bl l))) : PE X (.BoolOp .And (a :: b :: rest) pos) (tK i e (.bl (k && l))) :=
  PE.imp (pe_and ha hb) fun σ H Q h => ⟨h.1, fun H' s => ⟨k, rfl, by
    cases k with
    | true => exact ⟨h.1, fun H2 s2 => h.2 H2 (s.trans s2)⟩
    | false => exact h.2 H' s⟩⟩
theorem xk_one {op : BoolOp} {i : Nat} {e : Addr} {v : V} (ha : PE X a (tK i e v)) : PE X (.BoolOp op [a] pos) (tK i e v) := pe_one ha
theorem xk_not {i : Nat} {e : Addr} {k : Bool} (ha : PE X a (tK i e (.bl k))) : PE X (.UnaryOp .Not a pos) (tK i e (.bl (!k))) :=
  PE.imp (pe_not ha) fun σ H Q h => ⟨h.1, fun H' s => ⟨k, rfl, h.2 H' s⟩⟩
theorem xk_is {i : Nat} {e D A : Addr} {oe : Obj} {pn : List (Addr × Obj)} {n x : Str} {p pn' px : Pos} {k : Bool} (E : ExcC X.K D) (hz : Zc (.ref D) none oe) (hf : ∃ vs, oe.data = .fields vs) (hN : X.N[i]? = some n) (hv : Vis X.env.scope n)
    (hg : X.env.kindOf "isinstance" = some .globalImplicit) (hm : X.mg "isinstance" = none) (hgx : X.env.kindOf x = some .globalImplicit) (hmx : X.mg x = some (.ref A)) (hk : PySem.W.kitOne X.K (.ref D) (.ref A) = some k)
    (hd : (n == ("__debug__" : Str)) = false := by decide) (hcd : (n == ("__classdict__" : Str)) = false := by decide) (hdx : (x == ("__debug__" : Str)) = false := by decide) :
    PE (X.suite e ((e, oe) :: pn)) (.Call (.Name "isinstance" p) [.Name n pn', .Name x px] [] pos) (tK i e (.bl k)) :=
  PE.imp (pe_callB (call_isE E hz hf) hg hm (by decide +kernel) (pa_cons (pe_var (i := i) hN hv hd hcd) (pa_cons (pe_glob (v := .ref A) hgx hmx rfl hdx) pa_nil)) (by decide) (by decide)) fun σ H Q h =>
    ⟨.ref e, h.1, .ref A, .ref A, k, rfl, fun u hu => hu, hk, h.2 H (Same.refl H)⟩
/-- a clause that only returns -/
def tX (i : Nat) (e : Addr) (v : V) : L2.TS := fun D σ H => σ[i]? = some (some (.ref e)) ∧ ∀ H', Same H H' → D.rt v H'
/-- isinstance(e, (A, B)) -/
theorem call_isET {X : Cx} {a D : Addr} {oe : Obj} {pn : List (Addr × Obj)} (E : ExcC X.K D) (hz : Zc (.ref D) none oe) (hf : ∃ vs, oe.data = .fields vs) : CallR (X.suite a ((a, oe) :: pn)) (.builtin "isinstance") (fun xs H Q => ∃ (tp A B : Addr) (b : Bool), xs = [.ref a, .ref tp] ∧ H tp = some (.tup [.ref A, .ref B]) ∧ PySem.W.kitAny X.K (.ref D) [.ref A, .ref B] = some b ∧ Q (.bl b) H) := by
  intro pins s σ H xs us Q I r hyp
  obtain ⟨tp, A, B, b, rfl, hT, hk, fin⟩ := hyp
  obtain ⟨u1, u2, rfl, r1, r2⟩ := vals2 r
  obtain rfl : u1 = Value.ref a := r1
  obtain rfl : u2 = Value.ref tp := r2
  have there := (I.pin (a, oe) (List.mem_append.mpr (.inl List.mem_cons_self))).1
  have inst : PySem.W.InstAt s.heap a oe D none := by
    rcases oe with ⟨c1, c2, c3, c4⟩
    rcases hz with ⟨z1, z2⟩
    rcases hf with ⟨vs, hv⟩
    simp only at z1 z2 hv
    subst z1; subst z2; subst hv
    exact ⟨there, rfl, rfl, trivial⟩
  have tup : ObjOk X.prog X.w H s.heap tp (.tup [.ref A, .ref B]) := I.hok tp _ hT
  obtain ⟨_, its, rv, o, g1, g2, n, g3⟩ := tup
  have eits : its = [Value.ref A, Value.ref B] := by
    cases rv with
    | cons x1 rest =>
      cases rest with
      | cons x2 rest =>
        cases rest
        obtain rfl := x1
        obtain rfl := x2
        rfl
  subst eits
  rcases o with ⟨c1, c2, c3, c4⟩
  simp only at g2 g3
  subst g2; subst g3
  exact PySem.W.kia_tup (PySem.W.handS_kitx_exc E.hg E.hk E.hs E.hd E.ha E.hn E.ht E.hm) I.kIn inst g1 hk (fun z => nomatch z) fun tk => ⟨.bl b, H, I.kept (t' := tk) fun _ _ z => z, rfl, fin⟩
theorem xk_isT {i : Nat} {e D A B : Addr} {oe : Obj} {pn : List (Addr × Obj)} {n x y : Str} {p pn' px py pt : Pos} {k k2 b : Bool} {kk : Nat} (E : ExcC X.K D) (hz : Zc (.ref D) none oe) (hf : ∃ vs, oe.data = .fields vs) (hN : X.N[i]? = some n) (hv : Vis X.env.scope n)
    (hg : X.env.kindOf "isinstance" = some .globalImplicit) (hm : X.mg "isinstance" = none) (hgx : X.env.kindOf x = some .globalImplicit) (hmx : X.mg x = some (.ref A)) (hgy : X.env.kindOf y = some .globalImplicit) (hmy : X.mg y = some (.ref B)) (hk : PySem.W.kitOne X.K (.ref D) (.ref A) = some k) (hk2 : PySem.W.kitOne X.K (.ref D) (.ref B) = some k2) (hb : b = (k || k2))
    (hd : (n == ("__debug__" : Str)) = false := by decide) (hcd : (n == ("__classdict__" : Str)) = false := by decide) (hdx : (x == ("__debug__" : Str)) = false := by decide) (hdy : (y == ("__debug__" : Str)) = false := by decide) :
    PE (X.suite e ((e, oe) :: pn)) (.Call (.Name "isinstance" p) [.Name n pn', .Tuple [.Name x px, .Name y py] kk pt] [] pos) (tK i e (.bl b)) :=
  PE.imp (pe_callB (call_isET E hz hf) hg hm (by decide +kernel) (pa_cons (pe_var (i := i) hN hv hd hcd) (pa_cons (pe_tup (pa_cons (pe_glob (v := .ref A) hgx hmx rfl hdx) (pa_cons (pe_glob (v := .ref B) hgy hmy rfl hdy) pa_nil))) pa_nil)) (by decide) (by decide)) fun σ H Q h =>
    ⟨.ref e, h.1, (by show 2 ≤ sizeLine; decide), fun q nq => ⟨q, A, B, b, rfl, upd_same, kitAny_cons hk (fun e1 => kitAny_cons hk2 (fun e2 => by rw [kitAny_nil, hb, e1, e2]; rfl) (fun e2 => by rw [hb, e1, e2]; rfl)) (fun e1 => by rw [hb, e1]; rfl), h.2 _ (same_upd nq)⟩⟩
theorem xs_ret {i : Nat} {e : Addr} {v : V} (h : PE X a (tK i e v)) : PSs X [.Return (some a) pos] (tX i e v) := PSs.imp (pss_one (ps_ret h)) fun D σ H h => h
@[reducible] def Pk.wi (P : Pk) (W : WX) : Pk := { P with W := W }
theorem Rel.wi {P : Pk} {W : WX} {e : Sl} {σ : L2.St} {H : Hp} (R : Rel P e σ H) : Rel (P.wi W) e σ H := ⟨R.len, R.slot, R.inj, R.fr, R.new⟩
theorem Rel.iw {P : Pk} {W : WX} {e : Sl} {σ : L2.St} {H : Hp} (R : Rel (P.wi W) e σ H) : Rel P e σ H := ⟨R.len, R.slot, R.inj, R.fr, R.new⟩
/-- a flat value -/
def flV : D → Option V
  | .bool k => some (.bl k)
  | .none => some .non
  | .int i => some (.int i)
  | _ => none
theorem flV_den {K : PySem.W.Frag} {av : Addr → Prop} {H : Hp} {d : D} {v : V} (h : flV d = some v) : Den K av H v d := by
  cases d <;> simp only [flV, Option.some.injEq, reduceCtorEq] at h <;> subst h
  · exact .none
  · exact .bool _
  · exact .int _
theorem mem_lk : ∀ {r : List (Nat × D)} {c : Nat} {d : D}, r.lookup c = some d → (c, d) ∈ r
  | [], _, _, h => by simp at h
  | (k, v) :: r, c, d, h => by
    rw [List.lookup_cons] at h
    by_cases e : (c == k) = true
    · rw [e] at h
      have e2 : c = k := by simpa using e
      cases h
      rw [e2]
      exact List.mem_cons_self ..
    · rw [show (c == k) = false by simpa using e] at h
      exact List.mem_cons_of_mem _ (mem_lk h)
theorem ss_try (C : Ctx X P N sc) {x n : Str} {A : Addr} {i : Nat} {body suite : List Stmt} {b0 : Stmt} {np pos' : Pos} {B : List Stm} {ok : List Nat} {r : List (Nat × D)} (hs : X.stack = X.env :: X.outer) (hf : X.env.frame = some X.env.locals)
    (hi : N[i]? = some n) (hln : X.env.kindOf n = some .local) (hg : X.env.kindOf x = some .globalImplicit) (hm : X.mg x = some (.ref A))
    (hy : ∀ p ∈ r, PySem.W.exmOne P.K (.ref (P.ca p.1)) (.ref A) = some true ∧ ∃ v, flV p.2 = some v ∧ ∀ (a : Addr) (oe : Obj) (pn : List (Addr × Obj)), Zc (.ref (P.ca p.1)) none oe → (∃ vs, oe.data = .fields vs) → PSs (X.suite a ((a, oe) :: pn)) (b0 :: suite) (tX i a v))
    (hno : ∀ c ∈ ok, PySem.W.exmOne P.K (.ref (P.ca c)) (.ref A) = some false)
    (hb : ∀ (W : WX) (pn : List (Addr × Obj)) (xe : Value → Shared → Prop), Ctx (X.tr pn xe) (P.wi W) N sc → PSs (X.tr pn xe) body (liftS (P.wi W) (execs Φ F B))) (hdb : (x == ("__debug__" : Str)) = false := by decide) :
    PS X (.Try body [.ExceptHandler (some (.Name x np)) (some n) (b0 :: suite) pos'] [] [] pos) (liftS P (exec Φ F (.tri i B ok r))) := by
  have hyes : ∀ c d, r.lookup c = some d → PySem.W.exmOne P.K (.ref (P.ca c)) (.ref A) = some true ∧ ∃ v, flV d = some v ∧ ∀ (a : Addr) (oe : Obj) (pn : List (Addr × Obj)), Zc (.ref (P.ca c)) none oe → (∃ vs, oe.data = .fields vs) → PSs (X.suite a ((a, oe) :: pn)) (b0 :: suite) (tX i a v) := fun c d h => hy (c, d) (mem_lk h)
  refine PS.imp (ps_try_as (c := .ref A) (ts := fun a cls d => fun D σ H => ∃ c dd v, cls = .ref (P.ca c) ∧ d = none ∧ r.lookup c = some dd ∧ flV dd = some v ∧ tX i a v D σ H) (Wout := P.W) (tb := fun W => liftS (P.wi W) (execs Φ F B)) hs hf (by rw [C.hN]; exact C.nd) (by rw [C.hN]; exact hi) hln ⟨hg, hdb, .inl hm⟩ C.tk
    (fun W pn xe tk po => hb W pn xe ⟨C.hK, C.hN, C.nd, C.hs, C.calm, C.un, tk, po⟩)
    (fun a oe cls d pn hz hfl => ⟨fun pins s σ H D I h => ?_⟩)) fun D σ H ⟨e, R, p⟩ => ⟨e, R.wi, ?_⟩
  · obtain ⟨c, dd, v, rfl, rfl, hl, hv, h⟩ := h
    obtain ⟨_, v', hv', hp⟩ := hyes c dd hl
    rw [hv] at hv'
    cases hv'
    exact (hp a oe pn hz hfl).run pins s σ H D I h
  · simp only [exec] at p
    cases q : execs Φ F B e with
    | nx e' => rw [q] at p; exact fun σ' H' R' => p σ' H' R'.iw
    | ret x => rw [q] at p; exact p
    | bk e' => rw [q] at p; exact fun σ' H' R' => p σ' H' R'.iw
    | ct e' => rw [q] at p; exact fun σ' H' R' => p σ' H' R'.iw
    | stuck => rw [q] at p; exact p
    | ex c e' =>
      rw [q] at p
      intro σ' H' R'
      cases ql : r.lookup c with
      | some dd =>
        simp only [ql] at p
        obtain ⟨he, v, hv, _⟩ := hyes c dd ql
        split at p
        · rename_i hlt
          refine ⟨true, by rw [C.hK]; exact he, fun _ a na => ⟨c, dd, v, rfl, rfl, ql, hv, ?_, ?_⟩, fun z => Bool.noConfusion z⟩
          · rw [List.getElem?_set_self]
            rw [R'.len]
            exact hlt
          · exact fun H2 s2 => p v H2 (R'.fr.trans s2) (flV_den hv)
        · exact p.elim
      | none =>
        simp only [ql] at p
        by_cases ho : ok.contains c = true
        · rw [if_pos ho] at p
          exact ⟨false, by rw [C.hK]; exact hno c (by simpa using ho), fun z => Bool.noConfusion z, fun _ => p σ' H' R'.iw⟩
        · rw [if_neg ho] at p; exact p.elim
theorem se_globK {x : Str} {A : Addr} {d : D} {m : Nat} (hg : X.env.kindOf x = some .globalImplicit) (hm : X.mg x = some (.ref A)) (hd : ∀ (av : Addr → Prop) (H : Hp), Den P.K av H (.ref A) d) (hdb : (x == ("__debug__" : Str)) = false := by decide) : PE X (.Name x pos) (lift P m (ev Φ (.con d))) := se_glob (v := .ref A) hg hm rfl hd hdb
/-- the facts of a class for the clauses that name it, and for its instances -/
structure XFull (K : PySem.W.Frag) (mg : Str → Option Value) (x : Str) (A : Addr) : Prop extends XCls K mg x A where
  hd : PySem.W.hasDictIn K A = true
  ex : ExcC K A
theorem XFull.exm {K : PySem.W.Frag} {mg : Str → Option Value} {x : Str} {A : Addr} {cls : Value} {k : Bool} (h : XFull K mg x A) (s : PySem.W.subIn K cls (.ref A) = some k) : PySem.W.exmOne K cls (.ref A) = some k := PySem.W.exm_ref h.b h.hd h.t s
theorem kit_c {K : PySem.W.Frag} {D A : Addr} {k : Bool} (hd : PySem.W.hasDictIn K A = true) (ht : PySem.W.typeIn K (.ref A) = some (.type "type")) (hs : PySem.W.subIn K (.ref D) (.ref A) = some k) : PySem.W.kitCls K (.ref D) (.ref A) = some k := by
  obtain ⟨cd, hc, _⟩ := PySem.W.any_some hd
  have e2 : ((PySem.W.clsIn K A).isSome && PySem.W.typeIn K (.ref A) == some (.type "type")) = true := by rw [hc, ht] <;> rfl
  show (if ((PySem.W.clsIn K A).isSome && PySem.W.typeIn K (.ref A) == some (.type "type")) = true then PySem.W.subIn K (.ref D) (.ref A) else none) = some k
  rw [if_pos e2]
  exact hs
theorem kit_t {K : PySem.W.Frag} {D A : Addr} (hd : PySem.W.hasDictIn K A = true) (ht : PySem.W.typeIn K (.ref A) = some (.type "type")) (hs : PySem.W.subIn K (.ref D) (.ref A) = some true) : PySem.W.kitOne K (.ref D) (.ref A) = some true := by
  unfold PySem.W.kitOne
  split
  · rfl
  · exact kit_c hd ht hs
theorem kit_f {K : PySem.W.Frag} {D A : Addr} (hd : PySem.W.hasDictIn K A = true) (ht : PySem.W.typeIn K (.ref A) = some (.type "type")) (hs : PySem.W.subIn K (.ref D) (.ref A) = some false) (hn : (Value.ref D == Value.ref A) = false) : PySem.W.kitOne K (.ref D) (.ref A) = some false := by
  unfold PySem.W.kitOne
  rw [if_neg (by rw [hn]; exact Bool.false_ne_true)]
  exact kit_c hd ht hs
end
end
end Rf

set_option Elab.async false
set_option linter.all false
set_option maxRecDepth 100000
set_option maxHeartbeats 1000000
/-! Rf, part M: d.get(k, x); for k in d. -/
namespace Rf
noncomputable section
open PySem PySem.Spec PyProof.Rows L2
section
variable {X : Cx} {P : Pk} {N : List Str} {sc : Scope} {m F : Nat} {Φ : FT} {A B E : Exp} {ES : List Exp} {a b c tg : Expr} {es : List Expr} {pos : Pos}
theorem se_get (C : Ctx X P N sc) {apos : Pos} (ha : PE X a (lift P (sub m) (ev Φ A))) (hb : PE X b (lift P 0 (ev Φ B))) (hc : PE X c (lift P m (ev Φ E))) (m2 : M2 X a "get" apos b c pos := by exact ⟨rfl, rfl, rfl, rfl⟩) :
    PE X (.Call (.Attribute a "get" apos) [b, c] [] pos) (lift P m (ev Φ (.dget A B E))) := by
  refine PE.imp (pe_dget2 C.u1 ha hb hc m2) fun σ H Q ⟨e, R, p⟩ => ⟨e, R, ?_⟩
  simp only [ev] at p
  refine Post.weaken (bindZ (α := D) (m := sub m) gdPost R p) fun v H1 ⟨x, _, s1, R1, d1, p1⟩ => ?_
  cases x with
  | dict kvs =>
    obtain ⟨l, ks, rfl, h1, h2, h3⟩ := d1
    rw [av1_sub] at h3
    refine ⟨l, rfl, .inl ⟨ks, h1⟩, e, R1, ?_⟩
    simp only [] at p1
    refine Post.weaken (bindZ (α := D) (m := 0) gdPost R1 p1) fun w H2 ⟨y, _, s2, R2, d2, p2⟩ => ⟨e, R2, ?_⟩
    refine Post.weaken (bindZ (α := D) (m := m) gdPost R2 p2) fun u H3 ⟨z, _, s3, R3, d3, p3⟩ => ?_
    simp only [mthD] at p3
    split at p3
    · rename_i hk
      obtain ⟨k, hk⟩ := Option.isSome_iff_exists.mp hk
      obtain rfl := keyD_of hk
      obtain rfl := keyV d2
      have h1' := same_rd (s2.trans s3) h1
      have h3' := h3.same (s2.trans s3)
      rcases look_of k h3' with ⟨g1, g2⟩ | ⟨x', v', g1, g2, g3⟩
      · rw [g1] at p3
        exact ⟨none, .inl ⟨ks, k, h1', rfl, g2.symm⟩, p3 _ H3 (Same.refl _) d3⟩
      · rw [g1] at p3
        exact ⟨some v', .inl ⟨ks, k, h1', rfl, g2.symm⟩, p3 _ H3 (Same.refl _) (DenM.up g3)⟩
    · exact p3.elim
  | _ => exact p1.elim
end

end
end Rf

set_option Elab.async false
set_option linter.all false
set_option maxRecDepth 100000
set_option maxHeartbeats 1000000
/-! Rf, part Q: own dicts whose keys are tuples of ints and texts. -/
namespace Rf
noncomputable section
open PySem PySem.Spec PyProof.Rows L2
theorem tkey_of : ∀ {xs : List D} {c : List Key}, tkey xs = some c → xs = c.map keyOf
  | [], c, h => by simp only [tkey, Option.some.injEq] at h; subst h; rfl
  | x :: r, c, h => by
    simp only [tkey] at h
    cases q : keyD x with
    | none => rw [q] at h; cases h
    | some k =>
      cases q2 : tkey r with
      | none => rw [q, q2] at h; cases h
      | some l =>
        rw [q, q2] at h
        cases h
        rw [List.map_cons, ← tkey_of q2, ← keyD_of q]
theorem tkeyD_of {x : D} {c : List Key} (h : tkeyD x = some c) : x = .tuple (c.map keyOf) := by
  cases x <;> simp only [tkeyD, reduceCtorEq] at h
  rw [tkey_of h]
theorem eqvs_key : ∀ {a b : List Key}, PyData.eqvAll (a.map keyOf) (b.map keyOf) = decide (a = b)
  | [], [] => rfl
  | [], _ :: _ => rfl
  | _ :: _, [] => rfl
  | x :: a, y :: b => by
    rw [List.map_cons, List.map_cons]
    simp only [PyData.eqvAll, eqv_key, eqvs_key (a := a) (b := b), List.cons.injEq, Bool.decide_and]
theorem eqv_tkey {a b : List Key} : PyData.eqv (.tuple (a.map keyOf)) (.tuple (b.map keyOf)) = decide (a = b) := by
  simp only [PyData.eqv]
  exact eqvs_key
section
variable {K : PySem.W.Frag} {av a0 a1 : Addr → Prop} {H : Hp}
theorem dens_key : ∀ {c : List Key} {vs : List V}, Dens K av H vs (c.map keyOf) → vs = c.map kV
  | [], _, h => by cases h; rfl
  | k :: c, _, h => by
    rw [List.map_cons] at h
    cases h with
    | cons a b => rw [keyV a.two, dens_key b]; rfl
theorem tupV {v : V} {c : List Key} (h : Den2 K a0 a1 H v (.tuple (c.map keyOf))) : ∃ b, v = .ref b ∧ H b = some (.tup (c.map kV)) := by
  obtain ⟨b, xs, rfl, h1, h2⟩ := d2_tupH h
  rw [dens_key h2] at h1
  exact ⟨b, rfl, h1⟩
theorem lookT_of (k : List Key) : ∀ {ks : List (List Key × V)} {ds : List (D × D)}, DenTs K av H ks ds →
    (lookD ds (.tuple (k.map keyOf)) = none ∧ valV ks k = none) ∨ ∃ x v, lookD ds (.tuple (k.map keyOf)) = some x ∧ valV ks k = some v ∧ Den K av H v x
  | _, _, .nil => .inl ⟨rfl, rfl⟩
  | _, _, .cons (k := c) (v := v) (d := d) (ks := ks) (ds := ds) a b => by
    by_cases e : c = k
    · subst e
      refine .inr ⟨d, v, ?_, valV_pos rfl, a⟩
      simp only [lookD, List.find?_cons, eqv_tkey, decide_true, Option.map_some]
    · rw [valV_neg e]
      have h1 : lookD ((.tuple (c.map keyOf), d) :: ds) (.tuple (k.map keyOf)) = lookD ds (.tuple (k.map keyOf)) := by
        unfold lookD
        rw [List.find?_cons, eqv_tkey, decide_eq_false e]
      rw [h1]
      exact lookT_of k b
theorem replT_of (k : List Key) {w : V} {y : D} (hw : Den K av H w y) : ∀ {ks : List (List Key × V)} {ds : List (D × D)}, DenTs K av H ks ds →
    DenTs K av H (ks.map fun kv => if kv.1 = k then (kv.1, w) else kv) (ds.map fun p => if PyData.eqv p.1 (.tuple (k.map keyOf)) then (p.1, y) else p)
  | _, _, .nil => .nil
  | _, _, .cons (k := c) a b => by
    rw [List.map_cons, List.map_cons]
    by_cases e : c = k
    · subst e
      rw [if_pos rfl]
      simp only [eqv_tkey, decide_true, if_true]
      exact .cons hw (replT_of c hw b)
    · rw [if_neg e]
      simp only [eqv_tkey, decide_eq_false e, Bool.false_eq_true, if_false]
      exact .cons a (replT_of k hw b)
theorem DenTs.append : ∀ {ks : List (List Key × V)} {ds : List (D × D)} {ks' : List (List Key × V)} {ds' : List (D × D)}, DenTs K av H ks ds → DenTs K av H ks' ds' → DenTs K av H (ks ++ ks') (ds ++ ds')
  | _, _, _, _, .nil, h => h
  | _, _, _, _, .cons a b, h => .cons a (b.append h)
theorem putT_of (k : List Key) {w : V} {y : D} (hw : Den K av H w y) {ks : List (List Key × V)} {ds : List (D × D)} (h : DenTs K av H ks ds) : DenTs K av H (putK ks k w) (putD ds (.tuple (k.map keyOf)) y) := by
  unfold putD
  rcases lookT_of k h with ⟨h1, h2⟩ | ⟨x, v, h1, h2, _⟩
  · rw [putK_new w h2, h1]
    exact h.append (.cons hw .nil)
  · have e : putK ks k w = ks.map fun kv => if kv.1 = k then (kv.1, w) else kv := by
      unfold putK
      rw [if_pos (by rw [valV_any, h2]; rfl)]
    rw [e, h1]
    exact replT_of k hw h
end
/-- {k: v}, k a tuple -/
def tDisp1 (tk tv : TE) : TE := fun σ H Q => ∀ p, H p = none → tk σ (L2.upd H p (.dT [])) fun x H1 => tv σ H1 fun y H2 => H2 p = some (.dT []) ∧ ∃ k b, x = .ref b ∧ H2 b = some (.tup (k.map kV)) ∧ Q (.ref p) (L2.upd H2 p (.dT [(k, y)]))
theorem pe_disp1 {X : Cx} {pos : Pos} {k v : Expr} {tk tv : TE} (hu : X.A.units + 1 < cLine) (hk : PE X k tk) (hv : PE X v tv) : PE X (.Dict [some k] [v] pos) (tDisp1 tk tv) := by
  refine ⟨fun pins s σ H Q I q => ?_⟩
  have hn := I.hok.fresh (Nat.le_refl s.heap.objs.size)
  have I1 := I.laid (a := s.heap.objs.size) (o := .dT []) (h' := s.heap.push { cls := .type "dict", data := .dict #[] }) (t' := s.toks) (fun _ _ q => Heap.get?_push_of_some _ q) (Nat.le_refl _) (dt_empty s.heap I.big)
  refine wpAny_Dict_any rfl rfl (by simp) (by simp) ?_
  refine pairTrees_cons_walk (thn (hk.run pins _ σ _ _ I1 (q _ hn)) fun u s1 ⟨x, H1, I1, rx, q1⟩ => thn (hv.run pins s1 σ H1 _ I1 q1) fun w2 s2 ⟨y, H2, I2, ry, e, k, b, ex, eb, q2⟩ => pairTrees_nil_walk ?_)
  subst ex
  obtain rfl : u = Value.ref b := rx
  obtain ⟨z, hd, xs, rel, dd⟩ := dt_of I2.hok e
  have hz : xs.length ≤ sizeLine := by rw [← Paired.length rel]; exact z
  have rel' := rel.put k eb ry
  unfold storeAll
  rw [List.forIn_cons]
  refine wpAny_bind (wpAny_bind (wpAny_dictSet_heap (hsz := hz) (knd := tupleKind (mixKind X.prog X.w)) (show X.A.units < cLine by omega) (key_of I2.hok eb) dd fun h' dd' hs => wpAny_pure ?_))
  simp only [List.forIn_nil]
  refine wpAny_pure ⟨.ref s.heap.objs.size, _, ?_, rfl, q2⟩
  obtain ⟨q, es, ep, hq, h2, h3, h4, _, h5⟩ := dd'
  have hl : ([(k, y)] : List (List Key × V)).length ≤ sizeLine := by rw [sizeLine_eq]; simp
  have rel2 : KT H2 [(k, y)] (storedH xs k b w2) := rel'
  refine d_write I2 (by rw [e]; exact True.intro) hs ⟨q, hq⟩ ⟨hl, hd, _, rel2.keeps fun c ys ec => ?_, q, es, ep, hq, h2, h3, h4, h5⟩
  rw [upd_ne (ne_of ec e (fun z => nomatch z))]
  exact ec

section
variable {X : Cx} {P : Pk} {N : List Str} {sc : Scope} {m F : Nat} {Φ : FT} {A B E : Exp} {ES : List Exp} {a b c tg : Expr} {es : List Expr} {pos : Pos}
theorem tget_ok {e : Sl} {σ : L2.St} {H : Hp} (R : Rel P e σ H) {i : Nat} {xs : List (D × D)} (q : e[i]? = some (.ot xs)) {v : V} {y : D} (hy : Den2 P.K (av0 P e σ 0) (av1 P e σ 0) H v y) (hk : (tkeyD y).isSome) :
    ∃ l o, σ[i]? = some (some (.ref l)) ∧ DGet H l v o ∧ o.isSome = (lookD xs y).isSome ∧ ∀ x, lookD xs y = some x → ∃ w, o = some w ∧ Den P.K (avo P e σ) H w x := by
  obtain ⟨o1, h1, l, us, rfl, hl, dd⟩ := R.at q
  obtain ⟨k, hk⟩ := Option.isSome_iff_exists.mp hk
  obtain rfl := tkeyD_of hk
  obtain ⟨b, rfl, hb⟩ := tupV hy
  refine ⟨l, valV us k, h1, DGet.t hl hb, ?_⟩
  rcases lookT_of k dd with ⟨g1, g2⟩ | ⟨x', v', g1, g2, g3⟩
  · rw [g1, g2]
    exact ⟨rfl, fun x z => by cases z⟩
  · rw [g1, g2]
    exact ⟨rfl, fun x z => by cases z; exact ⟨v', rfl, g3⟩⟩
theorem tin_of {i : Nat} {neg : Bool} {A2 : Exp} (hA : ∀ e : Sl, ev Φ A2 e = match e[i]? with
    | some (.ot kvs) => (ev Φ B e).bind fun y => if (tkeyD y).isSome then .ok (.bool (xor neg (lookD kvs y).isSome)) else .stuck
    | _ => .stuck) {σ : L2.St} {H : Hp} {Q : VK} (h : lift P m (ev Φ A2) σ H Q) :
    (lift P 0 (ev Φ B)) σ H fun y H1 => tVar i σ H1 fun x H2 => ∃ a o, x = .ref a ∧ DGet H2 a y o ∧ Q (.bl (xor neg o.isSome)) H2 := by
  obtain ⟨e, R, p⟩ := h
  rw [hA] at p
  refine ⟨e, R, ?_⟩
  cases q : e[i]? with
  | none => rw [q] at p; exact p.elim
  | some s =>
    rw [q] at p
    cases s with
    | ot xs =>
      simp only [] at p
      refine Post.weaken (bindZ (α := D) (m := 0) gdPost R p) fun v H1 ⟨x, _, s1, R1, d1, p1⟩ => ?_
      split at p1
      · rename_i hk
        obtain ⟨l, o, h1, h2, h3, _⟩ := tget_ok R1 q d1 hk
        exact ⟨_, h1, l, o, rfl, h2, by rw [h3]; exact p1 _ H1 (Same.refl _) bl_m⟩
      · exact p1.elim
    | _ => exact p.elim
theorem tinT_of {i : Nat} {neg : Bool} {A2 : Exp} (hA : ∀ e : Sl, ev Φ A2 e = match e[i]? with
    | some (.ot kvs) => (ev Φ B e).bind fun y => if (tkeyD y).isSome then .ok (.bool (xor neg (lookD kvs y).isSome)) else .stuck
    | _ => .stuck) {σ : L2.St} {H : Hp} {Q : Bool → Hp → Prop} (h : liftT P (ev Φ A2) σ H Q) :
    (lift P 0 (ev Φ B)) σ H fun y H1 => tVar i σ H1 fun x H2 => ∃ a o, x = .ref a ∧ DGet H2 a y o ∧ Q (xor neg o.isSome) H2 := by
  obtain ⟨e, R, p⟩ := h
  rw [hA] at p
  refine ⟨e, R, ?_⟩
  cases q : e[i]? with
  | none => rw [q] at p; exact p.elim
  | some s =>
    rw [q] at p
    cases s with
    | ot xs =>
      simp only [] at p
      refine Post.weaken (bindZ (α := D) (m := 0) gdPostT R p) fun v H1 ⟨x, _, s1, R1, d1, p1⟩ => ?_
      split at p1
      · rename_i hk
        obtain ⟨l, o, h1, h2, h3, _⟩ := tget_ok R1 q d1 hk
        exact ⟨_, h1, l, o, rfl, h2, by rw [h3]; exact p1 H1 (Same.refl _)⟩
      · exact p1.elim
    | _ => exact p.elim
theorem ev_tin {i : Nat} (e : Sl) : ev Φ (.tin i B) e = match e[i]? with
    | some (.ot kvs) => (ev Φ B e).bind fun y => if (tkeyD y).isSome then .ok (.bool (xor false (lookD kvs y).isSome)) else .stuck
    | _ => .stuck := by
  simp only [ev, Bool.false_bne, Bool.false_xor] <;> rfl
theorem ev_tni {i : Nat} (e : Sl) : ev Φ (.tni i B) e = match e[i]? with
    | some (.ot kvs) => (ev Φ B e).bind fun y => if (tkeyD y).isSome then .ok (.bool (xor true (lookD kvs y).isSome)) else .stuck
    | _ => .stuck := by
  simp only [ev, Bool.true_xor] <;> rfl
theorem se_tin (C : Ctx X P N sc) {i : Nat} {x : Str} {px : Pos} (hi : N[i]? = some x) (hv : Vis sc x) (hb : PE X b (lift P 0 (ev Φ B))) (hd : (x == ("__debug__" : Str)) = false := by decide) (hcd : (x == ("__classdict__" : Str)) = false := by decide) :
    PE X (.Compare b [.In] [.Name x px] pos) (lift P m (ev Φ (.tin i B))) := by
  refine PE.imp (pe_cmp (pc_din C.u1 hb (pe_var (i := i) (by rw [C.hN]; exact hi) (by rw [C.hs]; exact hv) hd hcd))) fun σ H Q h => ?_
  have := tin_of ev_tin h
  simp only [Bool.false_xor] at this
  exact this
theorem se_tni (C : Ctx X P N sc) {i : Nat} {x : Str} {px : Pos} (hi : N[i]? = some x) (hv : Vis sc x) (hb : PE X b (lift P 0 (ev Φ B))) (hd : (x == ("__debug__" : Str)) = false := by decide) (hcd : (x == ("__classdict__" : Str)) = false := by decide) :
    PE X (.Compare b [.NotIn] [.Name x px] pos) (lift P m (ev Φ (.tni i B))) := by
  refine PE.imp (pe_cmp (pc_dnotin C.u1 hb (pe_var (i := i) (by rw [C.hN]; exact hi) (by rw [C.hs]; exact hv) hd hcd))) fun σ H Q h => ?_
  have := tin_of ev_tni h
  simp only [Bool.true_xor] at this
  exact this
theorem st_tin (C : Ctx X P N sc) {i : Nat} {x : Str} {px : Pos} (hi : N[i]? = some x) (hv : Vis sc x) (hb : PE X b (lift P 0 (ev Φ B))) (hd : (x == ("__debug__" : Str)) = false := by decide) (hcd : (x == ("__classdict__" : Str)) = false := by decide) :
    PT X (.Compare b [.In] [.Name x px] pos) (liftT P (ev Φ (.tin i B))) := by
  refine PT.imp (pt_cmp (pc_din C.u1 hb (pe_var (i := i) (by rw [C.hN]; exact hi) (by rw [C.hs]; exact hv) hd hcd))) fun σ H Q h => ?_
  obtain ⟨e, R, p⟩ := tinT_of ev_tin h
  refine ⟨e, R, Post.weaken p fun v H1 ⟨x, h1, l, o, h2, h3, h4⟩ => ⟨x, h1, l, o, h2, h3, _, rfl, ?_⟩⟩
  simp only [Bool.false_xor] at h4
  exact h4
theorem st_tni (C : Ctx X P N sc) {i : Nat} {x : Str} {px : Pos} (hi : N[i]? = some x) (hv : Vis sc x) (hb : PE X b (lift P 0 (ev Φ B))) (hd : (x == ("__debug__" : Str)) = false := by decide) (hcd : (x == ("__classdict__" : Str)) = false := by decide) :
    PT X (.Compare b [.NotIn] [.Name x px] pos) (liftT P (ev Φ (.tni i B))) := by
  refine PT.imp (pt_cmp (pc_dnotin C.u1 hb (pe_var (i := i) (by rw [C.hN]; exact hi) (by rw [C.hs]; exact hv) hd hcd))) fun σ H Q h => ?_
  obtain ⟨e, R, p⟩ := tinT_of ev_tni h
  refine ⟨e, R, Post.weaken p fun v H1 ⟨x, h1, l, o, h2, h3, h4⟩ => ⟨x, h1, l, o, h2, h3, _, rfl, ?_⟩⟩
  simp only [Bool.true_xor] at h4
  exact h4
theorem se_tget (C : Ctx X P N sc) {i : Nat} {x : Str} {px : Pos} (hi : N[i]? = some x) (hv : Vis sc x) (hb : PE X b (lift P 0 (ev Φ B))) (hp : NoSl b) (hd : (x == ("__debug__" : Str)) = false := by decide) (hcd : (x == ("__classdict__" : Str)) = false := by decide) :
    PE X (.Subscript (.Name x px) b pos) (lift P m (ev Φ (.tget i B))) := by
  refine PE.imp (pe_dget C.u1 (pe_var (i := i) (by rw [C.hN]; exact hi) (by rw [C.hs]; exact hv) hd hcd) hb hp) fun σ H Q ⟨e, R, p⟩ => ?_
  simp only [ev] at p
  cases q : e[i]? with
  | none => rw [q] at p; exact p.elim
  | some s =>
    rw [q] at p
    cases s with
    | ot xs =>
      simp only [] at p
      obtain ⟨o1, h1, l, us, rfl, hl, dd⟩ := R.at q
      refine ⟨_, h1, e, R, ?_⟩
      refine Post.weaken (bindZ (α := D) (m := 0) gdPost R p) fun v H1 ⟨x, _, s1, R1, d1, p1⟩ => ?_
      split at p1
      · rename_i hk
        obtain ⟨l', o, g1, g2, g3, g4⟩ := tget_ok R1 q d1 hk
        cases h1.symm.trans g1
        cases q2 : lookD xs x with
        | none => rw [q2] at p1; exact p1.elim
        | some y =>
          rw [q2] at p1
          obtain ⟨w, rfl, dw⟩ := g4 _ q2
          exact ⟨l, w, rfl, g2, p1 _ H1 (Same.refl _) dw.mm⟩
      · exact p1.elim
    | _ => exact p.elim
theorem ss_towe (C : Ctx X P N sc) {i : Nat} {x : Str} {px dp : Pos} (hi : N[i]? = some x) (hx : Loc sc x) (hs : swapsWith (.Dict [] [] dp) (some (.Name x px)) pos.line X.env = pure false := by rfl) (hf : X.fn x = true ∨ X.env.scope.names.lookup x = some .local := by first | exact .inl rfl | exact .inr rfl) :
    PS X (.Assign [.Name x px] (.Dict [] [] dp) pos) (liftS P (exec Φ F (.towe i))) := by
  refine PS.imp (ps_set (by rw [C.hN]; exact C.nd) (by rw [C.hN]; exact hi) (by rw [C.hs]; exact hx) pe_dnewT hs hf) fun D σ H ⟨e, R, p⟩ => ?_
  simp only [exec] at p
  split at p
  · exact fun p' hp => p _ _ (R.setNew hp (same_upd hp) ⟨p', [], rfl, upd_same, .nil⟩)
  · exact p.elim
theorem ss_towp (C : Ctx X P N sc) {i : Nat} {x : Str} {px dp : Pos} (hi : N[i]? = some x) (hx : Loc sc x) (ha : PE X a (lift P 0 (ev Φ A))) (hb : PE X b (lift P 2 (ev Φ B))) (hs : swapsWith (.Dict [some a] [b] dp) (some (.Name x px)) pos.line X.env = pure false := by rfl) (hf : X.fn x = true ∨ X.env.scope.names.lookup x = some .local := by first | exact .inl rfl | exact .inr rfl) :
    PS X (.Assign [.Name x px] (.Dict [some a] [b] dp) pos) (liftS P (exec Φ F (.towp i A B))) := by
  refine PS.imp (ps_set (by rw [C.hN]; exact C.nd) (by rw [C.hN]; exact hi) (by rw [C.hs]; exact hx) (pe_disp1 C.u1 ha hb) hs hf) fun D σ H ⟨e, R, p⟩ => ?_
  simp only [exec] at p
  intro p' hp
  have sp : Same H (L2.upd H p' (.dT [])) := same_upd hp
  have R0 := R.same sp
  refine ⟨e, R0, Post.weaken (bindS (m := 0) R0 p) fun k H1 ⟨k', _, s1, R1, hk', p⟩ => ⟨e, R1, ?_⟩⟩
  refine Post.weaken (bindS (m := 2) R1 p) fun w H2 ⟨y, _, s2, R2, hy, p⟩ => ?_
  have hpp : H2 p' = some (.dT []) := s2 _ _ (s1 _ _ upd_same)
  split at p
  · rename_i hz
    obtain ⟨c, hc⟩ := Option.isSome_iff_exists.mp hz.1
    obtain rfl := tkeyD_of hc
    obtain ⟨b', rfl, hb'⟩ := tupV (hk'.same s2)
    refine ⟨hpp, c, b', rfl, hb', p _ _ ?_⟩
    refine R.setNew hp (fun a o z => ?_) ⟨p', [(c, w)], rfl, upd_same, .cons ?_ .nil⟩
    · rw [upd_ne fun e => by rw [e, hp] at z; cases z]
      exact s2 _ _ (s1 _ _ (sp _ _ z))
    · have hy := hy.d2
      cases y with
      | none => cases hy; exact .none
      | bool _ => cases hy; exact .bool _
      | int _ => cases hy; exact .int _
      | str _ => cases hy; exact .str _
      | _ => cases hz.2.1
  · exact p.elim
theorem ss_tset (C : Ctx X P N sc) {i : Nat} {x : Str} {px tp : Pos} (hi : N[i]? = some x) (hv : Vis sc x) (he : PE X a (lift P 2 (ev Φ A))) (hk : PE X b (lift P 0 (ev Φ B))) (hd : (x == ("__debug__" : Str)) = false := by decide) (hcd : (x == ("__classdict__" : Str)) = false := by decide)
    (hs : swapsWith a (some (.Subscript (.Name x px) b tp)) pos.line X.env = pure false := by rfl) :
    PS X (.Assign [.Subscript (.Name x px) b tp] a pos) (liftS P (exec Φ F (.tset i B A))) := by
  refine PS.imp (ps_dput C.u1 (pe_var (i := i) (by rw [C.hN]; exact hi) (by rw [C.hs]; exact hv) hd hcd) hk he hs) fun D σ H ⟨e, R, p⟩ => ⟨e, R, ?_⟩
  simp only [exec] at p
  cases q : e[i]? with
  | none => rw [q] at p; exact p.elim
  | some s =>
    rw [q] at p
    cases s with
    | ot xs =>
      obtain ⟨o1, h1, l, us, rfl, hl, dd⟩ := R.at q
      refine Post.weaken (bindS (m := 2) R p) fun w H1 ⟨y, _, s, R1, hy, p⟩ => ⟨_, h1, e, R1, ?_⟩
      refine Post.weaken (bindS (m := 0) R1 p) fun k H2 ⟨k', _, s2, R2, hk', p⟩ => ?_
      split at p
      · rename_i hz
        obtain ⟨hz1, hz2⟩ := hz
        obtain ⟨c, hc⟩ := Option.isSome_iff_exists.mp hz1
        obtain rfl := tkeyD_of hc
        obtain ⟨b', rfl, hb'⟩ := tupV hk'
        refine ⟨l, _, rfl, DPut.t (s2 _ _ (s _ _ hl)) hb' (by rw [dd.length]; exact line_lt hz2), p σ _ (R2.updOwn q rfl rfl h1 ⟨l, _, rfl, upd_same, ?_⟩)⟩
        exact (putT_of c (hy.d2.same s2) ((dd.same s).same s2)).mp fun _ _ z => z.upd (R2.kinds _ ⟨i, _, q, rfl, h1⟩).1 (R2.kinds _ ⟨i, _, q, rfl, h1⟩).2 (.inr ⟨i, _, q, rfl, h1⟩)
      · exact p.elim
    | _ => exact p.elim
theorem sss_stop {r : List Stmt} : PSs X r (liftS P (execs Φ F [.stop])) := ⟨fun pins s σ H D I ⟨e, R, p⟩ => by
  simp only [execs, exec] at p
  exact p.elim⟩
end
end
end Rf

set_option Elab.async false
set_option linter.all false
set_option maxRecDepth 100000
set_option maxHeartbeats 1000000
/-! Rf, part P: an object that remembers rows (the class Powers): its methods' promises, the walks of their bodies. -/
namespace Rf
noncomputable section
open PySem PySem.Spec PyProof.Rows L2
/-- the heap grows; the dict at d may change -/
def SB (d : Addr) (H H' : Hp) : Prop := ∀ b o, b ≠ d → H b = some o → H' b = some o
theorem SB.of {d : Addr} {H H' : Hp} (s : Same H H') : SB d H H' := fun b o _ q => s b o q
theorem SB.trans {d : Addr} {H H' H2 : Hp} (s : SB d H H') (t : SB d H' H2) : SB d H H2 := fun b o n q => t b o n (s b o n q)
section
variable {K : PySem.W.Frag} {av : Addr → Prop} {H H' : Hp} {d0 : Addr} {ks0 : List (Key × V)}
theorem rd_sb {a : Addr} {u : HO} (h0 : H d0 = some (.dK ks0)) (hn : ∀ z, u ≠ .dK z) (s : SB d0 H H') (h : Rd H a u) : Rd H' a u := by
  have ne : a ≠ d0 := fun e => by
    subst e
    rcases h with h | ⟨o, h⟩
    · rw [h] at h0; cases h0; exact hn _ rfl
    · rw [h] at h0; cases h0
  exact h.imp (fun q => s _ _ ne q) fun ⟨o, q⟩ => ⟨o, s _ _ ne q⟩
theorem nk_lst {xs : List V} : ∀ z, HO.lst xs ≠ .dK z := fun _ z => nomatch z
theorem nk_tup {xs : List V} : ∀ z, HO.tup xs ≠ .dK z := fun _ z => nomatch z
mutual
theorem Den.sb (h0 : H d0 = some (.dK ks0)) (s : SB d0 H H') : ∀ {x : D} {v : V}, noDct x = true → Den K av H v x → Den K av H' v x
  | _, _, _, .none => .none
  | _, _, _, .bool b => .bool b
  | _, _, _, .int i => .int i
  | _, _, _, .str x => .str x
  | .list _, _, n, .list h m t => .list (h.imp (rd_sb h0 nk_lst s) id) m (Dens.sb h0 s (by simpa [noDct] using n) t)
  | .tuple _, _, n, .tuple h t => .tuple (s _ _ (fun e => by subst e; rw [h] at h0; cases h0) h) (Dens.sb h0 s (by simpa [noDct] using n) t)
  | .dict _, _, n, .dict _ _ _ => by simp [noDct] at n
theorem Dens.sb (h0 : H d0 = some (.dK ks0)) (s : SB d0 H H') : ∀ {x : List D} {v : List V}, noDcts x = true → Dens K av H v x → Dens K av H' v x
  | _, _, _, .nil => .nil
  | _ :: _, _, n, .cons a b => by
    simp only [noDcts, Bool.and_eq_true] at n
    exact .cons (Den.sb h0 s n.1 a) (Dens.sb h0 s n.2 b)
end
end
theorem noDcts_mem : ∀ {xs : List D}, (∀ x ∈ xs, noDct x = true) → noDcts xs = true
  | [], _ => rfl
  | x :: r, h => by simp only [noDcts, h x (List.mem_cons_self ..), noDcts_mem fun y hy => h y (List.mem_cons_of_mem _ hy), Bool.and_self]
abbrev noAv : Addr → Prop := fun _ => False
/-- the object at p, its dict of rows at d -/
structure PwAt (K : PySem.W.Frag) (C : Addr) (rv : Int → D) (H : Hp) (p d : Addr) (kvs : List (Key × V)) : Prop where
  ob : ∃ dx, H p = some (.ins C dx [("rows", .ref d)])
  dc : H d = some (.dK kvs)
  nd : (kvs.map (·.1)).Nodup
  ok : ∀ kv ∈ kvs, ∃ m : Int, kv.1 = .inl m ∧ 1 ≤ m ∧ m ≤ 10000 ∧ Den K noAv H kv.2 (rv m)
section
variable {K : PySem.W.Frag} {C : Addr} {rv : Int → D} {H H' : Hp} {p d : Addr} {kvs : List (Key × V)}
theorem PwAt.same (h : PwAt K C rv H p d kvs) (s : Same H H') : PwAt K C rv H' p d kvs := by
  obtain ⟨dx, e⟩ := h.ob
  exact ⟨⟨dx, s _ _ e⟩, s _ _ h.dc, h.nd, fun kv hk => let ⟨m, a, b, c, q⟩ := h.ok kv hk; ⟨m, a, b, c, q.same s⟩⟩
theorem PwAt.ne (h : PwAt K C rv H p d kvs) : p ≠ d := by
  obtain ⟨dx, e⟩ := h.ob
  exact ne_of e h.dc (fun z => nomatch z)
theorem nodup_len : ∀ (N : Nat) {l : List Int}, l.Nodup → (∀ x ∈ l, 1 ≤ x ∧ x ≤ (N : Nat)) → l.length ≤ N
  | 0, l, _, h => by
    cases l with
    | nil => exact Nat.le_refl _
    | cons a r => have := h a (List.mem_cons_self ..); omega
  | N + 1, l, nd, h => by
    have h1 := nodup_len N (l := l.filter (· ≠ ((N + 1 : Nat) : Int))) (nd.sublist (List.filter_sublist ..)) fun x hx => by
      rw [List.mem_filter] at hx
      have := h x hx.1
      have h2 : x ≠ ((N + 1 : Nat) : Int) := by simpa using hx.2
      omega
    have h2 : ∀ {l : List Int}, l.Nodup → l.length ≤ (l.filter (· ≠ ((N + 1 : Nat) : Int))).length + 1 := by
      intro l
      induction l with
      | nil => intro _; simp
      | cons a r ih =>
        intro nd
        rw [List.nodup_cons] at nd
        by_cases e : a = ((N + 1 : Nat) : Int)
        · subst e
          have : r.filter (· ≠ ((N + 1 : Nat) : Int)) = r := by
            rw [List.filter_eq_self]
            intro x hx
            have : x ≠ ((N + 1 : Nat) : Int) := fun z => nd.1 (z ▸ hx)
            simpa using this
          rw [List.filter_cons_of_neg (by simp), this]
          simp
        · rw [List.filter_cons_of_pos (by simpa using e)]
          have := ih nd.2
          simp only [List.length_cons]; omega
    have := h2 nd
    omega
def keyI : Key → Int
  | .inl m => m
  | .inr _ => 0
theorem PwAt.len (h : PwAt K C rv H p d kvs) : kvs.length ≤ 10000 := by
  have h1 : ((kvs.map (·.1)).map keyI).length ≤ 10000 := by
    refine nodup_len 10000 ?_ fun x hx => ?_
    · have nd := h.nd
      have al : ∀ k ∈ kvs.map (·.1), ∃ m : Int, k = .inl m := fun k hk => by
        obtain ⟨kv, h1, rfl⟩ := List.mem_map.mp hk
        obtain ⟨m, e, _⟩ := h.ok kv h1
        exact ⟨m, e⟩
      revert nd al
      generalize kvs.map (·.1) = l
      intro nd al
      induction l with
      | nil => simp
      | cons a r ih =>
        rw [List.nodup_cons] at nd
        rw [List.map_cons, List.nodup_cons]
        refine ⟨fun hx => ?_, ih nd.2 fun k hk => al k (List.mem_cons_of_mem _ hk)⟩
        obtain ⟨k, h1, h2⟩ := List.mem_map.mp hx
        obtain ⟨m, rfl⟩ := al a (List.mem_cons_self ..)
        obtain ⟨m', rfl⟩ := al k (List.mem_cons_of_mem _ h1)
        have : m' = m := h2
        subst this
        exact nd.1 h1
    · obtain ⟨k, h1, rfl⟩ := List.mem_map.mp hx
      obtain ⟨kv, h3, rfl⟩ := List.mem_map.mp h1
      obtain ⟨m, e, a, b, _⟩ := h.ok kv h3
      rw [e]
      exact ⟨a, b⟩
  simpa using h1
/-- the dict with a row more -/
theorem PwAt.put (h : PwAt K C rv H p d kvs) (s : Same H H') {m : Int} {v : V} (m1 : 1 ≤ m) (m2 : m ≤ 10000) (hn : valV kvs (.inl m) = none) (hrv : ∀ m, noDct (rv m) = true) (hv : Den K noAv H' v (rv m)) :
    PwAt K C rv (upd H' d (.dK (putK kvs (.inl m) v))) p d (putK kvs (.inl m) v) ∧ SB d H (upd H' d (.dK (putK kvs (.inl m) v))) := by
  have h' := h.same s
  have sb : SB d H' (upd H' d (.dK (putK kvs (.inl m) v))) := fun b o n q => by rw [upd_ne n]; exact q
  have e : putK kvs (.inl m) v = kvs ++ [(.inl m, v)] := putK_new _ hn
  refine ⟨⟨?_, upd_same, ?_, fun kv hk => ?_⟩, (SB.of s).trans sb⟩
  · obtain ⟨dx, q⟩ := h'.ob
    exact ⟨dx, by rw [upd_ne h.ne]; exact q⟩
  · rw [e]
    rw [List.map_append, List.nodup_append]
    refine ⟨h.nd, by simp, fun a ha b hb => ?_⟩
    simp at hb
    subst hb
    intro z
    subst z
    obtain ⟨kv, h1, h2⟩ := List.mem_map.mp ha
    have : ∀ {l : List (Key × V)}, valV l (.inl m) = none → ∀ kv ∈ l, kv.1 ≠ .inl m := by
      intro l
      induction l with
      | nil => intro _ kv h; simp at h
      | cons x r ih =>
        intro hn kv hk
        by_cases e : x.1 = .inl m
        · rw [show x = (x.1, x.2) from rfl, valV_pos e] at hn; cases hn
        · rw [show x = (x.1, x.2) from rfl, valV_neg e] at hn
          rcases List.mem_cons.mp hk with rfl | hk
          · exact e
          · exact ih hn kv hk
    exact this hn kv h1 h2
  · rw [e] at hk
    rcases List.mem_append.mp hk with hk | hk
    · obtain ⟨m', a, b, c, q⟩ := h'.ok kv hk
      exact ⟨m', a, b, c, q.sb h'.dc sb (hrv m')⟩
    · simp at hk
      subst hk
      exact ⟨m, rfl, m1, m2, hv.sb h'.dc sb (hrv m)⟩
end
/-! ### the methods' promise -/
def spM (K : PySem.W.Frag) (C : Addr) (rv : Int → D) (Φ : FT) (i : Nat) : L2.Sp := fun vs H Q _ => ∃ (p d : Addr) (kvs : List (Key × V)) (vs' : List V) (ds : List D) (x : D), vs = .ref p :: vs' ∧ PwAt K C rv H p d kvs ∧ Dens K noAv H vs' ds ∧ noDcts ds = true ∧ Φ i (.int (p : Nat) :: ds) = .ok x ∧
  ∀ v H' kvs', SB d H H' → PwAt K C rv H' p d kvs' → Den K noAv H' v x → Q v H'
@[reducible] def PO (K : PySem.W.Frag) (ca : Nat → Addr) (h0 : Hp) : Pk := { K := K, H0 := h0, Av := noAv, avok := fun _ z => z.elim, W := fun _ _ _ _ => False, ca := ca }
structure RO (K : PySem.W.Frag) (ca : Nat → Addr) (C : Addr) (rv : Int → D) (e : Sl) (σ : L2.St) (H : Hp) (p d : Addr) (kvs : List (Key × V)) : Prop where
  rel : ∃ h0, Rel (PO K ca h0) e σ H
  pw : PwAt K C rv H p d kvs
  slf : e[0]? = some (.ob p)
section
variable {K : PySem.W.Frag} {ca : Nat → Addr} {C : Addr} {rv : Int → D} {e : Sl} {σ : L2.St} {H H' : Hp} {p d : Addr} {kvs kvs' : List (Key × V)}
theorem okS_get (h : okS e = true) {i : Nat} {s : Slot} (hi : e[i]? = some s) : s = .un ∨ (∃ q, s = .ob q) ∨ ∃ x, s = .d x ∧ noDct x = true := by
  have := List.all_eq_true.mp h s (List.mem_of_getElem? hi)
  cases s with
  | un => exact .inl rfl
  | ob q => exact .inr (.inl ⟨q, rfl⟩)
  | d x => exact .inr (.inr ⟨x, rfl, this⟩)
  | ol _ => cases this
  | od _ => cases this
  | ot _ => cases this
theorem okS_own (h : okS e = true) {a : Addr} : ¬ Owns e σ a := fun ⟨i, s, h1, h2, _⟩ => by
  rcases okS_get h h1 with rfl | ⟨q, rfl⟩ | ⟨x, rfl, _⟩ <;> cases h2
/-- the relation at a later heap -/
theorem rel_to {h0 : Hp} (R : Rel (PO K ca h0) e σ H) (ok : okS e = true) {dc : List (Key × V)} (h0d : H d = some (.dK dc)) (s : SB d H H') : Rel (PO K ca H') e σ H' := by
  refine ⟨R.len, fun i t o h1 h2 => ?_, R.inj, Same.refl _, fun a z => absurd z (okS_own ok)⟩
  have q := R.slot i t o h1 h2
  rcases okS_get ok h1 with rfl | ⟨q, rfl⟩ | ⟨x, rfl, n⟩
  · trivial
  · exact q
  · obtain ⟨v, rfl, dn⟩ := q
    exact ⟨v, rfl, dn.sb h0d s n⟩
theorem RO.move (R : RO K ca C rv e σ H p d kvs) (ok : okS e = true) (s : SB d H H') (w : PwAt K C rv H' p d kvs') : RO K ca C rv e σ H' p d kvs' := ⟨let ⟨_, r⟩ := R.rel; ⟨_, rel_to r ok R.pw.dc s⟩, w, R.slf⟩
theorem rel_base {h0 : Hp} (R : Rel (PO K ca h0) e σ H) (no : ∀ a, ¬ Owns e σ a) : Rel (PO K ca H) e σ H := ⟨R.len, R.slot, R.inj, Same.refl _, fun a z => absurd z (no a)⟩
theorem avo_no {h0 : Hp} (no : ∀ a, ¬ Owns e σ a) {v : V} {x : D} (h : Den K noAv H v x) : Den K (avo (PO K ca h0) e σ) H v x := h.imp (fun _ _ => ⟨id, id⟩) fun a _ z => z.elim id (no a)
def PostW (K : PySem.W.Frag) (ca : Nat → Addr) (C : Addr) (rv : Int → D) (D : Ends) (H : Hp) (p d : Addr) : Out → Prop
  | .nx e' => ∀ σ' H' kvs', SB d H H' → RO K ca C rv e' σ' H' p d kvs' → D.nx σ' H'
  | .ret x => ∀ v H' kvs', SB d H H' → PwAt K C rv H' p d kvs' → Den K noAv H' v x → D.rt v H'
  | .bk e' => ∀ σ' H' kvs', SB d H H' → RO K ca C rv e' σ' H' p d kvs' → D.bk σ' H'
  | .ct e' => ∀ σ' H' kvs', SB d H H' → RO K ca C rv e' σ' H' p d kvs' → D.ct σ' H'
  | _ => False
def liftW (K : PySem.W.Frag) (ca : Nat → Addr) (C : Addr) (rv : Int → D) (f : Sl → Out) : L2.TS := fun D σ H => ∃ e p d kvs, RO K ca C rv e σ H p d kvs ∧ PostW K ca C rv D H p d (f e)
theorem PostW.back {D : Ends} (s : SB d H H') : ∀ {o : Out}, PostW K ca C rv D H p d o → PostW K ca C rv D H' p d o
  | .nx _, h => fun σ' H2 k t => h σ' H2 k (s.trans t)
  | .ret _, h => fun σ' H2 k t => h σ' H2 k (s.trans t)
  | .bk _, h => fun σ' H2 k t => h σ' H2 k (s.trans t)
  | .ct _, h => fun σ' H2 k t => h σ' H2 k (s.trans t)
  | .ex _ _, h => h
  | .stuck, h => h
theorem PostW.seq {D : Ends} {g : Sl → Out} : ∀ {o : Out}, PostW K ca C rv D H p d (o.seq g) → PostW K ca C rv { D with nx := liftW K ca C rv g D } H p d o
  | .nx e', h => fun σ' H2 k t R => ⟨e', p, d, k, R, PostW.back t h⟩
  | .ret _, h => h
  | .bk _, h => h
  | .ct _, h => h
  | .ex _ _, h => h
  | .stuck, h => h
end
section
variable {X : Cx} {K : PySem.W.Frag} {ca : Nat → Addr} {C : Addr} {rv : Int → D} {N : List Str} {sc : Scope} {Φ : FT} {F : Nat}
theorem PE.any {ι : Type} {ex : Expr} {t : ι → L2.TE} (h : ∀ i, PE X ex (t i)) : PE X ex (fun σ H Q => ∃ i, t i σ H Q) := ⟨fun pins s σ H Q I ⟨i, q⟩ => (h i).run pins s σ H Q I q⟩
theorem PS.any {ι : Type} {st : Stmt} {t : ι → L2.TS} (h : ∀ i, PS X st (t i)) : PS X st (fun D σ H => ∃ i, t i D σ H) := ⟨fun pins s σ H D I ⟨i, q⟩ => (h i).run pins s σ H D I q⟩
theorem so_nil : PSs X [] (liftW K ca C rv (execs Φ F [])) := PSs.imp pss_nil fun D σ H ⟨e, p, d, kvs, R, h⟩ => by
  simp only [execs] at h
  exact h σ H kvs (fun _ _ _ q => q) R
/-- with plain slots -/
def liftC (K : PySem.W.Frag) (ca : Nat → Addr) (C : Addr) (rv : Int → D) (f : Sl → Out) : L2.TS := fun D σ H => ∃ e p d kvs, RO K ca C rv e σ H p d kvs ∧ okS e = true ∧ PostW K ca C rv D H p d (f e)
theorem so_cons {st : Stmt} {rest : List Stmt} {S : Stm} {r : List Stm} (h : PS X st (liftC K ca C rv (exec Φ F S))) (g : PSs X rest (liftW K ca C rv (execs Φ F r))) : PSs X (st :: rest) (liftW K ca C rv (execs Φ F (.chk :: S :: r))) :=
  PSs.imp (pss_cons h g) fun D σ H ⟨e, p, d, kvs, R, q⟩ => by
    simp only [execs, exec] at q
    by_cases ok : okS e = true
    · rw [if_pos ok] at q
      exact ⟨e, p, d, kvs, R, ok, PostW.seq q⟩
    · rw [if_neg ok] at q; exact q.elim
/-- a statement that does not touch the object -/
theorem so_pure {st : Stmt} {S : Stm} (hS : ∀ h0 : Hp, PS X st (liftS (PO K ca h0) (exec Φ F S))) (h0 : ∀ e e', exec Φ F S e = .nx e' → e'[0]? = e[0]?) (hbc : ∀ e e', exec Φ F S e ≠ .bk e' ∧ exec Φ F S e ≠ .ct e') : PS X st (liftC K ca C rv (exec Φ F S)) :=
  PS.imp (PS.any hS) fun D σ H ⟨e, p, d, kvs, R, ok, q⟩ => ⟨H, e, let ⟨_, r⟩ := R.rel; rel_base r fun a => okS_own ok, by
    cases q2 : exec Φ F S e with
    | nx e' =>
      rw [q2] at q
      exact fun σ' H' R' => q σ' H' kvs (.of R'.fr) ⟨⟨_, R'⟩, R.pw.same R'.fr, by rw [h0 e e' q2]; exact R.slf⟩
    | ret x =>
      rw [q2] at q
      exact fun v H' s dn => q v H' kvs (.of s) (R.pw.same s) dn
    | bk e' => exact absurd q2 (hbc e e').1
    | ct e' => exact absurd q2 (hbc e e').2
    | ex c e' => rw [q2] at q; exact q.elim
    | stuck => rw [q2] at q; exact q.elim⟩
/-- a method that may be called -/
structure MetX (X : Cx) (K : PySem.W.Frag) (C : Addr) (rv : Int → D) (Φ : FT) (i : Nat) (m : Str) : Prop where
  ex : ∃ (k : Nat) (f : Addr) (fd : FuncData) (ps : List Str), FnOk X.prog X.w X.K X.mg X.base L2.CX0 k f fd ps (spM K C rv Φ i) ∧ Room k X.A ∧ Binds X.K fd ps [] ∧ Meth X.K C m f ∧ Cls X.K C
theorem pe_mx {i : Nat} {m : Str} {o a : Expr} {es : List Expr} {ta : L2.TE} {t : L2.TA} {apos pos : Pos} {pl : Sem Bool} (M : MetX X K C rv Φ i m) (h0 : PE X o ta) (ha : PA X (a :: es) t)
    (hst : starEach (a :: es) X.env = (false, eval a X.env) :: starEach es X.env := by rfl) (hpl : (backTo pos (starEach es X.env)).any (·.1) = false := by rfl)
    (ht : eval (.Call (.Attribute o m apos) (a :: es) [] pos) X.env = (do
      let ov ← eval o X.env
      standAt apos.atName
      let (f, first) ← holding [ov] (getMethod ov m pl)
      callWith pos f first (backTo pos (starEach (a :: es) X.env)) (backToKw pos (keywordEach [] X.env))) := by rfl) :
    PE X (.Call (.Attribute o m apos) (a :: es) [] pos) (tMeth C m (spM K C rv Φ i) [] E0 ta t) := by
  obtain ⟨k, f, fd, ps, ok, hr, hb, hm, hc⟩ := M.ex
  exact pe_meth h0 hc hm ok hr hb .nil pass0 ha hst hpl ht
theorem bind_ok {α β : Type} {r : Res α} {f : α → Res β} {x : β} (h : r.bind f = .ok x) : ∃ a, r = .ok a ∧ f a = .ok x := by
  cases r with
  | ok a => exact ⟨a, rfl, h⟩
  | ex c => cases h
  | stuck => cases h
theorem of_ok' {α : Type} {o : Option α} {x : α} (h : Res.of o = .ok x) : o = some x := by
  cases o with
  | none => cases h
  | some a => cases h; rfl
theorem var_ok {i : Nat} {e : Sl} {x : D} (h : ev Φ (.var i) e = .ok x) : e[i]? = some (.d x) := by
  simp only [ev] at h
  cases q : e[i]? with
  | none => rw [q] at h; cases h
  | some s =>
    rw [q] at h
    cases s with
    | d y => cases h; rfl
    | _ => cases h
theorem slf_ok {e : Sl} {p : Nat} {x : D} (h0 : e[0]? = some (.ob p)) (h : ev Φ (.slf 0) e = .ok x) : x = .int (p : Nat) := by
  simp only [ev, h0] at h
  cases h; rfl
theorem evs1 {A : Exp} {e : Sl} {xs : List D} (h : evs Φ [A] e = .ok xs) : ∃ x, ev Φ A e = .ok x ∧ xs = [x] := by
  simp only [evs] at h
  obtain ⟨x, h1, h2⟩ := bind_ok h
  simp only [Res.bind_ok, Res.ok.injEq] at h2
  exact ⟨x, h1, h2.symm⟩
theorem evs2 {A B : Exp} {e : Sl} {xs : List D} (h : evs Φ [A, B] e = .ok xs) : ∃ x y, ev Φ A e = .ok x ∧ ev Φ B e = .ok y ∧ xs = [x, y] := by
  rw [evs] at h
  obtain ⟨x, h1, h2⟩ := bind_ok h
  obtain ⟨ys, h3, h4⟩ := bind_ok h2
  obtain ⟨y, h5, rfl⟩ := evs1 h3
  cases h4
  exact ⟨x, y, h1, h5, rfl⟩
theorem evs3 {A B E : Exp} {e : Sl} {xs : List D} (h : evs Φ [A, B, E] e = .ok xs) : ∃ x y z, ev Φ A e = .ok x ∧ ev Φ B e = .ok y ∧ ev Φ E e = .ok z ∧ xs = [x, y, z] := by
  rw [evs] at h
  obtain ⟨x, h1, h2⟩ := bind_ok h
  obtain ⟨ys, h3, h4⟩ := bind_ok h2
  obtain ⟨y, z, h5, h6, rfl⟩ := evs2 h3
  cases h4
  exact ⟨x, y, z, h1, h5, h6, rfl⟩
section
variable {e : Sl} {σ : L2.St} {H : Hp} {p d : Addr} {kvs : List (Key × V)}
theorem RO.s0 (R : RO K ca C rv e σ H p d kvs) : σ[0]? = some (some (V.ref p)) := by
  obtain ⟨h0, r⟩ := R.rel
  obtain ⟨o, h1, h2⟩ := r.at R.slf
  have h2 : o = some (V.ref p) := h2
  rw [h1, h2]
theorem RO.val (R : RO K ca C rv e σ H p d kvs) {i : Nat} {x : D} (h : e[i]? = some (.d x)) : ∃ v, σ[i]? = some (some v) ∧ Den K noAv H v x := by
  obtain ⟨h0, r⟩ := R.rel
  obtain ⟨o, h1, v, rfl, dn⟩ := r.at h
  exact ⟨v, h1, dn.imp (fun _ _ => ⟨id, id⟩) fun a _ z => z.elim⟩
theorem ok_d (h : okS e = true) {i : Nat} {x : D} (hi : e[i]? = some (.d x)) : noDct x = true := by
  rcases okS_get h hi with z | ⟨q, z⟩ | ⟨y, z, n⟩
  · cases z
  · cases z
  · cases z; exact n
theorem read_m (R : RO K ca C rv e σ H p d kvs) (ok : okS e = true) {i : Nat} {m : Str} (hm : ¬ ("rows" : Str) = m) {vs' : List V} {ds : List D} {x : D} (hd : Dens K noAv H vs' ds) (hn : noDcts ds = true) (hx : Φ i (.int (p : Nat) :: ds) = .ok x) {E : XK} {Q : VK}
    {t : L2.TA} (ht : ∀ Q', Q' vs' H → t σ H Q') (q : ∀ v H' kvs', SB d H H' → RO K ca C rv e σ H' p d kvs' → Den K noAv H' v x → Q v H') : tMeth C m (spM K C rv Φ i) [] E (tVar 0) t σ H Q := by
  obtain ⟨dx, h1⟩ := R.pw.ob
  refine ⟨_, R.s0, p, dx, _, rfl, h1, ?_, ht _ ?_⟩
  · rw [List.lookup_cons]
    rw [show (m == ("rows" : Str)) = false from by
      cases q : (m == ("rows" : Str)) with
      | false => rfl
      | true => exact absurd (by simpa using q : m = "rows").symm hm]
    rfl
  · rw [List.append_nil]
    exact ⟨p, d, kvs, vs', ds, x, rfl, R.pw, hd, hn, hx, fun v H' kvs' s w dn => q v H' kvs' s (R.move ok s w) dn⟩
end
/-- row, lead = self.row(m) -/
theorem so_asgm {tg : Expr} {T : Tgt} {i j : Nat} {m x0 xm : Str} {p0 pm apos cpos pos : Pos} {pl : Sem Bool} (M : MetX X K C rv Φ i m) (hm : ¬ ("rows" : Str) = m) (he0 : PE X (.Name x0 p0) (tVar 0)) (he1 : PE X (.Name xm pm) (tVar j)) (hg : PG X tg (liftG K T)) (hT : 0 ∉ T.ix)
    (hs : swapsWithSole [tg] (.Call (.Attribute (.Name x0 p0) m apos) [.Name xm pm] [] cpos) pos.line X.env = pure false := by rfl) (hw : swappedStores [tg] (.Call (.Attribute (.Name x0 p0) m apos) [.Name xm pm] [] cpos) X.env = pure none := by rfl) (h1 : (assignEach [tg] X.env).map (·.2) = [assign tg X.env] := by rfl)
    (hst : starEach [.Name xm pm] X.env = [(false, eval (.Name xm pm) X.env)] := by rfl)
    (ht : eval (.Call (.Attribute (.Name x0 p0) m apos) [.Name xm pm] [] cpos) X.env = (do
      let ov ← eval (.Name x0 p0) X.env
      standAt apos.atName
      let (f, first) ← holding [ov] (getMethod ov m pl)
      callWith cpos f first (backTo cpos (starEach [.Name xm pm] X.env)) (backToKw cpos (keywordEach [] X.env))) := by rfl) :
    PS X (.Assign [tg] (.Call (.Attribute (.Name x0 p0) m apos) [.Name xm pm] [] cpos) pos) (liftC K ca C rv (exec Φ F (.asg T (.call i [.slf 0, .var j])))) := by
  refine PS.imp (ps_asg (pe_mx (pl := pl) M he0 (pa_cons he1 pa_nil hst) hst rfl ht) hg hs hw h1) fun D σ H ⟨e, p, d, kvs, R, ok, q⟩ => ?_
  simp only [exec, ev] at q
  cases q1 : evs Φ [.slf 0, .var j] e with
  | ex c => rw [q1] at q; exact q.elim
  | stuck => rw [q1] at q; exact q.elim
  | ok xs =>
    obtain ⟨a, b, ha, hb, rfl⟩ := evs2 q1
    rw [q1] at q
    obtain rfl := slf_ok R.slf ha
    have hj := var_ok hb
    simp only [Res.bind_ok] at q
    cases q2 : Φ i [.int (p : Nat), b] with
    | ex c => rw [q2] at q; exact q.elim
    | stuck => rw [q2] at q; exact q.elim
    | ok x =>
      rw [q2] at q
      simp only [Out.ofR_ok] at q
      cases q3 : bindT T x e with
      | none => rw [q3] at q; exact q.elim
      | some e1 =>
        rw [q3] at q
        obtain ⟨v, hv, dv⟩ := R.val hj
        refine read_m R ok hm (vs' := [v]) (ds := [b]) (.cons dv .nil) (by simp only [noDcts, ok_d ok hj, Bool.and_self]) q2 (fun Q' h => ⟨v, hv, h⟩) fun u H' kvs' s R' du => ?_
        obtain ⟨h0, r⟩ := R'.rel
        refine ⟨PO K ca h0, e, x, e1, rfl, r, avo_no (fun a => okS_own ok) du, q3, fun σ1 r1 _ => q σ1 H' kvs' s ⟨⟨_, r1⟩, R'.pw, ?_⟩⟩
        rw [(bindT_out q3 0).1 hT]
        exact R'.slf
/-- a read of a row: return row[lead + (self.number(exponent, period) - lead) % period] -/
theorem so_retm {i jr jl je jp : Nat} {m x0 xr xl xe xp : Str} {p0 pr pl1 pl2 pe1 pp1 pp2 apos cpos bp1 bp2 bp3 sp pos : Pos} {pl : Sem Bool} (hu : X.A.units + 1 < cLine) (hK : X.K = K) (M : MetX X K C rv Φ i m) (hm : ¬ ("rows" : Str) = m) (he0 : PE X (.Name x0 p0) (tVar 0)) (her : PE X (.Name xr pr) (tVar jr)) (hel : PE X (.Name xl pl1) (tVar jl)) (hel2 : PE X (.Name xl pl2) (tVar jl)) (hee : PE X (.Name xe pe1) (tVar je)) (hep : PE X (.Name xp pp1) (tVar jp)) (hep2 : PE X (.Name xp pp2) (tVar jp))
    (hst : starEach [.Name xe pe1, .Name xp pp1] X.env = (false, eval (.Name xe pe1) X.env) :: starEach [.Name xp pp1] X.env := by rfl) (hst2 : starEach [.Name xp pp1] X.env = [(false, eval (.Name xp pp1) X.env)] := by rfl) (hpl : (backTo cpos (starEach [.Name xp pp1] X.env)).any (·.1) = false := by rfl)
    (ht : eval (.Call (.Attribute (.Name x0 p0) m apos) [.Name xe pe1, .Name xp pp1] [] cpos) X.env = (do
      let ov ← eval (.Name x0 p0) X.env
      standAt apos.atName
      let (f, first) ← holding [ov] (getMethod ov m pl)
      callWith cpos f first (backTo cpos (starEach [.Name xe pe1, .Name xp pp1] X.env)) (backToKw cpos (keywordEach [] X.env))) := by rfl)
    (hp : PlainIx (.BinOp (.Name xl pl1) .Add (.BinOp (.BinOp (.Call (.Attribute (.Name x0 p0) m apos) [.Name xe pe1, .Name xp pp1] [] cpos) .Sub (.Name xl pl2) bp1) .Mod (.Name xp pp2) bp2) bp3) := by exact fun _ _ => rfl) :
    PS X (.Return (some (.Subscript (.Name xr pr) (.BinOp (.Name xl pl1) .Add (.BinOp (.BinOp (.Call (.Attribute (.Name x0 p0) m apos) [.Name xe pe1, .Name xp pp1] [] cpos) .Sub (.Name xl pl2) bp1) .Mod (.Name xp pp2) bp2) bp3) sp)) pos)
      (liftC K ca C rv (exec Φ F (.ret (.idx (.var jr) (.bin .add (.var jl) (.bin .mod (.bin .sub (.call i [.slf 0, .var je, .var jp]) (.var jl)) (.var jp))))))) := by
  have o := ixD (X := X) hu
  have os := op_binD (X := X) .sub
  have om := op_binD (X := X) .mod
  have oa := op_binD (X := X) .add
  rw [hK] at o os om oa
  refine PS.imp (ps_ret (pe_ix o her (pe_op oa hel (pe_op om (pe_op os (pe_mx (pl := pl) M he0 (pa_cons hee (pa_cons hep pa_nil hst2) hst) hst hpl ht) hel2) hep2)) hp)) fun D σ H ⟨e, p, d, kvs, R, ok, q⟩ => ?_
  simp only [exec] at q
  cases q1 : ev Φ (.idx (.var jr) (.bin .add (.var jl) (.bin .mod (.bin .sub (.call i [.slf 0, .var je, .var jp]) (.var jl)) (.var jp)))) e with
  | ex c => rw [q1] at q; exact q.elim
  | stuck => rw [q1] at q; exact q.elim
  | ok r =>
    rw [q1] at q
    simp only [Out.ofR_ok] at q
    rw [ev] at q1
    obtain ⟨dr, r1, q1⟩ := bind_ok q1
    obtain ⟨di, r2, r3⟩ := bind_ok q1
    rw [ev] at r2
    obtain ⟨dl, l1, r2⟩ := bind_ok r2
    obtain ⟨dm, m1, m2⟩ := bind_ok r2
    rw [ev] at m1
    obtain ⟨dsb, s1, m1⟩ := bind_ok m1
    obtain ⟨dp, p1, m3⟩ := bind_ok m1
    rw [ev] at s1
    obtain ⟨dc, c1, s1⟩ := bind_ok s1
    obtain ⟨dl2, l2, s2⟩ := bind_ok s1
    rw [l1] at l2
    cases l2
    rw [ev] at c1
    obtain ⟨xs, c2, c3⟩ := bind_ok c1
    obtain ⟨a, b, b2, ha, hb, hb2, rfl⟩ := evs3 c2
    obtain rfl := slf_ok R.slf ha
    rw [p1] at hb2
    cases hb2
    have jr1 := var_ok r1
    have jl1 := var_ok l1
    have je1 := var_ok hb
    have jp1 := var_ok p1
    obtain ⟨vr, hr1, hr2⟩ := R.val jr1
    obtain ⟨vl, hl1, hl2⟩ := R.val jl1
    obtain ⟨ve, hv1, hv2⟩ := R.val je1
    obtain ⟨vp, hp1, hp2⟩ := R.val jp1
    refine ⟨vr, hr1, vl, hl1, ?_⟩
    refine read_m R ok hm (vs' := [ve, vp]) (ds := [b, dp]) (.cons hv2 (.cons hp2 .nil)) (by simp only [noDcts, ok_d ok je1, ok_d ok jp1, Bool.and_self]) c3 (fun Q' h => ⟨ve, hv1, vp, hp1, h⟩) fun u H' kvs' s R' du => ?_
    obtain ⟨vl', hl1', hl2'⟩ := R'.val jl1
    obtain ⟨vp', hp1', hp2'⟩ := R'.val jp1
    refine ⟨vl', hl1', noAv, noAv, noAv, dc, dl, dsb, du.two, hl2'.two, of_ok' s2, fun z1 H1 sm1 f1 => ?_⟩
    refine ⟨vp', hp1', noAv, noAv, noAv, dsb, dp, dm, (f1.two fun a z => z.elim), (hp2'.same sm1).two, of_ok' m3, fun z2 H2 sm2 f2 => ?_⟩
    have hlH : Den K noAv H' vl dl := hl2.sb R.pw.dc s (ok_d ok jl1)
    refine ⟨noAv, noAv, noAv, dl, dm, di, (hlH.same (sm1.trans sm2)).two, (f2.two fun a z => z.elim), of_ok' m2, fun z3 H3 sm3 f3 => ?_⟩
    have hrH : Den K noAv H' vr dr := hr2.sb R.pw.dc s (ok_d ok jr1)
    refine ⟨noAv, noAv, noAv, noAv, dr, di, r, (hrH.same ((sm1.trans sm2).trans sm3)).two, (f3.two fun a z => z.elim), of_ok' r3, fun z4 d4 => ?_⟩
    have sm := (sm1.trans sm2).trans sm3
    exact q z4 H3 kvs' (s.trans (.of sm)) (R'.pw.same sm) d4
/-- total += sign * self.power(exponent, m) -/
theorem so_augm {i jt js je jm : Nat} {m x0 xt xs xe xm : Str} {p0 pt ps1 pe1 pm1 apos cpos bp pos : Pos} {pl : Sem Bool} (hK : X.K = K) (hNd : X.N.Nodup) (hi : X.N[jt]? = some xt) (hx : Loc X.env.scope xt) (M : MetX X K C rv Φ i m) (hm : ¬ ("rows" : Str) = m) (hj : jt ≠ 0) (he0 : PE X (.Name x0 p0) (tVar 0)) (hes : PE X (.Name xs ps1) (tVar js)) (hee : PE X (.Name xe pe1) (tVar je)) (hem : PE X (.Name xm pm1) (tVar jm))
    (hst : starEach [.Name xe pe1, .Name xm pm1] X.env = (false, eval (.Name xe pe1) X.env) :: starEach [.Name xm pm1] X.env := by rfl) (hst2 : starEach [.Name xm pm1] X.env = [(false, eval (.Name xm pm1) X.env)] := by rfl) (hpl : (backTo cpos (starEach [.Name xm pm1] X.env)).any (·.1) = false := by rfl)
    (ht : eval (.Call (.Attribute (.Name x0 p0) m apos) [.Name xe pe1, .Name xm pm1] [] cpos) X.env = (do
      let ov ← eval (.Name x0 p0) X.env
      standAt apos.atName
      let (f, first) ← holding [ov] (getMethod ov m pl)
      callWith cpos f first (backTo cpos (starEach [.Name xe pe1, .Name xm pm1] X.env)) (backToKw cpos (keywordEach [] X.env))) := by rfl)
    (hf : X.fn xt = true ∨ X.env.scope.names.lookup xt = some .local := by first | exact .inl rfl | exact .inr rfl) :
    PS X (.AugAssign (.Name xt pt) .Add (.BinOp (.Name xs ps1) .Mult (.Call (.Attribute (.Name x0 p0) m apos) [.Name xe pe1, .Name xm pm1] [] cpos) bp) pos)
      (liftC K ca C rv (exec Φ F (.aug jt .add (.bin .mul (.var js) (.call i [.slf 0, .var je, .var jm]))))) := by
  have om := op_binD (X := X) .mul
  have oa : PIp X .Add (RB X.K (augD .add)) := op_augD .add nofun
  rw [hK] at om oa
  refine PS.imp (ps_aug hNd hi hx (pe_op om hes (pe_mx (pl := pl) M he0 (pa_cons hee (pa_cons hem pa_nil hst2) hst) hst hpl ht)) oa hf) fun D σ H ⟨e, p, d, kvs, R, ok, q⟩ => ?_
  simp only [exec] at q
  cases qt : e[jt]? with
  | none => rw [qt] at q; exact q.elim
  | some st =>
    rw [qt] at q
    cases st with
    | d dt =>
      simp only [] at q
      cases q1 : ev Φ (.bin .mul (.var js) (.call i [.slf 0, .var je, .var jm])) e with
      | ex c => rw [q1] at q; exact q.elim
      | stuck => rw [q1] at q; exact q.elim
      | ok y =>
        rw [q1] at q
        simp only [Out.ofR_ok] at q
        cases q2 : augD .add dt y with
        | none => rw [q2] at q; exact q.elim
        | some z =>
          rw [q2] at q
          rw [ev] at q1
          obtain ⟨dsg, s1, q1⟩ := bind_ok q1
          obtain ⟨dc, c1, m3⟩ := bind_ok q1
          rw [ev] at c1
          obtain ⟨xs, c2, c3⟩ := bind_ok c1
          obtain ⟨a, b, b2, ha, hb, hb2, rfl⟩ := evs3 c2
          obtain rfl := slf_ok R.slf ha
          have js1 := var_ok s1
          have je1 := var_ok hb
          have jm1 := var_ok hb2
          obtain ⟨vt, ht1, ht2⟩ := R.val qt
          obtain ⟨vs, hs1, hs2⟩ := R.val js1
          obtain ⟨ve, hv1, hv2⟩ := R.val je1
          obtain ⟨vm, hm1, hm2⟩ := R.val jm1
          refine ⟨vt, ht1, vs, hs1, ?_⟩
          refine read_m R ok hm (vs' := [ve, vm]) (ds := [b, b2]) (.cons hv2 (.cons hm2 .nil)) (by simp only [noDcts, ok_d ok je1, ok_d ok jm1, Bool.and_self]) c3 (fun Q' h => ⟨ve, hv1, vm, hm1, h⟩) fun u H' kvs' s R' du => ?_
          have hsH : Den K noAv H' vs dsg := hs2.sb R.pw.dc s (ok_d ok js1)
          have htH : Den K noAv H' vt dt := ht2.sb R.pw.dc s (ok_d ok qt)
          refine ⟨noAv, noAv, noAv, dsg, dc, y, hsH.two, du.two, of_ok' m3, fun z1 H1 sm1 f1 => ?_⟩
          refine ⟨noAv, noAv, noAv, dt, y, z, (htH.same sm1).two, (f1.two fun a z => z.elim), q2, fun z2 H2 sm2 f2 => ?_⟩
          have sm := sm1.trans sm2
          have R2 : RO K ca C rv e σ H2 p d kvs' := ⟨let ⟨h0, r⟩ := R'.rel; ⟨h0, r.same sm⟩, R'.pw.same sm, R'.slf⟩
          obtain ⟨h0, r2⟩ := R2.rel
          have dz : Den K noAv H2 z2 z := (f2.two (c0 := noAv) fun a z => z.elim).one
          exact q _ H2 kvs' (s.trans (.of sm)) ⟨⟨h0, r2.setD (avo_no (fun a => okS_own ok) dz)⟩, R2.pw, by rw [List.getElem?_set_ne hj]; exact R2.slf⟩
    | _ => exact q.elim
/-! loops -/
theorem so_end : PSs X [] (liftW K ca C rv (execs Φ F [.chk])) := PSs.imp pss_nil fun D σ H ⟨e, p, d, kvs, R, h⟩ => by
  simp only [execs, exec] at h
  by_cases ok : okS e = true
  · rw [if_pos ok] at h; exact h σ H kvs (fun _ _ _ q => q) R
  · rw [if_neg ok] at h; exact h.elim
theorem PostW.turn {D : Ends} {M : L2.St → Hp → Prop} {G : Sl → Out} {H : Hp} {p d : Addr} {o : Out} (hN : ∀ e' σ' H' kvs', (o = .nx e' ∨ o = .ct e') → SB d H H' → RO K ca C rv e' σ' H' p d kvs' → PostW K ca C rv D H p d (G e') → M σ' H') (h : PostW K ca C rv D H p d (o.turn G)) : PostW K ca C rv { D with nx := M, ct := M, bk := D.nx } H p d o := by
  cases o with
  | nx e' => exact fun σ' H' k s R => hN e' σ' H' k (.inl rfl) s R h
  | ct e' => exact fun σ' H' k s R => hN e' σ' H' k (.inr rfl) s R h
  | bk _ => exact h
  | ret _ => exact h
  | ex _ _ => exact h
  | stuck => exact h
theorem chk_end {S : Stm} (hS : ∀ e e', exec Φ F S e ≠ .ct e') {e e' : Sl} (h : execs Φ F [.chk, S, .chk] e = .nx e' ∨ execs Φ F [.chk, S, .chk] e = .ct e') : okS e' = true := by
  simp only [execs, exec] at h
  by_cases ok : okS e = true
  · rw [if_pos ok] at h
    simp only [Out.seq_nx] at h
    cases q : exec Φ F S e with
    | nx e2 =>
      rw [q] at h
      simp only [Out.seq_nx] at h
      by_cases ok2 : okS e2 = true
      · rw [if_pos ok2] at h
        simp only [Out.seq_nx] at h
        rcases h with h | h
        · cases h; exact ok2
        · cases h
      · rw [if_neg ok2] at h
        rcases h with h | h <;> cases h
    | ct e2 => exact absurd q (hS e e2)
    | _ => rw [q] at h; rcases h with h | h <;> cases h
  · rw [if_neg ok] at h
    rcases h with h | h <;> cases h
theorem so_for {tg : Expr} {T : Tgt} {j : Nat} {xn : Str} {pn pos : Pos} {body : List Stmt} {BD : List Stm} (hp : PassesOwn (model X.prog X.w) X.A X.env X.xe) (hc : X.calm = true) (hK : X.K = K) (he : PE X (.Name xn pn) (tVar j)) (hg : PG X tg (liftG K T)) (hT : 0 ∉ T.ix) (hb : PSs X body (liftW K ca C rv (execs Φ F BD)))
    (hok : ∀ e e', (execs Φ F BD e = .nx e' ∨ execs Φ F BD e = .ct e') → okS e' = true) (hs : ∀ x, foldedSetIterable (.Name xn pn) X.env x = pure x := by intro _; rfl) :
    PS X (.For tg (.Name xn pn) body [] pos) (liftC K ca C rv (exec Φ F (.for T .tup [.var j] BD))) := by
  refine PS.imp (ps_for hp hc (pi_tup he) hg hb hs) fun D σ H ⟨e, p, d, kvs, R, ok, q⟩ => ?_
  simp only [exec] at q
  cases q1 : evs Φ [.var j] e with
  | ex c => rw [q1] at q; exact q.elim
  | stuck => rw [q1] at q; exact q.elim
  | ok xs =>
    obtain ⟨x, hx, rfl⟩ := evs1 q1
    rw [q1] at q
    simp only [Out.ofR_ok] at q
    have hj := var_ok hx
    cases x with
    | tuple its =>
      simp only [srcD] at q
      obtain ⟨v, hv, dv⟩ := R.val hj
      cases dv with
      | tuple sq dn =>
        rename_i a us
        have sq : SqT K H a us := .inl (.inl sq)
        have hnd : noDcts its = true := by have := ok_d ok hj; simpa [noDct] using this
        have hlen := dn.length
        refine ⟨_, hv, a, rfl, ⟨us, by rw [hK]; exact sq⟩, fun i m σ2 H2 => m = its.length - i ∧ i ≤ its.length ∧ ∃ e2 k2, RO K ca C rv e2 σ2 H2 p d k2 ∧ okS e2 = true ∧ SqT K H2 a us ∧ Dens K noAv H2 us its ∧ PostW K ca C rv D H2 p d (forL (fun e' => execs Φ F BD e') T (its.drop i) e2), ⟨its.length, by omega, Nat.zero_le _, e, kvs, R, ok, sq, dn, by simpa using q⟩, ?_⟩
        rintro i m σ2 H2 ⟨rfl, hi, e2, k2, R2, ok2, sq2, dn2, p2⟩
        by_cases hlt : i < its.length
        · refine .inr ⟨⟨us, us[i], by rw [hK]; exact sq2, List.getElem?_eq_getElem (by omega)⟩, fun σ' H' => ∃ e3 k3, RO K ca C rv e3 σ' H' p d k3 ∧ okS e3 = true ∧ SqT K H' a us ∧ Dens K noAv H' us its ∧ PostW K ca C rv D H' p d (forL (fun e' => execs Φ F BD e') T (its.drop (i + 1)) e3), fun σ' H' z => ⟨its.length - (i + 1), by omega, rfl, by omega, z⟩, fun y H' yy => ?_⟩
          rw [List.drop_eq_getElem_cons hlt] at p2
          simp only [forL] at p2
          obtain ⟨rfl, yy⟩ := yy
          have hy := yy us (by rw [hK]; exact sq2)
          cases qb : bindT T its[i] e2 with
          | none => rw [qb] at p2; exact p2.elim
          | some e3 =>
            rw [qb] at p2
            obtain ⟨d', h1, h2⟩ := dn2.get hy
            rw [List.getElem?_eq_getElem hlt] at h1
            cases h1
            obtain ⟨h0, r2⟩ := R2.rel
            refine ⟨PO K ca h0, e2, its[i], e3, rfl, r2, avo_no (fun a => okS_own ok2) h2, qb, fun σ3 r3 _ => ⟨e3, p, d, k2, ⟨⟨_, r3⟩, R2.pw, by rw [(bindT_out qb 0).1 hT]; exact R2.slf⟩, PostW.turn (fun e' σ' H3 k3 ho s3 R3 z => ⟨e', k3, R3, hok _ _ ho, ?_, dn2.sb R2.pw.dc s3 hnd, PostW.back s3 z⟩) p2⟩⟩
            exact sq2.imp (rd_sb R2.pw.dc nk_tup s3) id
        · refine .inl ⟨⟨us, by rw [hK]; exact sq2, by omega⟩, ?_⟩
          rw [List.drop_of_length_le (by omega)] at p2
          simp only [forL] at p2
          exact p2 σ2 H2 k2 (fun _ _ _ q => q) R2
    | _ => exact q.elim
end
/-! ### the methods as defs -/
section
variable {pr : Program} {w : World} {K : PySem.W.Frag} {mg : Str → Option Value} {base : Heap} {ca : Nat → Addr} {C : Addr} {rv : Int → D}
structure GoodM (pr : Program) (w : World) (K : PySem.W.Frag) (mg : Str → Option Value) (base : Heap) (C : Addr) (rv : Int → D) (T : List Fdef) (F : Nat) (m : Str) (i n : Nat) : Prop where
  ex : ∃ f fd ps, FnOk pr w K mg base L2.CX0 n f fd ps (spM K C rv (phi T F n) i) ∧ Binds K fd ps [] ∧ Meth K C m f
theorem GoodM.met {T : List Fdef} {F : Nat} {m : Str} {i n : Nat} {X : Cx} (g : GoodM X.prog X.w X.K X.mg X.base C rv T F m i n) (hc : Cls X.K C) (hr : Room n X.A) : MetX X X.K C rv (phi T F n) i m := by
  obtain ⟨f, fd, ps, ok, h1, h2⟩ := g.ex
  exact ⟨n, f, fd, ps, ok, hr, h1, h2, hc⟩
/-- what the top has written of a method -/
structure TxtM (K : PySem.W.Frag) (C : Addr) (m q : Str) (st : Stmt) (ps : List Str) : Prop where
  ex : ∃ f fd, Fun K m q st f fd ∧ Binds K fd ps [] ∧ Meth K C m f
theorem goodM_zero {T : List Fdef} {F : Nat} {m q : Str} {i : Nat} {st : Stmt} {ps : List Str} (t : TxtM K C m q st ps) : GoodM pr w K mg base C rv T F m i 0 := by
  obtain ⟨f, fd, fn, h1, h2⟩ := t.ex
  refine ⟨f, fd, ps, ⟨fun vs H Q E h => ?_, fun A outer s H args us vs Q E hr he hb hv h => ?_⟩, h1, h2⟩ <;> (obtain ⟨p, d, kvs, vs', ds, x, _, _, _, _, h, _⟩ := h; cases h)
theorem rel_startO {N : List Str} {p : Addr} {vs : List V} {ds : List D} {H : Hp} (hd : Dens K noAv H vs ds) (hl : ds.length + 1 ≤ N.length) : Rel (PO K ca H) (.ob p :: (ds.map .d ++ List.replicate (N.length - (ds.length + 1)) .un)) (L2.start N (.ref p :: vs)) H := by
  have hlen := hd.length
  have get0 : (L2.start N (V.ref p :: vs))[0]? = some (some (V.ref p)) := start_get rfl
  have noOwn : ∀ (i : Nat) (s : Slot), (Slot.ob p :: (ds.map Slot.d ++ List.replicate (N.length - (ds.length + 1)) Slot.un))[i]? = some s → isOwn s = false := fun i s h => by
    cases i with
    | zero => simp only [List.getElem?_cons_zero, Option.some.injEq] at h; subst h; rfl
    | succ i =>
      rw [List.getElem?_cons_succ] at h
      by_cases hi : i < ds.length
      · rw [List.getElem?_append_left (by rw [List.length_map]; exact hi), List.getElem?_map, List.getElem?_eq_getElem hi] at h
        simp only [Option.map_some, Option.some.injEq] at h
        subst h; rfl
      · rw [List.getElem?_append_right (by rw [List.length_map]; omega), List.getElem?_replicate] at h
        split at h
        · simp only [Option.some.injEq] at h; subst h; rfl
        · cases h
  have no : ∀ a, ¬ Owns (Slot.ob p :: (ds.map Slot.d ++ List.replicate (N.length - (ds.length + 1)) Slot.un)) (L2.start N (V.ref p :: vs)) a := fun a ⟨i, s, h1, h2, _⟩ => by
    rw [noOwn i s h1] at h2; cases h2
  refine ⟨?_, fun i s o h1 h2 => ?_, fun i j s t a h1 h2 => ?_, Same.refl _, fun a h => absurd h (no a)⟩
  · unfold L2.start
    simp only [List.length_append, List.length_map, List.length_replicate, List.length_cons]
    omega
  · cases i with
    | zero =>
      simp only [List.getElem?_cons_zero, Option.some.injEq] at h1
      subst h1
      rw [get0] at h2
      cases h2
      rfl
    | succ i =>
      rw [List.getElem?_cons_succ] at h1
      by_cases hi : i < ds.length
      · rw [List.getElem?_append_left (by rw [List.length_map]; exact hi), List.getElem?_map, List.getElem?_eq_getElem hi] at h1
        simp only [Option.map_some, Option.some.injEq] at h1
        subst h1
        obtain ⟨v, hv, dv⟩ := hd.getD (List.getElem?_eq_getElem hi)
        rw [start_get (show (V.ref p :: vs)[i + 1]? = some v by rw [List.getElem?_cons_succ]; exact hv)] at h2
        simp only [Option.some.injEq] at h2
        subst h2
        exact ⟨v, rfl, dv.imp (fun _ _ => ⟨id, id⟩) fun a _ z => z.elim id fun z => absurd z (no a)⟩
      · rw [List.getElem?_append_right (by rw [List.length_map]; omega), List.getElem?_replicate] at h1
        split at h1
        · simp only [Option.some.injEq] at h1; subst h1; trivial
        · cases h1
  · rw [noOwn i s h1] at h2; cases h2
/-- a method's walk -/
def WalkO (pr : Program) (w : World) (K : PySem.W.Frag) (mg : Str → Option Value) (base : Heap) (ca : Nat → Addr) (C : Addr) (rv : Int → D) (N : List Str) (q : Str) (st : Stmt) (n : Nat) (f : Sl → Out) : Prop :=
  ∀ (A : Around) (s0 : Shared) (H0 : Hp) (a fA : Addr) (cdv : Value) (outer : List Env) (xe : Value → Shared → Prop), Room n A → (∀ h0, Ctx (cxG pr w K mg base N q st A s0 H0 a fA cdv outer xe) (PO K ca h0) N (defScope st)) → PSs (cxG pr w K mg base N q st A s0 H0 a fA cdv outer xe) (defBody st) (liftW K ca C rv f)
theorem goodM_succ {T : List Fdef} {F : Nat} {m q : Str} {i n : Nat} {st : Stmt} {N ps : List Str} {np ns : Nat} {body : List Stm} (t : TxtM K C m q st ps) (S : FnScope N ps (defScope st)) (hT : T[i]? = some ⟨np, ns, .obj 0 :: body⟩) (hnp : np = ps.length) (hns : ns = N.length) (hle : ps.length ≤ N.length)
    (hb : WalkO pr w K mg base ca C rv N q st n (execs (phi T F n) F body)) : GoodM pr w K mg base C rv T F m i (n + 1) := by
  obtain ⟨f, fd, F0, h1, h2⟩ := t.ex
  refine ⟨f, fd, ps, F0.ok S (fun vs H Q E h => ?_) (fun cdv A outer s H vs Q E hr h => ?_), h1, h2⟩
  · obtain ⟨p, d, kvs, vs', ds, x, rfl, _, hd, _, h, _⟩ := h
    simp only [phi, hT] at h
    unfold Fdef.run at h
    by_cases hl : (PyData.int (p : Nat) :: ds).length = np
    · rw [List.length_cons, hd.length, ← hnp, ← hl]; rfl
    · rw [if_neg hl] at h; cases h
  · obtain ⟨p, d, kvs, vs', ds, x, rfl, pw, hd, hn, h, qq⟩ := h
    refine ⟨_, hb (A.deeper (envOfC q (defScope st) s.heap.objs.size f cdv)) s H _ f cdv outer (fun _ _ => False) hr (fun h0 => ⟨rfl, rfl, S.nd, rfl, rfl, ?_, takes0, PassesOwn.never⟩), ?_⟩
    · have := hr.un
      show (A.deeper (envOfC q (defScope st) s.heap.objs.size f cdv)).units + 190 < cLine
      omega
    · simp only [phi, hT] at h
      unfold Fdef.run at h
      by_cases hl : (PyData.int (p : Nat) :: ds).length = np
      · rw [if_pos hl] at h
        have hl2 : ds.length + 1 ≤ N.length := by rw [← hl] at hnp; rw [List.length_cons] at hnp; omega
        have es : ((PyData.int (p : Nat) :: ds).map Slot.d ++ List.replicate (ns - np) Slot.un) = .d (.int (p : Nat)) :: (ds.map .d ++ List.replicate (N.length - (ds.length + 1)) .un) := by
          rw [hns, ← hl]; rfl
        have eo : exec (phi T F n) F (.obj 0) (.d (.int (p : Nat)) :: (ds.map .d ++ List.replicate (N.length - (ds.length + 1)) .un)) = .nx (.ob p :: (ds.map .d ++ List.replicate (N.length - (ds.length + 1)) .un)) := by
          simp only [exec, List.getElem?_cons_zero]
          rw [if_pos (Int.natCast_nonneg p)]
          rfl
        simp only [es, execs, eo, Out.seq_nx] at h
        refine ⟨_, p, d, kvs, ⟨⟨_, rel_startO hd hl2⟩, pw, rfl⟩, ?_⟩
        cases q2 : execs (phi T F n) F body (.ob p :: (ds.map .d ++ List.replicate (N.length - (ds.length + 1)) .un)) with
        | ret y => rw [q2] at h; cases h; exact fun v H' k s w dn => qq v H' k s w dn
        | nx e' => rw [q2] at h; cases h; exact fun σ' H' k s R => qq .non H' k s R.pw .none
        | ex c e' => rw [q2] at h; cases h
        | bk e' => rw [q2] at h; cases h
        | ct e' => rw [q2] at h; cases h
        | stuck => rw [q2] at h; cases h
      · rw [if_neg hl] at h; cases h
/-- __init__'s promise -/
def spInit (C : Addr) : L2.Sp := fun vs H Q _ => ∃ (p dx : Addr), vs = [.ref p] ∧ H p = some (.ins C dx []) ∧ ∀ (d : Addr) (H' : Hp), H d = none → H' p = some (.ins C dx [("rows", .ref d)]) → H' d = some (.dK []) → (∀ b o, H b = some o → b ≠ p → H' b = some o) → Q .non H'
/-- a new object's method that may be called -/
structure NewI (X : Cx) (K : PySem.W.Frag) (C : Addr) (rv : Int → D) (c m : Str) where
  k : Nat
  f : Addr
  fI : Addr
  fd : FuncData
  fdI : FuncData
  ps : List Str
  Φ' : FT
  i' : Nat
  ok : FnOk X.prog X.w X.K X.mg X.base L2.CX0 k f fd ps (spM K C rv Φ' i')
  hr : Room k X.A
  hb : Binds X.K fd ps []
  hm : Meth X.K C m f
  cl : Cls X.K C
  okI : FnOk X.prog X.w X.K X.mg X.base L2.CX0 1 fI fdI ["self"] (spInit C)
  hr2 : Room 2 X.A
  hbI : Binds X.K fdI ["self"] []
  mkr : Mk X.K C fI
  mgC : X.mg c = some (.ref C)
structure NewX (X : Cx) (K : PySem.W.Frag) (C : Addr) (rv : Int → D) (Φ : FT) (i : Nat) (c m : Str) : Prop where
  ex : ∀ xs r, (∀ p : Nat, Φ i (.int (p : Nat) :: xs) = .ok r) → ∃ j : NewI X K C rv c m, ∀ p : Nat, j.Φ' j.i' (.int (p : Nat) :: xs) = .ok r
end
section
variable {X : Cx} {P : Pk} {N : List Str} {sc : Scope} {Φ : FT} {F mo : Nat} {Cl : Addr} {rv : Int → D}
theorem se_new (C0 : Ctx X P N sc) {i j1 j2 : Nat} {c m x1 x2 : Str} {pc p0 p1 p2 apos pos : Pos} {pl : Sem Bool} (Nw : NewX X P.K Cl rv Φ i c m) (hm : ¬ ("rows" : Str) = m) (hg : X.env.kindOf c = some .globalImplicit) (he1 : PE X (.Name x1 p1) (tVar j1)) (he2 : PE X (.Name x2 p2) (tVar j2)) (hdb : (c == ("__debug__" : Str)) = false := by decide)
    (hst : starEach [.Name x1 p1, .Name x2 p2] X.env = (false, eval (.Name x1 p1) X.env) :: starEach [.Name x2 p2] X.env := by rfl) (hst2 : starEach [.Name x2 p2] X.env = [(false, eval (.Name x2 p2) X.env)] := by rfl) (hpl : (backTo pos (starEach [.Name x2 p2] X.env)).any (·.1) = false := by rfl)
    (ht : eval (.Call (.Attribute (.Call (.Name c pc) [] [] p0) m apos) [.Name x1 p1, .Name x2 p2] [] pos) X.env = (do
      let ov ← eval (.Call (.Name c pc) [] [] p0) X.env
      standAt apos.atName
      let (f, first) ← holding [ov] (getMethod ov m pl)
      callWith pos f first (backTo pos (starEach [.Name x1 p1, .Name x2 p2] X.env)) (backToKw pos (keywordEach [] X.env))) := by rfl) :
    PE X (.Call (.Attribute (.Call (.Name c pc) [] [] p0) m apos) [.Name x1 p1, .Name x2 p2] [] pos) (lift P mo (ev Φ (.onew i [.var j1, .var j2]))) := by
  refine PE.imp (PE.any fun j : NewI X P.K Cl rv c m => pe_meth (pl := pl) (pe_make0 j.mkr j.okI j.hr2 hg j.mgC j.hbI .nil pass0 hdb) j.cl j.hm j.ok j.hr j.hb .nil pass0 (pa_cons he1 (pa_cons he2 pa_nil hst2) hst) hst hpl ht) fun σ H Q ⟨e, R, p⟩ => ?_
  simp only [ev] at p
  cases q1 : evs Φ [.var j1, .var j2] e with
  | stuck => rw [q1] at p; exact p.elim
  | ex cc =>
    exfalso
    have vx : ∀ k, (∃ x, ev Φ (.var k) e = .ok x) ∨ ev Φ (.var k) e = .stuck := fun k => by
      simp only [ev]
      cases e[k]? with
      | none => exact .inr rfl
      | some s => cases s <;> first | exact .inl ⟨_, rfl⟩ | exact .inr rfl
    simp only [evs] at q1
    rcases vx j1 with ⟨x, h1⟩ | h1
    · rcases vx j2 with ⟨y, h2⟩ | h2
      · rw [h1, h2] at q1; cases q1
      · rw [h1, h2] at q1; cases q1
    · rw [h1] at q1; cases q1
  | ok xs =>
    rw [q1] at p
    simp only [Res.bind_ok] at p
    obtain ⟨x, y, hx, hy, rfl⟩ := evs2 q1
    unfold newK at p
    split at p
    · rename_i h
      obtain ⟨hn, hf, hall⟩ := h.choose_spec
      revert p hf hall
      generalize h.choose = r
      intro p hf hall
      obtain ⟨j, hj⟩ := Nw.ex [x, y] r hall
      obtain ⟨o1, s1, v1, rfl, d1⟩ := R.at (var_ok hx)
      obtain ⟨o2, s2, v2, rfl, d2⟩ := R.at (var_ok hy)
      refine ⟨j, fun a dx na ndx nex => ⟨a, dx, rfl, upd_same, fun d H' nd h1 h2 h3 => ⟨rfl, a, dx, _, rfl, h1, ?_, v1, s1, v2, s2, ?_⟩⟩⟩
      · rw [List.lookup_cons]
        rw [show (m == ("rows" : Str)) = false from by
          cases q : (m == ("rows" : Str)) with
          | false => rfl
          | true => exact absurd (by simpa using q : m = "rows").symm hm]
        rfl
      · have sm : Same H H' := fun b o q => by
          have n1 : b ≠ a := fun z => by rw [z, na] at q; cases q
          have n2 : b ≠ dx := fun z => by rw [z, ndx] at q; cases q
          exact h3 b o (by rw [upd_ne n1, upd_ne n2]; exact q) n1
        have hd0 : H d = none := by
          cases q : H d with
          | none => rfl
          | some o =>
            exfalso
            have n1 : d ≠ a := fun z => by rw [z, na] at q; cases q
            have n2 : d ≠ dx := fun z => by rw [z, ndx] at q; cases q
            rw [upd_ne n1, upd_ne n2, q] at nd
            cases nd
        refine ⟨a, d, [], [v1, v2], [x, y], r, rfl, ⟨⟨dx, h1⟩, h2, List.nodup_nil, fun kv hk => by simp at hk⟩, .cons (((d1.imp (fun _ _ => ⟨id, id⟩) fun a _ z => z.elim)).same sm) (.cons (((d2.imp (fun _ _ => ⟨id, id⟩) fun a _ z => z.elim)).same sm) .nil), hn, hj a, fun v H2 kvs' s w dn => ?_⟩
        exact p v H2 (fun b o q => s b o (fun z => by rw [z, hd0] at q; cases q) (sm _ _ q)) (Den.mm (dn.noLst hf))
    · exact p.elim
end
/-! statements that do not touch the object -/
structure PureS (Φ : FT) (F : Nat) (S : Stm) : Prop where
  h0 : ∀ e e', exec Φ F S e = .nx e' → e'[0]? = e[0]?
  bc : ∀ e e', exec Φ F S e ≠ .bk e' ∧ exec Φ F S e ≠ .ct e'
section
variable {Φ : FT} {F : Nat}
theorem ofR_cases {α : Type} {r : Res α} {e : Sl} {f : α → Out} {o : Out} (h : Out.ofR r e f = o) : (∃ a, r = .ok a ∧ f a = o) ∨ (∃ c, o = .ex c e) ∨ o = .stuck := by
  cases r with
  | ok a => exact .inl ⟨a, rfl, h⟩
  | ex c => exact .inr (.inl ⟨c, h.symm⟩)
  | stuck => exact .inr (.inr h.symm)
theorem PureS.ret {A : Exp} : PureS Φ F (.ret A) := by
  refine ⟨fun e e' h => ?_, fun e e' => ⟨fun h => ?_, fun h => ?_⟩⟩ <;> (simp only [exec] at h; rcases ofR_cases h with ⟨a, _, h⟩ | ⟨c, h⟩ | h <;> cases h)
theorem PureS.asg {A : Exp} {j : Nat} (hj : j ≠ 0) : PureS Φ F (.asg (.nm j) A) := by
  have key : ∀ e o, exec Φ F (.asg (.nm j) A) e = o → (∃ x, o = .nx (e.set j (.d x))) ∨ (∃ c, o = .ex c e) ∨ o = .stuck := fun e o h => by
    simp only [exec] at h
    rcases ofR_cases h with ⟨a, _, h⟩ | h | h
    · simp only [bindT] at h
      split at h
      · rename_i e1 q
        split at q
        · cases q; exact .inl ⟨a, h.symm⟩
        · cases q
      · exact .inr (.inr h.symm)
    · exact .inr (.inl h)
    · exact .inr (.inr h)
  refine ⟨fun e e' h => ?_, fun e e' => ⟨fun h => ?_, fun h => ?_⟩⟩
  · rcases key e _ h with ⟨x, q⟩ | ⟨c, q⟩ | q
    · cases q; exact List.getElem?_set_ne hj
    · cases q
    · cases q
  · rcases key e _ h with ⟨x, q⟩ | ⟨c, q⟩ | q <;> cases q
  · rcases key e _ h with ⟨x, q⟩ | ⟨c, q⟩ | q <;> cases q
theorem PureS.ifret {A B : Exp} : PureS Φ F (.ifs A [.ret B] []) := by
  have key : ∀ e o, exec Φ F (.ifs A [.ret B] []) e = o → o = .nx e ∨ (∃ x, o = .ret x) ∨ (∃ c, o = .ex c e) ∨ o = .stuck := fun e o h => by
    simp only [exec] at h
    rcases ofR_cases h with ⟨a, _, h⟩ | h | h
    · split at h
      · simp only [execs, exec] at h
        cases q : ev Φ B e with
        | ok x => rw [q] at h; exact .inr (.inl ⟨x, h.symm⟩)
        | ex c => rw [q] at h; exact .inr (.inr (.inl ⟨c, h.symm⟩))
        | stuck => rw [q] at h; exact .inr (.inr (.inr h.symm))
      · simp only [execs] at h; exact .inl h.symm
      · exact .inr (.inr (.inr h.symm))
    · exact .inr (.inr (.inl h))
    · exact .inr (.inr (.inr h))
  refine ⟨fun e e' h => ?_, fun e e' => ⟨fun h => ?_, fun h => ?_⟩⟩
  · rcases key e _ h with q | ⟨x, q⟩ | ⟨c, q⟩ | q <;> cases q
    rfl
  · rcases key e _ h with q | ⟨x, q⟩ | ⟨c, q⟩ | q <;> cases q
  · rcases key e _ h with q | ⟨x, q⟩ | ⟨c, q⟩ | q <;> cases q
theorem aug_ct {i : Nat} {op : BOp} {A : Exp} (e e' : Sl) : exec Φ F (.aug i op A) e ≠ .ct e' := fun h => by
  simp only [exec] at h
  cases q : e[i]? with
  | none => rw [q] at h; cases h
  | some s =>
    rw [q] at h
    cases s with
    | d x =>
      rcases ofR_cases h with ⟨a, _, h⟩ | ⟨c, h⟩ | h
      · split at h <;> cases h
      · cases h
      · cases h
    | _ => cases h
end
/-! a method of a new object, by levels -/
section
variable {pr : Program} {w : World} {K : PySem.W.Frag} {mg : Str → Option Value} {base : Heap} {C : Addr} {rv : Int → D}
structure NewG (pr : Program) (w : World) (K : PySem.W.Frag) (mg : Str → Option Value) (base : Heap) (C : Addr) (rv : Int → D) (T : List Fdef) (F : Nat) (c m : Str) (i n : Nat) : Prop where
  at_ : ∀ X : Cx, X.prog = pr → X.w = w → X.K = K → X.mg = mg → X.base = base → Room n X.A → NewX X K C rv (phi T F n) i c m
/-- what the top has written of the class -/
structure TxtC (pr : Program) (w : World) (K : PySem.W.Frag) (mg : Str → Option Value) (base : Heap) (C : Addr) (c : Str) : Prop where
  cl : Cls K C
  ex : ∃ fI fdI, FnOk pr w K mg base L2.CX0 1 fI fdI ["self"] (spInit C) ∧ Binds K fdI ["self"] [] ∧ Mk K C fI
  mgC : mg c = some (.ref C)
theorem phi_s {T : List Fdef} {F n i : Nat} {fn : Fdef} {args : List Rf.D} (h : T[i]? = some fn) : phi T F (n + 1) i args = fn.run (phi T F n) F args := by simp only [phi, h]
theorem newG_of {T : List Fdef} {F : Nat} {c m : Str} {i iw n : Nat} (tc : TxtC pr w K mg base C c) (hT : T[iw]? = some ⟨3, 3, [.ret (.call i [.var 0, .var 1, .var 2])]⟩) (g : ∀ j, j ≤ n → GoodM pr w K mg base C rv T F m i j) : NewG pr w K mg base C rv T F c m iw n := ⟨fun X e1 e2 e3 e4 e5 hr => ⟨fun xs r h => by
  subst e1; subst e2; subst e3; subst e4; subst e5
  match n, g, hr, h with
  | 0, _, _, h => have := h 0; cases this
  | 1, _, _, h =>
    exfalso
    have := h 0
    rw [phi_s hT] at this
    unfold Fdef.run at this
    split at this
    · rename_i hl
      obtain ⟨a, b, rfl⟩ : ∃ a b, xs = [a, b] := by
        match xs, hl with
        | [a, b], _ => exact ⟨a, b, rfl⟩
      simp [execs, exec, ev, evs, phi] at this
    · cases this
  | k + 2, g, hr, h =>
    obtain ⟨f, fd, ps, ok, hb, hm⟩ := (g (k + 1) (by omega)).ex
    obtain ⟨fI, fdI, okI, hbI, mk⟩ := tc.ex
    refine ⟨⟨k + 1, f, fI, fd, fdI, ps, phi T F (k + 1), i, ok, hr.mono (by omega), hb, hm, tc.cl, okI, hr.mono (by omega), hbI, mk, tc.mgC⟩, fun p => ?_⟩
    have := h p
    rw [phi_s hT] at this
    unfold Fdef.run at this
    split at this
    · rename_i hl
      obtain ⟨a, b, rfl⟩ : ∃ a b, xs = [a, b] := by
        match xs, hl with
        | [a, b], _ => exact ⟨a, b, rfl⟩
      have e3 : execs (phi T F (k + 1)) F [.ret (.call i [.var 0, .var 1, .var 2])] [.d (.int (p : Nat)), .d a, .d b] = Out.ofR (phi T F (k + 1) i [.int (p : Nat), a, b]) [.d (.int (p : Nat)), .d a, .d b] .ret := by
        simp only [execs, exec, ev, evs, List.getElem?_cons_zero, List.getElem?_cons_succ, Res.bind_ok]
        cases phi T F (k + 1) i [.int (p : Nat), a, b] <;> rfl
      rw [show ([PyData.int (p : Nat), a, b].map Slot.d ++ List.replicate (3 - 3) Slot.un) = [.d (.int (p : Nat)), .d a, .d b] from rfl, e3] at this
      show phi T F (k + 1) i [.int (p : Nat), a, b] = .ok r
      cases q : phi T F (k + 1) i [.int (p : Nat), a, b] with
      | ok x => rw [q] at this; exact this
      | ex c => rw [q] at this; cases this
      | stuck => rw [q] at this; cases this
    · cases this⟩⟩
end
/-! row, without the object -/
def bodyR (i2 : Nat) : List Stm := [.obj 0, .ifs (.chain .le .le (.con (.int 1)) (.var 1) (.con (.int 10000))) [.ret (.call i2 [.var 1])] [.brk]]
theorem row_inv {T : List Fdef} {F n iR i2 : Nat} {p : Nat} {ds : List D} {x : D} (hT : T[iR]? = some ⟨2, 2, bodyR i2⟩) (h : phi T F (n + 1) iR (.int (p : Nat) :: ds) = .ok x) : ∃ m : Int, ds = [.int m] ∧ 1 ≤ m ∧ m ≤ 10000 ∧ phi T F n i2 [.int m] = .ok x := by
  rw [phi_s hT] at h
  unfold Fdef.run at h
  split at h
  · rename_i hl
    obtain ⟨y, rfl⟩ : ∃ y, ds = [y] := by
      match ds, hl with
      | [y], _ => exact ⟨y, rfl⟩
    have e0 : ([PyData.int (p : Nat), y].map Slot.d ++ List.replicate (2 - 2) Slot.un) = [.d (.int (p : Nat)), .d y] := rfl
    have eo : exec (phi T F n) F (.obj 0) [.d (.int (p : Nat)), .d y] = .nx [.ob p, .d y] := by
      simp only [exec, List.getElem?_cons_zero]
      rw [if_pos (Int.natCast_nonneg p)]
      rfl
    simp only [e0] at h
    unfold bodyR at h
    rw [execs, eo, Out.seq_nx, execs] at h
    cases y with
    | int m =>
      by_cases h1 : 1 ≤ m
      · by_cases h2 : m ≤ 10000
        · refine ⟨m, rfl, h1, h2, ?_⟩
          have c1 : cmpD .le (.int 1) (.int m) = some true := by show some (decide _) = _; rw [decide_eq_true h1]
          have c2 : cmpD .le (.int m) (.int 10000) = some true := by show some (decide _) = _; rw [decide_eq_true h2]
          have e3 : exec (phi T F n) F (.ifs (.chain .le .le (.con (.int 1)) (.var 1) (.con (.int 10000))) [.ret (.call i2 [.var 1])] [.brk]) [.ob p, .d (.int m)] = Out.ofR (phi T F n i2 [.int m]) [.ob p, .d (.int m)] .ret := by
            simp only [exec, execs, ev, evs, List.getElem?_cons_zero, List.getElem?_cons_succ, Res.bind_ok, c1, c2, Res.of_some, if_true, Option.map_some, Out.ofR_ok]
            cases phi T F n i2 [.int m] <;> rfl
          rw [e3] at h
          cases q : phi T F n i2 [.int m] with
          | ok z => rw [q] at h; exact h
          | ex c => rw [q] at h; cases h
          | stuck => rw [q] at h; cases h
        · exfalso
          have c1 : cmpD .le (.int 1) (.int m) = some true := by show some (decide _) = _; rw [decide_eq_true h1]
          have c2 : cmpD .le (.int m) (.int 10000) = some false := by show some (decide _) = _; rw [decide_eq_false h2]
          simp [exec, execs, ev, c1, c2] at h
      · exfalso
        have c1 : cmpD .le (.int 1) (.int m) = some false := by show some (decide _) = _; rw [decide_eq_false h1]
        simp [exec, execs, ev, c1] at h
    | _ => exfalso; simp [exec, execs, ev, cmpD] at h
  · cases h
/-- what row answers -/
theorem row_len {K : PySem.W.Frag} {H : Hp} {vs : List V} {m : Int} (h : Dens K noAv H vs [.int m]) : vs = [.int m] := by
  cases h with
  | cons a b => cases b; cases a; rfl
theorem rows_look : ([(("rows" : Str), v)] : List (Str × V)).lookup ("rows" : Str) = some v := by
  rw [List.lookup_cons]
  simp
theorem valV_mem {k : Key} {v : V} : ∀ {kvs : List (Key × V)}, valV kvs k = some v → ∃ kv ∈ kvs, kv.1 = k ∧ kv.2 = v
  | [], h => by simp [valV] at h
  | x :: r, h => by
    by_cases e : x.1 = k
    · rw [show x = (x.1, x.2) from rfl, valV_pos e] at h
      exact ⟨x, List.mem_cons_self .., e, Option.some.inj h⟩
    · rw [show x = (x.1, x.2) from rfl, valV_neg e] at h
      obtain ⟨kv, h1, h2⟩ := valV_mem h
      exact ⟨kv, List.mem_cons_of_mem _ h1, h2⟩
theorem valV_new {k : Key} {v : V} : ∀ {kvs : List (Key × V)}, valV kvs k = none → valV (putK kvs k v) k = some v := fun {kvs} h => by
  rw [putK_new _ h]
  induction kvs with
  | nil => exact valV_pos rfl
  | cons x r ih =>
    by_cases e : x.1 = k
    · rw [show x = (x.1, x.2) from rfl, valV_pos e] at h; cases h
    · rw [show x = (x.1, x.2) from rfl, valV_neg e] at h
      rw [List.cons_append, show x = (x.1, x.2) from rfl, valV_neg e]
      exact ih h
theorem rowR {K : PySem.W.Frag} {ca : Nat → Addr} {H : Hp} {p : Addr} {m : Int} : Rel (PO K ca H) [.un, .d (.int m)] (L2.start ["self", "m"] [.ref p, .int m]) H := by
  have no : ∀ a, ¬ Owns [.un, .d (.int m)] (L2.start ["self", "m"] [.ref p, .int m]) a := fun a ⟨i, s, h1, h2, _⟩ => by
    match i with
    | 0 => simp at h1; subst h1; cases h2
    | 1 => simp at h1; subst h1; cases h2
    | i + 2 => simp at h1
  refine ⟨rfl, fun i s o h1 h2 => ?_, fun i j s t a h1 h2 => ?_, Same.refl _, fun a z => absurd z (no a)⟩
  · match i with
    | 0 => simp at h1; subst h1; trivial
    | 1 =>
      simp at h1; subst h1
      rw [start_get (show [V.ref p, V.int m][1]? = some (.int m) from rfl)] at h2
      cases h2
      exact ⟨_, rfl, .int m⟩
    | i + 2 => simp at h1
  · match i with
    | 0 => simp at h1; subst h1; cases h2
    | 1 => simp at h1; subst h1; cases h2
    | i + 2 => simp at h1
end
end Rf

set_option Elab.async false
set_option linter.all false
set_option maxRecDepth 100000
set_option maxHeartbeats 1000000
/-! Rf, part K: tools for the evaluator. -/
namespace Rf
noncomputable section
open PySem
section
variable {Φ : FT} {F : Nat} {e : Sl}
@[simp] theorem e_nop : ev Φ .nop e = .ok .none := by simp only [ev]
@[simp] theorem e_con {x : D} : ev Φ (.con x) e = .ok x := by simp only [ev]
def varK : Option Slot → Res D
  | some (.d x) => .ok x
  | _ => .stuck
def vwK : Option Slot → Res D
  | some (.d x) => .ok x
  | some (.ol xs) => .ok (.list xs)
  | some (.od kvs) => .ok (.dict kvs)
  | _ => .stuck
@[simp] theorem varK_d {x : D} : varK (some (.d x)) = .ok x := id rfl
@[simp] theorem vwK_d {x : D} : vwK (some (.d x)) = .ok x := id rfl
@[simp] theorem vwK_l {x : List D} : vwK (some (.ol x)) = .ok (.list x) := id rfl
@[simp] theorem vwK_k {x : List (D × D)} : vwK (some (.od x)) = .ok (.dict x) := id rfl
@[simp] theorem e_var {i : Nat} : ev Φ (.var i) e = varK e[i]? := by simp only [ev]; cases e[i]? with
  | none => rfl
  | some s => cases s <;> rfl
@[simp] theorem e_vw {i : Nat} : ev Φ (.vw i) e = vwK e[i]? := by simp only [ev]; cases e[i]? with
  | none => rfl
  | some s => cases s <;> rfl
def binK (op : BOp) (x y : D) : Res D := .of (binD op x y)
def cmpK (op : COp) (x y : D) : Res D := .of ((cmpD op x y).map .bool)
def andK (Φ : FT) (b : Exp) (e : Sl) : D → Res D
  | .bool true => ev Φ b e
  | .bool false => .ok (.bool false)
  | _ => .stuck
def orK (Φ : FT) (b : Exp) (e : Sl) : D → Res D
  | .bool true => .ok (.bool true)
  | .bool false => ev Φ b e
  | _ => .stuck
def notK : D → Res D
  | .bool k => .ok (.bool (!k))
  | _ => .stuck
def negK : D → Res D
  | .int k => .ok (.int (-k))
  | _ => .stuck
def iteK (Φ : FT) (a b : Exp) (e : Sl) : D → Res D
  | .bool true => ev Φ a e
  | .bool false => ev Φ b e
  | _ => .stuck
def chK2 (o2 : COp) (y z : D) : Res D := .of ((cmpD o2 y z).map .bool)
def chK (Φ : FT) (o2 : COp) (c : Exp) (e : Sl) (y : D) : Bool → Res D
  | true => (ev Φ c e).bind (chK2 o2 y)
  | false => .ok (.bool false)
@[simp] theorem andK_t {b : Exp} : andK Φ b e (.bool true) = ev Φ b e := id rfl
@[simp] theorem andK_f {b : Exp} : andK Φ b e (.bool false) = .ok (.bool false) := id rfl
@[simp] theorem orK_t {b : Exp} : orK Φ b e (.bool true) = .ok (.bool true) := id rfl
@[simp] theorem orK_f {b : Exp} : orK Φ b e (.bool false) = ev Φ b e := id rfl
@[simp] theorem notK_b {b : Bool} : notK (.bool b) = .ok (.bool (!b)) := id rfl
@[simp] theorem negK_i {b : Int} : negK (.int b) = .ok (.int (-b)) := id rfl
@[simp] theorem iteK_t {a b : Exp} : iteK Φ a b e (.bool true) = ev Φ a e := id rfl
@[simp] theorem iteK_f {a b : Exp} : iteK Φ a b e (.bool false) = ev Φ b e := id rfl
@[simp] theorem chK_t {o2 : COp} {c : Exp} {y : D} : chK Φ o2 c e y true = (ev Φ c e).bind (chK2 o2 y) := id rfl
@[simp] theorem chK_f {o2 : COp} {c : Exp} {y : D} : chK Φ o2 c e y false = .ok (.bool false) := id rfl
@[simp] theorem e_bin {op : BOp} {a b : Exp} : ev Φ (.bin op a b) e = (ev Φ a e).bind fun x => (ev Φ b e).bind (binK op x) := by simp only [ev]; rfl
@[simp] theorem e_cmp {op : COp} {a b : Exp} : ev Φ (.cmp op a b) e = (ev Φ a e).bind fun x => (ev Φ b e).bind (cmpK op x) := by simp only [ev]; rfl
@[simp] theorem e_chain {o1 o2 : COp} {a b c : Exp} : ev Φ (.chain o1 o2 a b c) e = (ev Φ a e).bind fun x => (ev Φ b e).bind fun y => (Res.of (cmpD o1 x y)).bind (chK Φ o2 c e y) := by
  simp only [ev]
  congr 1; funext x; congr 1; funext y; congr 1; funext k
  cases k <;> rfl
@[simp] theorem e_and {a b : Exp} : ev Φ (.and a b) e = (ev Φ a e).bind (andK Φ b e) := by simp only [ev]; rfl
@[simp] theorem e_or {a b : Exp} : ev Φ (.or a b) e = (ev Φ a e).bind (orK Φ b e) := by simp only [ev]; rfl
@[simp] theorem e_not {a : Exp} : ev Φ (.not a) e = (ev Φ a e).bind notK := by simp only [ev]; rfl
@[simp] theorem e_neg {a : Exp} : ev Φ (.neg a) e = (ev Φ a e).bind negK := by simp only [ev]; rfl
@[simp] theorem e_ite {c a b : Exp} : ev Φ (.ite c a b) e = (ev Φ c e).bind (iteK Φ a b e) := by simp only [ev]; rfl
@[simp] theorem e_tup {es : List Exp} : ev Φ (.tup es) e = (evs Φ es e).bind fun xs => .ok (.tuple xs) := by simp only [ev]
@[simp] theorem e_lst {es : List Exp} : ev Φ (.lst es) e = (evs Φ es e).bind fun xs => .ok (.list xs) := by simp only [ev]
@[simp] theorem e_emp : ev Φ .emp e = .ok (.dict []) := by simp only [ev]
def idxK (x y : D) : Res D := .of (idxD x y)
@[simp] theorem e_idx {a b : Exp} : ev Φ (.idx a b) e = (ev Φ a e).bind fun x => (ev Φ b e).bind (idxK x) := by simp only [ev]; rfl
def slK (x : D) (l h : Option Int) : Res D := .of (sliceD x l h)
@[simp] theorem e_sl {a l h : Exp} : ev Φ (.sl a l h) e = (ev Φ a e).bind fun x => (evo Φ l e).bind fun l => (evo Φ h e).bind (slK x l) := by simp only [ev]; rfl
@[simp] theorem evo_nop : evo Φ .nop e = .ok none := id rfl
theorem evo_of {a : Exp} {i : Int} (h : a.isNop = false) (h2 : ev Φ a e = .ok (.int i)) : evo Φ a e = .ok (some i) := by unfold evo; rw [h, if_neg (by decide), h2]; rfl
def partK : D → Res (Option Int) := partD
@[simp] theorem partK_i {i : Int} : partK (.int i) = .ok (some i) := id rfl
@[simp] theorem evo_con {x : D} : evo Φ (.con x) e = partK x := id rfl
@[simp] theorem evo_var {i : Nat} : evo Φ (.var i) e = (varK e[i]?).bind partK := by rw [← e_var (Φ := Φ)]; rfl
@[simp] theorem evo_bin {op : BOp} {a b : Exp} : evo Φ (.bin op a b) e = (ev Φ (.bin op a b) e).bind partK := id rfl
@[simp] theorem evo_idx {a b : Exp} : evo Φ (.idx a b) e = (ev Φ (.idx a b) e).bind partK := id rfl
@[simp] theorem evo_neg {a : Exp} : evo Φ (.neg a) e = (ev Φ (.neg a) e).bind partK := id rfl
@[simp] theorem evo_call {f : Nat} {a : List Exp} : evo Φ (.call f a) e = (ev Φ (.call f a) e).bind partK := id rfl
@[simp] theorem evo_blt {f : Blt} {a : List Exp} : evo Φ (.blt f a) e = (ev Φ (.blt f a) e).bind partK := id rfl
@[simp] theorem e_rev {a : Exp} : ev Φ (.rev a) e = (ev Φ a e).bind fun x => .of (revD x) := by simp only [ev]
@[simp] theorem e_revs {a : Exp} : ev Φ (.revs a) e = (ev Φ a e).bind fun x => .of (revsD x) := by simp only [ev]
@[simp] theorem e_call {f : Nat} {es : List Exp} : ev Φ (.call f es) e = (evs Φ es e).bind (Φ f) := by simp only [ev]
def flK (y : D) : Res D := if noLst y then .ok y else .stuck
@[simp] theorem e_callv {f : Nat} {es : List Exp} : ev Φ (.callv f es) e = (evs Φ es e).bind fun xs => (Φ f xs).bind flK := by simp only [ev]; rfl
@[simp] theorem flK_i {i : Int} : flK (.int i) = .ok (.int i) := id rfl
@[simp] theorem flK_b {i : Bool} : flK (.bool i) = .ok (.bool i) := id rfl
@[simp] theorem flK_s {i : Str} : flK (.str i) = .ok (.str i) := id rfl
@[simp] theorem flK_n : flK .none = .ok .none := id rfl
def bltK (b : Blt) (xs : List D) : Res D := .of (bltD b xs)
@[simp] theorem e_blt {b : Blt} {es : List Exp} : ev Φ (.blt b es) e = (evs Φ es e).bind (bltK b) := by simp only [ev]; rfl
def mthK (m : Mth) (x : D) (xs : List D) : Res D := .of (mthD m x xs)
@[simp] theorem e_mth {m : Mth} {o : Exp} {es : List Exp} : ev Φ (.mth m o es) e = (ev Φ o e).bind fun x => (evs Φ es e).bind (mthK m x) := by simp only [ev]; rfl
def compK (Φ : FT) (elt : Exp) (t : Tgt) (ifs : List Exp) (e : Sl) (its : List D) : Res D :=
  if freeOf e t.ix && decide (its.length ≤ line) then (noEx (compL (ev Φ elt) (evt Φ ifs) t its (wipeS e t.ix))).bind fun ys => .ok (.list ys) else .stuck
def srcK (k : SrcK) (xs : List D) : Res (List D) := .of (srcD k xs)
def dgetV (kvs : List (D × D)) (y z : D) : Res D := .of (mthD .get (.dict kvs) [y, z])
def dgetK (Φ : FT) (k d : Exp) (e : Sl) : D → Res D
  | .dict kvs => (ev Φ k e).bind fun y => (ev Φ d e).bind (dgetV kvs y)
  | _ => .stuck
@[simp] theorem dgetK_d {k d : Exp} {kvs : List (D × D)} : dgetK Φ k d e (.dict kvs) = (ev Φ k e).bind fun y => (ev Φ d e).bind (dgetV kvs y) := id rfl
@[simp] theorem dgetV_i {kvs : List (D × D)} {i : Int} {z : D} : dgetV kvs (.int i) z = .ok ((lookD kvs (.int i)).getD z) := id rfl
@[simp] theorem e_dget {o k d : Exp} : ev Φ (.dget o k d) e = (ev Φ o e).bind (dgetK Φ k d e) := by
  simp only [ev]
  cases ev Φ o e with
  | ok x => cases x <;> rfl
  | ex c => rfl
  | stuck => rfl
@[simp] theorem e_comp {elt : Exp} {t : Tgt} {k : SrcK} {es ifs : List Exp} : ev Φ (.comp elt t k es ifs) e = (evs Φ es e).bind fun xs => (srcK k xs).bind (compK Φ elt t ifs e) := by simp only [ev]; rfl
@[simp] theorem srcK_l {xs : List D} : srcK .lst [.list xs] = .ok xs := id rfl
@[simp] theorem srcK_t {xs : List D} : srcK .tup [.tuple xs] = .ok xs := id rfl
@[simp] theorem srcK_s {z : Str} : srcK .str [.str z] = .ok (z.cps.toList.map fun c => .str (S [c])) := id rfl
theorem srcK_r1 {n : Int} (h : n ≤ 4611686018427387903) (h0 : 0 ≤ n) : srcK .rng [.int n] = .ok (rngD 0 n.toNat) := by
  have h1 : -(2 ^ 62) ≤ n ∧ n < 2 ^ 62 := ⟨by omega, by omega⟩
  simp only [srcK, srcD, if_pos h1, Res.of_some]
theorem srcK_rn {n : Nat} (h : n ≤ 1000000) : srcK .rng [.int (n : Int)] = .ok (rngD 0 n) := srcK_r1 (by omega) (by omega)
@[simp] theorem srcK_z {xs ys : List D} : srcK .zip [.list xs, .list ys] = .ok (zipD xs ys) := id rfl
@[simp] theorem srcK_zt {xs ys : List D} : srcK .zip [.tuple xs, .tuple ys] = .ok (zipD xs ys) := id rfl
@[simp] theorem es_nil : evs Φ [] e = .ok [] := by simp only [evs]
@[simp] theorem es_cons {a : Exp} {r : List Exp} : evs Φ (a :: r) e = (ev Φ a e).bind fun x => (evs Φ r e).bind fun xs => .ok (x :: xs) := by simp only [evs]
@[simp] theorem et_nil : evt Φ [] e = .ok true := by simp only [evt]
/-! what the operations give -/
@[simp] theorem binK_add {i j : Int} : binK .add (.int i) (.int j) = .ok (.int (i + j)) := id rfl
@[simp] theorem binK_sub {i j : Int} : binK .sub (.int i) (.int j) = .ok (.int (i - j)) := id rfl
theorem binK_mul {i j : Int} (h : i.natAbs < 18446744073709551616 ∨ j.natAbs < 18446744073709551616) : binK .mul (.int i) (.int j) = .ok (.int (i * j)) := by
  have h1 : i.natAbs < 2 ^ 64 ∨ j.natAbs < 2 ^ 64 := h
  simp only [binK, binD, if_pos h1, Res.of_some]
@[simp] theorem binK_mulr {i j : Int} (h : j.natAbs < 18446744073709551616) : binK .mul (.int i) (.int j) = .ok (.int (i * j)) := binK_mul (.inr h)
@[simp] theorem binK_mull {i j : Int} (h : i.natAbs < 18446744073709551616) : binK .mul (.int i) (.int j) = .ok (.int (i * j)) := binK_mul (.inl h)
@[simp] theorem binK_div {i j : Int} (h : 0 < j) (h2 : j < 1073741824) : binK .fdiv (.int i) (.int j) = .ok (.int (i / j)) := by simp only [binK, binD, if_pos (And.intro h h2), Res.of_some]
@[simp] theorem binK_mod {i j : Int} (h : 0 < j) : binK .mod (.int i) (.int j) = .ok (.int (i % j)) := by simp only [binK, binD, if_pos h, Res.of_some]
@[simp] theorem binK_pow {i j : Int} (h : 0 ≤ j) (h2 : j ≤ 1000000) (h3 : i.natAbs < 18446744073709551616) : binK .pow (.int i) (.int j) = .ok (.int (i ^ j.toNat)) := by
  have h1 : 0 ≤ j ∧ j ≤ 1000000 ∧ i.natAbs < 2 ^ 64 := ⟨h, h2, h3⟩
  simp only [binK, binD, if_pos h1, Res.of_some]
theorem binK_str {x y : Str} (h : x.length + y.length ≤ 1000000) : binK .add (.str x) (.str y) = .ok (.str (x ++ y)) := by
  simp only [binK, binD]
  rw [if_pos (show _ ≤ line from h)]
  rfl
theorem binK_lst {x y : List D} (h : x.length + y.length ≤ 1000000) : binK .add (.list x) (.list y) = .ok (.list (x ++ y)) := by
  simp only [binK, binD]
  rw [if_pos (show _ ≤ line from h)]
  rfl
@[simp] theorem cmpK_lt {i j : Int} : cmpK .lt (.int i) (.int j) = .ok (.bool (decide (i < j))) := id rfl
@[simp] theorem cmpK_le {i j : Int} : cmpK .le (.int i) (.int j) = .ok (.bool (decide (i ≤ j))) := id rfl
@[simp] theorem cmpK_gt {i j : Int} : cmpK .gt (.int i) (.int j) = .ok (.bool (decide (j < i))) := id rfl
@[simp] theorem cmpK_ge {i j : Int} : cmpK .ge (.int i) (.int j) = .ok (.bool (decide (j ≤ i))) := id rfl
@[simp] theorem cmpK_eqI {i j : Int} : cmpK .eq (.int i) (.int j) = .ok (.bool (decide (i = j))) := by
  simp [cmpK, cmpD, eqOk, PyData.canLay0, PyData.depth, PyData.eqv, Bool.beq_eq_decide_eq]
@[simp] theorem cmpK_neI {i j : Int} : cmpK .ne (.int i) (.int j) = .ok (.bool (!decide (i = j))) := by
  simp [cmpK, cmpD, eqOk, PyData.canLay0, PyData.depth, PyData.eqv, Bool.beq_eq_decide_eq]
@[simp] theorem cmpK_eqS {i j : Str} (h : PyData.strOk i = true) (h2 : PyData.strOk j = true) : cmpK .eq (.str i) (.str j) = .ok (.bool (i == j)) := by
  simp [cmpK, cmpD, eqOk, PyData.canLay0, PyData.depth, PyData.eqv, h, h2]
@[simp] theorem cmpK_neS {i j : Str} (h : PyData.strOk i = true) (h2 : PyData.strOk j = true) : cmpK .ne (.str i) (.str j) = .ok (.bool (!(i == j))) := by
  simp [cmpK, cmpD, eqOk, PyData.canLay0, PyData.depth, PyData.eqv, h, h2]
@[simp] theorem cmpK_eqB {i j : Bool} : cmpK .eq (.bool i) (.bool j) = .ok (.bool (decide (i = j))) := by
  cases i <;> cases j <;> rfl
@[simp] theorem cmpK_neB {i j : Bool} : cmpK .ne (.bool i) (.bool j) = .ok (.bool (!decide (i = j))) := by
  cases i <;> cases j <;> rfl
@[simp] theorem cmpK_isB {i j : Bool} : cmpK .is (.bool i) (.bool j) = .ok (.bool (decide (i = j))) := id rfl
@[simp] theorem bltK_lenL {xs : List D} : bltK .len [.list xs] = .ok (.int xs.length) := id rfl
@[simp] theorem bltK_lenT {xs : List D} : bltK .len [.tuple xs] = .ok (.int xs.length) := id rfl
@[simp] theorem bltK_lenD {xs : List (D × D)} : bltK .len [.dict xs] = .ok (.int xs.length) := id rfl
theorem bltK_lenS {z : Str} (h : z.length ≤ 1000000) : bltK .len [.str z] = .ok (.int z.length) := by
  simp only [bltK, bltD]
  rw [if_pos (show _ ≤ line from h)]
  rfl
@[simp] theorem bltK_int {i : Int} : bltK .int [.int i] = .ok (.int i) := id rfl
@[simp] theorem bltK_intB {b : Bool} : bltK .int [.bool b] = .ok (.int (if b then 1 else 0)) := id rfl
@[simp] theorem bltK_abs {i : Int} : bltK .abs [.int i] = .ok (.int (if i < 0 then -i else i)) := id rfl
@[simp] theorem bltK_max {i j : Int} : bltK .max [.int i, .int j] = .ok (.int (if j > i then j else i)) := id rfl
@[simp] theorem bltK_min {i j : Int} : bltK .min [.int i, .int j] = .ok (.int (if j < i then j else i)) := id rfl
@[simp] theorem bltK_tupL {xs : List D} : bltK .tuple [.list xs] = .ok (.tuple xs) := id rfl
@[simp] theorem bltK_tupT {xs : List D} : bltK .tuple [.tuple xs] = .ok (.tuple xs) := id rfl
@[simp] theorem bltK_lstL {xs : List D} : bltK .list [.list xs] = .ok (.list xs) := id rfl
@[simp] theorem bltK_isi {T : Nat} {x : D} : bltK (.isi T) [x] = .of ((isiD T x).map .bool) := by unfold bltK bltD; cases x <;> rfl
@[simp] theorem isi_i {T : Nat} {i : Int} : isiD T (.int i) = some (T == 0) := id rfl
@[simp] theorem isi_b {T : Nat} {i : Bool} : isiD T (.bool i) = some (T == 0 || T == 1) := id rfl
@[simp] theorem isi_s {T : Nat} {i : Str} : isiD T (.str i) = some (T == 2) := id rfl
@[simp] theorem isi_t {T : Nat} {i : List D} : isiD T (.tuple i) = some (T == 3) := id rfl
@[simp] theorem isi_l {T : Nat} {i : List D} : isiD T (.list i) = some (T == 4) := id rfl
/-! statements -/
def asgK (t : Tgt) (e : Sl) (x : D) : Out := match bindT t x e with
  | some e' => .nx e'
  | none => .stuck
def ifK (Φ : FT) (F : Nat) (a b : List Stm) (e : Sl) : D → Out
  | .bool true => execs Φ F a e
  | .bool false => execs Φ F b e
  | _ => .stuck
@[simp] theorem ifK_t {a b : List Stm} : ifK Φ F a b e (.bool true) = execs Φ F a e := id rfl
@[simp] theorem ifK_f {a b : List Stm} : ifK Φ F a b e (.bool false) = execs Φ F b e := id rfl
@[simp] theorem asgK_nm {i : Nat} {x : D} (h : i < e.length) : asgK (.nm i) e x = .nx (e.set i (.d x)) := by unfold asgK bindT; rw [if_pos h]
@[simp] theorem x_nil : execs Φ F [] e = .nx e := by simp only [execs]
@[simp] theorem x_cons {s : Stm} {r : List Stm} : execs Φ F (s :: r) e = (exec Φ F s e).seq (execs Φ F r) := by simp only [execs]
@[simp] theorem seq_nil {o : Out} : o.seq (execs Φ F []) = o := by cases o <;> first | rfl | exact x_nil
@[simp] theorem slK_l {xs : List D} {lo hi : Option Int} : slK (.list xs) lo hi = .ok (.list (cutD xs lo hi)) := id rfl
@[simp] theorem slK_t {xs : List D} {lo hi : Option Int} : slK (.tuple xs) lo hi = .ok (.tuple (cutD xs lo hi)) := id rfl
theorem slK_s {z : Str} {lo hi : Option Int} (h : z.length ≤ line) : slK (.str z) lo hi = .ok (.str (S (cutD z.cps.toList lo hi))) := by
  simp only [slK, sliceD]
  rw [if_pos h]
  rfl
theorem cut_to {α : Type} {xs : List α} {n : Nat} : cutD xs none (some (n : Int)) = xs.take n := by
  unfold cutD
  rw [HT.sIx_none, HT.sIx_nat, Nat.sub_zero, List.drop_zero]
  by_cases h : n ≤ xs.length
  · rw [Nat.min_eq_left h]
  · rw [Nat.min_eq_right (by omega), List.take_length, List.take_of_length_le (by omega)]
theorem cut_from {α : Type} {xs : List α} {n : Nat} : cutD xs (some (n : Int)) none = xs.drop n := by
  unfold cutD
  rw [HT.sIx_none, HT.sIx_nat]
  by_cases h : n ≤ xs.length
  · rw [Nat.min_eq_left h, List.take_of_length_le (by rw [List.length_drop]; omega)]
  · rw [Nat.min_eq_right (by omega), Nat.sub_self, List.take_zero, List.drop_of_length_le (by omega)]
theorem cut_mid {α : Type} {xs : List α} {n m : Nat} (h : n ≤ m) (h2 : m ≤ xs.length) : cutD xs (some (n : Int)) (some (m : Int)) = (xs.drop n).take (m - n) := by
  unfold cutD
  rw [HT.sIx_nat, HT.sIx_nat, Nat.min_eq_left h2, Nat.min_eq_left (by omega)]
@[simp] theorem x_asg {t : Tgt} {a : Exp} : exec Φ F (.asg t a) e = Out.ofR (ev Φ a e) e (asgK t e) := by simp only [exec]; rfl
@[simp] theorem x_ifs {c : Exp} {a b : List Stm} : exec Φ F (.ifs c a b) e = Out.ofR (ev Φ c e) e (ifK Φ F a b e) := by simp only [exec]; rfl
@[simp] theorem x_ret {a : Exp} : exec Φ F (.ret a) e = Out.ofR (ev Φ a e) e .ret := by simp only [exec]
@[simp] theorem x_retn : exec Φ F .retn e = .ret .none := by simp only [exec]
@[simp] theorem x_brk : exec Φ F .brk e = .bk e := by simp only [exec]
@[simp] theorem x_cnt : exec Φ F .cnt e = .ct e := by simp only [exec]
@[simp] theorem x_pas : exec Φ F .pas e = .nx e := by simp only [exec]
def ownK (i : Nat) (e : Sl) (x : D) : Out := match ownS x with
  | some s => if i < e.length then .nx (e.set i s) else .stuck
  | none => .stuck
@[simp] theorem ownK_l {i : Nat} {xs : List D} (h : i < e.length) : ownK i e (.list xs) = .nx (e.set i (.ol xs)) := by simp only [ownK, ownS, if_pos h]
@[simp] theorem ownK_e {i : Nat} (h : i < e.length) : ownK i e (.dict []) = .nx (e.set i (.od [])) := by simp only [ownK, ownS, keysOk, if_pos h, if_true]
@[simp] theorem x_own {i : Nat} {a : Exp} : exec Φ F (.own i a) e = Out.ofR (ev Φ a e) e (ownK i e) := by simp only [exec]; rfl
def appK (Φ : FT) (i : Nat) (a : Exp) (e : Sl) : Option Slot → Out
  | some (.ol xs) => Out.ofR (ev Φ a e) e fun x => if xs.length < line then .nx (e.set i (.ol (xs ++ [x]))) else .stuck
  | _ => .stuck
theorem appK_l {i : Nat} {a : Exp} {xs : List D} : appK Φ i a e (some (.ol xs)) = Out.ofR (ev Φ a e) e fun x => if xs.length < line then .nx (e.set i (.ol (xs ++ [x]))) else .stuck := rfl
@[simp] theorem appK_ok {i : Nat} {a : Exp} {xs : List D} (h : xs.length < line) : appK Φ i a e (some (.ol xs)) = Out.ofR (ev Φ a e) e fun x => .nx (e.set i (.ol (xs ++ [x]))) := by
  rw [appK_l]; congr 1; funext x; rw [if_pos h]
@[simp] theorem x_app {i : Nat} {a : Exp} : exec Φ F (.app i a) e = appK Φ i a e e[i]? := by simp only [exec]; cases e[i]? with
  | none => rfl
  | some s => cases s <;> rfl
@[simp] theorem x_for {t : Tgt} {k : SrcK} {es : List Exp} {b : List Stm} : exec Φ F (.for t k es b) e = Out.ofR ((evs Φ es e).bind (srcK k)) e fun its => forL (execs Φ F b) t its e := by
  simp only [exec]
  cases evs Φ es e with
  | ok xs =>
    simp only [Out.ofR_ok, Res.bind_ok]
    unfold srcK
    cases srcD k xs <;> rfl
  | ex c => rfl
  | stuck => rfl
def setdK (i : Nat) (e : Sl) (kvs : List (D × D)) (x : D) (k : D) : Out := if (keyD k).isSome ∧ kvs.length < line then .nx (e.set i (.od (putD kvs k x))) else .stuck
def setdS (Φ : FT) (i : Nat) (k a : Exp) (e : Sl) : Option Slot → Out
  | some (.od kvs) => Out.ofR (ev Φ a e) e fun x => Out.ofR (ev Φ k e) e (setdK i e kvs x)
  | _ => .stuck
@[simp] theorem setdS_d {i : Nat} {k a : Exp} {kvs : List (D × D)} : setdS Φ i k a e (some (.od kvs)) = Out.ofR (ev Φ a e) e fun x => Out.ofR (ev Φ k e) e (setdK i e kvs x) := id rfl
theorem setdK_i {i : Nat} {kvs : List (D × D)} {x : D} {k : Int} (h : kvs.length < line) : setdK i e kvs x (.int k) = .nx (e.set i (.od (putD kvs (.int k) x))) := by
  unfold setdK
  rw [if_pos ⟨rfl, h⟩]
@[simp] theorem x_setd {i : Nat} {k a : Exp} : exec Φ F (.setd i k a) e = setdS Φ i k a e e[i]? := by
  simp only [exec]
  cases e[i]? with
  | none => rfl
  | some s => cases s <;> rfl
@[simp] theorem bltK_dict {kvs : List (D × D)} : bltK .dict [.dict kvs] = .ok (.dict kvs) := id rfl
def fordK (Φ : FT) (F : Nat) (t : Tgt) (b : List Stm) (e : Sl) : Option Slot → Out
  | some (.d (.dict kvs)) => (forL (execs Φ F b) t (kvs.map (·.1)) e).calm
  | _ => .stuck
@[simp] theorem fordK_d {t : Tgt} {b : List Stm} {kvs : List (D × D)} : fordK Φ F t b e (some (.d (.dict kvs))) = (forL (execs Φ F b) t (kvs.map (·.1)) e).calm := id rfl
@[simp] theorem x_ford {t : Tgt} {i : Nat} {b : List Stm} : exec Φ F (.ford t i b) e = fordK Φ F t b e e[i]? := by
  simp only [exec]
  cases e[i]? with
  | none => rfl
  | some s => cases s with
    | d x => cases x <;> rfl
    | _ => rfl
def giveK (i : Nat) (e : Sl) : Option Slot → Out
  | some (.ol xs) => .nx (e.set i (.d (.list xs)))
  | _ => .stuck
@[simp] theorem giveK_l {i : Nat} {xs : List D} : giveK i e (some (.ol xs)) = .nx (e.set i (.d (.list xs))) := id rfl
@[simp] theorem x_give {i : Nat} : exec Φ F (.give i) e = giveK i e e[i]? := by simp only [exec]; cases e[i]? with
  | none => rfl
  | some s => cases s <;> rfl
@[simp] theorem x_par {i j : Nat} {a b : Exp} : exec Φ F (.par i j a b) e = Out.ofR (ev Φ a e) e fun x => Out.ofR (ev Φ b e) e fun y => if i < e.length ∧ j < e.length then .nx ((e.set i (.d x)).set j (.d y)) else .stuck := by simp only [exec]
theorem forL_nil {b : Sl → Out} {t : Tgt} : forL b t [] e = .nx e := by simp only [forL]
theorem forL_cons {b : Sl → Out} {t : Tgt} {x : D} {xs : List D} {e1 : Sl} (h : bindT t x e = some e1) : forL b t (x :: xs) e = (b e1).turn fun e2 => forL b t xs e2 := by simp only [forL, h]
/-- a loop that only goes on -/
theorem forL_inv {b : Sl → Out} {t : Tgt} (I : Nat → Sl → Prop) : ∀ (its : List D) (e : Sl) (k : Nat), I k e → (∀ i x e, its[i]? = some x → I (k + i) e → ∃ e1 e2, bindT t x e = some e1 ∧ (b e1 = .nx e2 ∨ b e1 = .ct e2) ∧ I (k + i + 1) e2) → ∃ e', forL b t its e = .nx e' ∧ I (k + its.length) e'
  | [], e, k, h0, _ => ⟨e, forL_nil, h0⟩
  | x :: xs, e, k, h0, hs => by
    obtain ⟨e1, e2, h1, h2, h3⟩ := hs 0 x e rfl h0
    obtain ⟨e', q1, q2⟩ := forL_inv I xs e2 (k + 1) h3 fun i x e hi h => by
      have := hs (i + 1) x e (by simpa using hi) (by rw [show k + (i + 1) = k + 1 + i by omega]; exact h)
      rw [show k + (i + 1) + 1 = k + 1 + i + 1 by omega] at this
      exact this
    refine ⟨e', ?_, by rw [show k + (x :: xs).length = k + 1 + xs.length by simp only [List.length_cons]; omega]; exact q2⟩
    rw [forL_cons h1]
    rcases h2 with h2 | h2 <;> rw [h2] <;> exact q1
/-- a loop whose turns may also break or return; what is asked of the end -/
theorem forL_post {b : Sl → Out} {t : Tgt} (I : Nat → Sl → Prop) (Q : Out → Prop) : ∀ (its : List D) (e : Sl) (k : Nat), I k e → (∀ i x e, its[i]? = some x → I (k + i) e → ∃ e1, bindT t x e = some e1 ∧ ((∃ e2, (b e1 = .nx e2 ∨ b e1 = .ct e2) ∧ I (k + i + 1) e2) ∨ (∃ e2, b e1 = .bk e2 ∧ Q (.nx e2)) ∨ (∃ x, b e1 = .ret x ∧ Q (.ret x)))) → (∀ e, I (k + its.length) e → Q (.nx e)) → Q (forL b t its e)
  | [], e, k, h0, _, hd => by rw [forL_nil]; exact hd e h0
  | x :: xs, e, k, h0, hs, hd => by
    obtain ⟨e1, h1, h2⟩ := hs 0 x e rfl h0
    rw [forL_cons h1]
    rcases h2 with ⟨e2, h2, h3⟩ | ⟨e2, h2, h3⟩ | ⟨r, h2, h3⟩
    · have := forL_post I Q xs e2 (k + 1) h3 (fun i x e hi h => by
        have := hs (i + 1) x e (by simpa using hi) (by rw [show k + (i + 1) = k + 1 + i by omega]; exact h)
        rw [show k + (i + 1) + 1 = k + 1 + i + 1 by omega] at this
        exact this) (fun e h => hd e (by rw [show k + (x :: xs).length = k + 1 + xs.length by simp only [List.length_cons]; omega]; exact h))
      rcases h2 with h2 | h2 <;> rw [h2] <;> exact this
    · rw [h2]; exact h3
    · rw [h2]; exact h3
theorem compL_all {f : Sl → Res D} {g : Sl → Res Bool} {t : Tgt} {h : D → D} (hg : ∀ e, g e = .ok true) : ∀ (its : List D), (∀ x ∈ its, ∃ e1, bindT t x e = some e1 ∧ f e1 = .ok (h x)) → compL f g t its e = .ok (its.map h)
  | [], _ => by simp only [compL, List.map_nil]
  | x :: xs, hs => by
    obtain ⟨e1, h1, h2⟩ := hs x (List.mem_cons_self ..)
    have ih := compL_all hg xs fun y hy => hs y (List.mem_cons_of_mem _ hy)
    simp only [compL, h1, hg, Res.bind_ok, if_pos, h2, ih, List.map_cons]
theorem rng_get {lo : Int} {n i : Nat} {x : D} (h : (rngD lo n)[i]? = some x) : i < n ∧ x = .int (lo + i) := by
  unfold rngD at h
  rw [List.getElem?_map] at h
  cases q : (List.range n)[i]? with
  | none => rw [q] at h; cases h
  | some j =>
    rw [q] at h
    obtain ⟨hi, e⟩ := List.getElem?_eq_some_iff.mp q
    rw [List.getElem_range] at e
    subst e
    simp only [Option.map_some, Option.some.injEq] at h
    exact ⟨by simpa using hi, h.symm⟩
@[simp] theorem rng_len {lo : Int} {n : Nat} : (rngD lo n).length = n := by simp [rngD]
/-- a list's item at a nat -/
theorem atI_at {α : Type} {xs : List α} {i : Int} {x : α} (h0 : 0 ≤ i) (h : xs[i.toNat]? = some x) : L2.atI xs i = some x := by
  obtain ⟨n, rfl⟩ := Int.eq_ofNat_of_zero_le h0
  exact L2.atI_nat (by simpa using h)
theorem get_ints {l : List Int} {i : Nat} (h : i < l.length) : (l.map PyData.int)[i]? = some (.int l[i]) := by rw [List.getElem?_map, List.getElem?_eq_getElem h]; rfl
end
/-! ### what is asked of an end -/
structure Is (Q : Out → Prop) (o : Out) : Prop where
  mk :: (out : Q o)
theorem is_eq {Q : Out → Prop} {o : Out} : Is Q o = Q o := propext ⟨fun h => h.out, fun h => ⟨h⟩⟩
/-- a loop's turn -/
def turnB (b : Sl → Out) (t : Tgt) (x : D) (e : Sl) : Out := match bindT t x e with
  | some e1 => b e1
  | none => .stuck
/-- what a turn is to reach -/
def Turn (Q : Out → Prop) (I : Sl → Prop) (f : Sl → Out) : Out → Prop
  | .nx e => I e
  | .ct e => I e
  | .bk e => Is Q (f e)
  | .ret x => Q (.ret x)
  | _ => False
@[simp] theorem Turn_nx {Q : Out → Prop} {I : Sl → Prop} {f : Sl → Out} {e : Sl} : Is (Turn Q I f) (.nx e) = I e := is_eq
@[simp] theorem Turn_ct {Q : Out → Prop} {I : Sl → Prop} {f : Sl → Out} {e : Sl} : Is (Turn Q I f) (.ct e) = I e := is_eq
@[simp] theorem Turn_bk {Q : Out → Prop} {I : Sl → Prop} {f : Sl → Out} {e : Sl} : Is (Turn Q I f) (.bk e) = Is Q (f e) := is_eq
@[simp] theorem Turn_ret {Q : Out → Prop} {I : Sl → Prop} {f : Sl → Out} {x : D} : Is (Turn Q I f) (.ret x) = Q (.ret x) := is_eq
theorem Is.for {Q : Out → Prop} {b : Sl → Out} {t : Tgt} {its : List D} {e : Sl} {f : Sl → Out} (I : Nat → Sl → Prop) (h0 : I 0 e) (hs : ∀ i x e, its[i]? = some x → I i e → Is (Turn Q (I (i + 1)) f) (turnB b t x e)) (hd : ∀ e, I its.length e → Is Q (f e)) : Is Q ((forL b t its e).seq f) := by
  refine forL_post (fun i e => I i e) (fun o => Is Q (o.seq f)) its e 0 h0 (fun i x e hx hi => ?_) (fun e h => hd e (by rw [Nat.zero_add] at h; exact h))
  rw [Nat.zero_add] at hi ⊢
  have h := (hs i x e hx hi).out
  unfold turnB at h
  cases q : bindT t x e with
  | none => rw [q] at h; exact h.elim
  | some e1 =>
    rw [q] at h
    refine ⟨e1, rfl, ?_⟩
    simp only [] at h
    cases q2 : b e1 with
    | nx e2 => rw [q2] at h; exact .inl ⟨e2, .inl rfl, h⟩
    | ct e2 => rw [q2] at h; exact .inl ⟨e2, .inr rfl, h⟩
    | bk e2 => rw [q2] at h; exact .inr (.inl ⟨e2, rfl, h⟩)
    | ret x => rw [q2] at h; exact .inr (.inr ⟨x, rfl, ⟨h⟩⟩)
    | ex c e2 => rw [q2] at h; exact h.elim
    | stuck => rw [q2] at h; exact h.elim
theorem Is.ford {Q : Out → Prop} {b : Sl → Out} {t : Tgt} {its : List D} {e : Sl} {f : Sl → Out} (I : Nat → Sl → Prop) (h0 : I 0 e) (hs : ∀ i x e, its[i]? = some x → I i e → Is (Turn Q (I (i + 1)) f) (turnB b t x e)) (hd : ∀ e, I its.length e → Is Q (f e)) : Is Q ((forL b t its e).calm.seq f) := by
  refine forL_post (fun i e => I i e) (fun o => Is Q (o.calm.seq f)) its e 0 h0 (fun i x e hx hi => ?_) (fun e h => hd e (by rw [Nat.zero_add] at h; exact h))
  rw [Nat.zero_add] at hi ⊢
  have h := (hs i x e hx hi).out
  unfold turnB at h
  cases q : bindT t x e with
  | none => rw [q] at h; exact h.elim
  | some e1 =>
    rw [q] at h
    refine ⟨e1, rfl, ?_⟩
    simp only [] at h
    cases q2 : b e1 with
    | nx e2 => rw [q2] at h; exact .inl ⟨e2, .inl rfl, h⟩
    | ct e2 => rw [q2] at h; exact .inl ⟨e2, .inr rfl, h⟩
    | bk e2 => rw [q2] at h; exact .inr (.inl ⟨e2, rfl, h⟩)
    | ret x => rw [q2] at h; exact .inr (.inr ⟨x, rfl, ⟨h⟩⟩)
    | ex c e2 => rw [q2] at h; exact h.elim
    | stuck => rw [q2] at h; exact h.elim
/-- a loop that stands last -/
theorem Is.forE {Q : Out → Prop} {b : Sl → Out} {t : Tgt} {its : List D} {e : Sl} (I : Nat → Sl → Prop) (h0 : I 0 e) (hs : ∀ i x e, its[i]? = some x → I i e → Is (Turn Q (I (i + 1)) .nx) (turnB b t x e)) (hd : ∀ e, I its.length e → Is Q (.nx e)) : Is Q (forL b t its e) := by
  have := Is.for (f := .nx) I h0 hs hd
  have e2 : ∀ o : Out, o.seq .nx = o := fun o => by cases o <;> rfl
  rw [e2] at this
  exact this
/-- a while loop, by a measure -/
theorem Is.whl {Q : Out → Prop} {c : Sl → Res D} {b : Sl → Out} {f : Sl → Out} (I : Nat → Sl → Prop) (hs : ∀ n e, I n e → (c e = .ok (.bool false) ∧ Is Q (f e)) ∨ (c e = .ok (.bool true) ∧ Is (Turn Q (fun e' => ∃ m, m < n ∧ I m e') f) (b e))) : ∀ (F : Nat) (e : Sl) (n : Nat), I n e → n < F → Is Q ((whileF c b F e).seq f)
  | 0, _, _, _, h => absurd h (Nat.not_lt_zero _)
  | F + 1, e, n, h0, hn => by
    rcases hs n e h0 with ⟨h1, h2⟩ | ⟨h1, h2⟩
    · have : whileF c b (F + 1) e = .nx e := by simp only [whileF, h1, Out.ofR_ok]
      rw [this]; exact h2
    · have : whileF c b (F + 1) e = (b e).turn fun e2 => whileF c b F e2 := by simp only [whileF, h1, Out.ofR_ok]
      rw [this]
      replace h2 := h2.out
      cases q : b e with
      | nx e2 => rw [q] at h2; obtain ⟨m, hm, hi⟩ := h2; exact Is.whl I hs F e2 m hi (by omega)
      | ct e2 => rw [q] at h2; obtain ⟨m, hm, hi⟩ := h2; exact Is.whl I hs F e2 m hi (by omega)
      | bk e2 => rw [q] at h2; exact h2
      | ret x => rw [q] at h2; exact ⟨h2⟩
      | ex c e2 => rw [q] at h2; exact h2.elim
      | stuck => rw [q] at h2; exact h2.elim
@[simp] theorem x_whl {c : Exp} {b : List Stm} {Φ : FT} {F : Nat} {e : Sl} : exec Φ F (.whl c b) e = whileF (ev Φ c) (execs Φ F b) F e := by simp only [exec]
def augK (i : Nat) (op : BOp) (e : Sl) (x y : D) : Out := match augD op x y with
  | some z => .nx (e.set i (.d z))
  | none => .stuck
def augS (Φ : FT) (i : Nat) (op : BOp) (a : Exp) (e : Sl) : Option Slot → Out
  | some (.d x) => Out.ofR (ev Φ a e) e (augK i op e x)
  | _ => .stuck
@[simp] theorem augS_d {Φ : FT} {i : Nat} {op : BOp} {a : Exp} {e : Sl} {x : D} : augS Φ i op a e (some (.d x)) = Out.ofR (ev Φ a e) e (augK i op e x) := id rfl
@[simp] theorem x_aug {Φ : FT} {F i : Nat} {op : BOp} {a : Exp} {e : Sl} : exec Φ F (.aug i op a) e = augS Φ i op a e e[i]? := by
  simp only [exec]
  cases e[i]? with
  | none => rfl
  | some s => cases s <;> rfl
@[simp] theorem augK_add {i : Nat} {e : Sl} {x y : Int} : augK i .add e (.int x) (.int y) = .nx (e.set i (.d (.int (x + y)))) := id rfl
@[simp] theorem augK_sub {i : Nat} {e : Sl} {x y : Int} : augK i .sub e (.int x) (.int y) = .nx (e.set i (.d (.int (x - y)))) := id rfl
@[simp] theorem augK_div {i : Nat} {e : Sl} {x y : Int} (h : 0 < y) (h2 : y < 1073741824) : augK i .fdiv e (.int x) (.int y) = .nx (e.set i (.d (.int (x / y)))) := by
  simp only [augK, augD, binD, if_pos (And.intro h h2)]
@[simp] theorem x_rse {Φ : FT} {F c : Nat} {e : Sl} : exec Φ F (.rse c) e = .ex c e := by simp only [exec]
/-- what is asked of the run of a def that may raise -/
def RetX (Q : D → Prop) (X : Nat → Prop) : Out → Prop
  | .ret x => Q x
  | .ex c _ => X c
  | _ => False
@[simp] theorem RetX_ret {Q : D → Prop} {X : Nat → Prop} {x : D} : Is (RetX Q X) (.ret x) = Q x := is_eq
@[simp] theorem RetX_ex {Q : D → Prop} {X : Nat → Prop} {c : Nat} {e : Sl} : Is (RetX Q X) (.ex c e) = X c := is_eq
theorem Is.run {fn : Fdef} {Φ : FT} {F : Nat} {args : List D} {Q : Res D → Prop} (hl : args.length = fn.np) (h : Is (fun o => match o with | .ret x => Q (.ok x) | .nx _ => Q (.ok .none) | .ex c _ => Q (.ex c) | _ => False) (execs Φ F fn.body (args.map .d ++ List.replicate (fn.ns - fn.np) .un))) : Q (fn.run Φ F args) := by
  unfold Fdef.run
  rw [if_pos hl]
  replace h := h.out
  cases q : execs Φ F fn.body (args.map .d ++ List.replicate (fn.ns - fn.np) .un) <;> rw [q] at h <;> first | exact h | exact h.elim
def Ret (Q : D → Prop) : Out → Prop
  | .ret x => Q x
  | _ => False
@[simp] theorem Ret_ret {Q : D → Prop} {x : D} : Is (Ret Q) (.ret x) = Q x := is_eq
/-- a def that ends with return -/
theorem run_of {fn : Fdef} {Φ : FT} {F : Nat} {args : List D} {Q : D → Prop} (hl : args.length = fn.np) (h : Is (Ret Q) (execs Φ F fn.body (args.map .d ++ List.replicate (fn.ns - fn.np) .un))) : ∃ x, fn.run Φ F args = .ok x ∧ Q x := by
  unfold Fdef.run
  rw [if_pos hl]
  replace h := h.out
  cases q : execs Φ F fn.body (args.map .d ++ List.replicate (fn.ns - fn.np) .un) with
  | ret x => rw [q] at h; exact ⟨x, rfl, h⟩
  | _ => rw [q] at h; exact h.elim
/-- the run of a def -/
theorem phi_succ {T : List Fdef} {F n i : Nat} {fn : Fdef} {args : List D} (h : T[i]? = some fn) : phi T F (n + 1) i args = fn.run (phi T F n) F args := by simp only [phi, h]
theorem run_ret {fn : Fdef} {Φ : FT} {F : Nat} {args : List D} {x : D} (hl : args.length = fn.np) (h : execs Φ F fn.body (args.map .d ++ List.replicate (fn.ns - fn.np) .un) = .ret x) : fn.run Φ F args = .ok x := by
  unfold Fdef.run
  rw [if_pos hl, h]
/-! dicts keyed by tuples -/
section
variable {Φ : FT} {F : Nat} {e : Sl}
def tinV (kvs : List (D × D)) (y : D) : Res D := if (tkeyD y).isSome then .ok (.bool (lookD kvs y).isSome) else .stuck
def tniV (kvs : List (D × D)) (y : D) : Res D := if (tkeyD y).isSome then .ok (.bool (!(lookD kvs y).isSome)) else .stuck
def tgetV (kvs : List (D × D)) (y : D) : Res D := if (tkeyD y).isSome then .of (lookD kvs y) else .stuck
def tinK (Φ : FT) (k : Exp) (e : Sl) (v : List (D × D) → D → Res D) : Option Slot → Res D
  | some (.ot kvs) => (ev Φ k e).bind (v kvs)
  | _ => .stuck
@[simp] theorem tinK_o {k : Exp} {v : List (D × D) → D → Res D} {kvs : List (D × D)} : tinK Φ k e v (some (.ot kvs)) = (ev Φ k e).bind (v kvs) := id rfl
@[simp] theorem e_tin {i : Nat} {k : Exp} : ev Φ (.tin i k) e = tinK Φ k e tinV e[i]? := by
  simp only [ev]
  cases e[i]? with
  | none => rfl
  | some s => cases s <;> rfl
@[simp] theorem e_tni {i : Nat} {k : Exp} : ev Φ (.tni i k) e = tinK Φ k e tniV e[i]? := by
  simp only [ev]
  cases e[i]? with
  | none => rfl
  | some s => cases s <;> rfl
@[simp] theorem e_tget {i : Nat} {k : Exp} : ev Φ (.tget i k) e = tinK Φ k e tgetV e[i]? := by
  simp only [ev]
  cases e[i]? with
  | none => rfl
  | some s => cases s <;> rfl
@[simp] theorem x_towe {i : Nat} (h : i < e.length) : exec Φ F (.towe i) e = .nx (e.set i (.ot [])) := by simp only [exec, if_pos h]
def towpK (i : Nat) (e : Sl) (y x : D) : Out := if (tkeyD y).isSome ∧ flatD x ∧ i < e.length then .nx (e.set i (.ot [(y, x)])) else .stuck
@[simp] theorem x_towp {i : Nat} {k a : Exp} : exec Φ F (.towp i k a) e = Out.ofR (ev Φ k e) e fun y => Out.ofR (ev Φ a e) e (towpK i e y) := by simp only [exec]; rfl
theorem towpK_ok {i : Nat} {y : D} {x : Int} (h : (tkeyD y).isSome) (hl : i < e.length) : towpK i e y (.int x) = .nx (e.set i (.ot [(y, .int x)])) := by
  unfold towpK
  rw [if_pos ⟨h, rfl, hl⟩]
def tsetK (i : Nat) (e : Sl) (kvs : List (D × D)) (x : D) (k : D) : Out := if (tkeyD k).isSome ∧ kvs.length < line then .nx (e.set i (.ot (putD kvs k x))) else .stuck
def tsetS (Φ : FT) (i : Nat) (k a : Exp) (e : Sl) : Option Slot → Out
  | some (.ot kvs) => Out.ofR (ev Φ a e) e fun x => Out.ofR (ev Φ k e) e (tsetK i e kvs x)
  | _ => .stuck
@[simp] theorem tsetS_d {i : Nat} {k a : Exp} {kvs : List (D × D)} : tsetS Φ i k a e (some (.ot kvs)) = Out.ofR (ev Φ a e) e fun x => Out.ofR (ev Φ k e) e (tsetK i e kvs x) := id rfl
theorem tsetK_ok {i : Nat} {kvs : List (D × D)} {x k : D} (hk : (tkeyD k).isSome) (h : kvs.length < line) : tsetK i e kvs x k = .nx (e.set i (.ot (putD kvs k x))) := by
  unfold tsetK
  rw [if_pos ⟨hk, h⟩]
@[simp] theorem x_tset {i : Nat} {k a : Exp} : exec Φ F (.tset i k a) e = tsetS Φ i k a e e[i]? := by
  simp only [exec]
  cases e[i]? with
  | none => rfl
  | some s => cases s <;> rfl
end
end
end Rf

set_option maxRecDepth 100000
set_option maxHeartbeats 2000000
namespace My
open PySem PySem.Spec PyProof.Rows L2 Rf
/-! ### the text of the law -/
def topS (i : Nat) : Stmt := PySem.Challenge.pw_sandreckoner_k36_cycles_of_states.main.body.getD i (.Pass ⟨0, 0, 0, 0⟩)
abbrev s0 : Stmt := topS 10
abbrev N0 : List Str := ["number", "_", "exponent"]
abbrev p0 : List Str := ["number"]
def x0_1 : Exp := (.call 0 [(.var 2)])
/-- size_of -/
def b0 : List Stm := [(.ret (.bin .add (.con (.int 1)) (.blt .sum [(.comp x0_1 (.tp [(.nm 1), (.nm 2)]) .tup [(.var 0)] [])])))]
abbrev s1 : Stmt := topS 11
abbrev N1 : List Str := ["number", "_", "exponent"]
abbrev p1 : List Str := ["number"]
def x1_1 : Exp := (.call 1 [(.var 2)])
/-- height_of -/
def b1 : List Stm := [(.ifs (.cmp .eq (.blt .len [(.var 0)]) (.con (.int 0))) [(.ret (.con (.int 0)))] []), (.ret (.bin .add (.con (.int 1)) (.blt .max [(.comp x1_1 (.tp [(.nm 1), (.nm 2)]) .tup [(.var 0)] [])])))]
abbrev s2 : Stmt := topS 12
abbrev N2 : List Str := ["first", "second", "sign", "exponent", "other_sign", "other", "order"]
abbrev p2 : List Str := ["first", "second"]
def b2_1 : List Stm := [(.ifs (.cmp .ne (.var 2) (.var 4)) [(.ret (.var 2))] []), (.asg (.nm 6) (.call 2 [(.var 3), (.var 5)])), (.ifs (.cmp .ne (.var 6) (.con (.int 0))) [(.ret (.bin .mul (.var 6) (.var 2)))] [])]
/-- compare -/
def b2 : List Stm := [(.ifs (.cmp .eq (.var 0) (.var 1)) [(.ret (.con (.int 0)))] []), (.for (.tp [(.tp [(.nm 2), (.nm 3)]), (.tp [(.nm 4), (.nm 5)])]) .zip [(.var 0), (.var 1)] b2_1), (.ifs (.cmp .gt (.blt .len [(.var 0)]) (.blt .len [(.var 1)])) [(.ret (.idx (.idx (.var 0) (.blt .len [(.var 1)])) (.con (.int 0))))] []), (.ret (.neg (.idx (.idx (.var 1) (.blt .len [(.var 0)])) (.con (.int 0)))))]
abbrev s3 : Stmt := topS 13
abbrev N3 : List Str := ["number"]
abbrev p3 : List Str := ["number"]
/-- sign_of -/
def b3 : List Stm := [(.ifs (.cmp .eq (.blt .len [(.var 0)]) (.con (.int 0))) [(.ret (.con (.int 0)))] []), (.ret (.idx (.idx (.var 0) (.con (.int 0))) (.con (.int 0))))]
abbrev s4 : Stmt := topS 14
abbrev N4 : List Str := ["value", "terms", "place", "sign"]
abbrev p4 : List Str := ["value"]
def b4_1 : List Stm := [(.ifs (.cmp .eq (.bin .mod (.var 0) (.con (.int 2))) (.con (.int 1))) [(.asg (.nm 3) (.ite (.cmp .eq (.bin .mod (.var 0) (.con (.int 4))) (.con (.int 1))) (.con (.int 1)) (.neg (.con (.int 1))))), (.app 1 (.tup [(.var 3), (.call 4 [(.var 2)])])), (.aug 0 .sub (.var 3))] []), (.aug 0 .fdiv (.con (.int 2))), (.aug 2 .add (.con (.int 1)))]
def x4_2 : Exp := (.cmp .ne (.var 0) (.con (.int 0)))
/-- from_int -/
def b4 : List Stm := [(.own 1 (.lst [])), (.asg (.nm 2) (.con (.int 0))), (.whl x4_2 b4_1), (.ret (.blt .tuple [(.rev (.vw 1))]))]
abbrev s5 : Stmt := topS 15
abbrev N5 : List Str := ["number"]
abbrev p5 : List Str := ["number"]
/-- is_allowed -/
def b5 : List Stm := [(.ret (.and (.cmp .le (.call 0 [(.var 0)]) (.con (.int 300))) (.cmp .le (.call 1 [(.var 0)]) (.con (.int 40)))))]
abbrev s6 : Stmt := topS 16
abbrev N6 : List Str := ["number"]
abbrev p6 : List Str := ["number"]
/-- allowed -/
def b6 : List Stm := [(.ifs (.not (.call 5 [(.var 0)])) [(.rse 2)] []), (.ret (.var 0))]
abbrev s7 : Stmt := topS 17
abbrev N7 : List Str := ["value"]
abbrev p7 : List Str := ["value"]
/-- of_int -/
def b7 : List Stm := [(.ifs (.cmp .gt (.mth .bits (.var 0) []) (.con (.int 2900))) [(.rse 1)] []), (.ret (.call 6 [(.call 4 [(.var 0)])]))]
abbrev s8 : Stmt := topS 18
abbrev N8 : List Str := ["count", "value", "_"]
abbrev p8 : List Str := ["count"]
def b8_1 : List Stm := [(.aug 1 .mul (.con (.int 2)))]
/-- power_of_two -/
def b8 : List Stm := [(.asg (.nm 1) (.con (.int 1))), (.for (.nm 2) .rng [(.var 0)] b8_1), (.ret (.var 1))]
abbrev s9 : Stmt := topS 19
abbrev N9 : List Str := ["number", "most", "value", "sign", "exponent"]
abbrev p9 : List Str := ["number"]
def b9_1 : List Stm := [(.ifs (.cmp .gt (.call 2 [(.var 4), (.var 1)]) (.con (.int 0))) [(.rse 1)] []), (.aug 2 .add (.bin .mul (.var 3) (.call 8 [(.call 9 [(.var 4)])])))]
/-- to_int -/
def b9 : List Stm := [(.asg (.nm 1) (.call 4 [(.con (.int 64))])), (.asg (.nm 2) (.con (.int 0))), (.for (.tp [(.nm 3), (.nm 4)]) .tup [(.var 0)] b9_1), (.ifs (.cmp .ge (.blt .abs [(.var 2)]) (.call 8 [(.con (.int 64))])) [(.rse 1)] []), (.ret (.var 2))]
abbrev s10 : Stmt := topS 22
abbrev N10 : List Str := ["m"]
abbrev p10 : List Str := ["m"]
/-- check_modulus_remainders -/
def b10 : List Stm := [(.ifs (.or (.cmp .lt (.var 0) (.con (.int 1))) (.cmp .gt (.var 0) (.con (.int 10000)))) [(.rse 1)] [])]
abbrev s11 : Stmt := topS 24
abbrev N11 : List Str := ["m", "row", "seen", "power"]
abbrev p11 : List Str := ["m"]
def b11_1 : List Stm := [(.setd 2 (.var 3) (.blt .len [(.vw 1)])), (.app 1 (.var 3)), (.asg (.nm 3) (.bin .mod (.bin .mul (.var 3) (.con (.int 2))) (.var 0)))]
def x11_2 : Exp := (.cmp .notin (.var 3) (.vw 2))
/-- row_of_two -/
def b11 : List Stm := [(.own 1 (.lst [])), (.own 2 .emp), (.asg (.nm 3) (.bin .mod (.con (.int 1)) (.var 0))), (.whl x11_2 b11_1), (.ret (.tup [(.vw 1), (.idx (.vw 2) (.var 3))]))]
abbrev s12 : Stmt := topS 26
abbrev N12 : List Str := ["x", "m"]
abbrev p12 : List Str := ["x", "m"]
/-- remainder -/
def b12 : List Stm := [(.expr (.call 10 [(.var 1)])), (.ret (.onew 33 [(.var 0), (.var 1)]))]
abbrev s13 : Stmt := topS 30
abbrev N13 : List Str := ["m"]
abbrev p13 : List Str := ["m"]
/-- check_modulus_turns -/
def b13 : List Stm := [(.ifs (.or (.cmp .lt (.var 0) (.con (.int 1))) (.cmp .gt (.var 0) (.con (.int 12)))) [(.rse 1)] [])]
abbrev s14 : Stmt := topS 32
abbrev N14 : List Str := ["times"]
abbrev p14 : List Str := ["times"]
/-- check_times -/
def b14 : List Stm := [(.ifs (.cmp .lt (.call 3 [(.var 0)]) (.con (.int 0))) [(.rse 1)] [])]
abbrev s15 : Stmt := topS 33
abbrev N15 : List Str := ["table", "state", "m", "a", "b", "c", "row"]
abbrev p15 : List Str := ["table", "state", "m"]
def x15_1 : Exp := (.bin .mod (.bin .add (.bin .add (.bin .add (.bin .mul (.idx (.var 6) (.con (.int 0))) (.var 3)) (.bin .mul (.idx (.var 6) (.con (.int 1))) (.var 4))) (.bin .mul (.idx (.var 6) (.con (.int 2))) (.var 5))) (.idx (.var 6) (.con (.int 3)))) (.var 2))
/-- turned -/
def b15 : List Stm := [(.asg (.tp [(.nm 3), (.nm 4), (.nm 5)]) (.var 1)), (.ret (.blt .tuple [(.comp x15_1 (.nm 6) .tup [(.var 0)] [])]))]
abbrev s16 : Stmt := topS 34
abbrev N16 : List Str := ["table", "start", "m", "state", "places", "states", "value"]
abbrev p16 : List Str := ["table", "start", "m"]
def x16_1 : Exp := (.bin .mod (.var 6) (.var 2))
def b16_2 : List Stm := [(.tset 4 (.var 3) (.blt .len [(.vw 5)])), (.app 5 (.var 3)), (.asg (.nm 3) (.call 15 [(.var 0), (.var 3), (.var 2)]))]
def x16_3 : Exp := (.tni 4 (.var 3))
/-- states_of -/
def b16 : List Stm := [(.asg (.nm 3) (.blt .tuple [(.comp x16_1 (.nm 6) .tup [(.var 1)] [])])), (.towe 4), (.own 5 (.lst [])), (.whl x16_3 b16_2), (.ret (.tup [(.vw 5), (.tget 4 (.var 3))]))]
abbrev s17 : Stmt := topS 35
abbrev N17 : List Str := ["table", "start", "m", "states", "lead"]
abbrev p17 : List Str := ["table", "start", "m"]
/-- cycle_of -/
def b17 : List Stm := [(.expr (.call 13 [(.var 2)])), (.asg (.tp [(.nm 3), (.nm 4)]) (.call 16 [(.var 0), (.var 1), (.var 2)])), (.ret (.tup [(.var 4), (.bin .sub (.blt .len [(.var 3)]) (.var 4))]))]
abbrev s18 : Stmt := topS 36
abbrev N18 : List Str := ["table", "start", "times", "m", "states", "lead", "period"]
abbrev p18 : List Str := ["table", "start", "times", "m"]
/-- state_at -/
def b18 : List Stm := [(.asg (.tp [(.nm 4), (.nm 5)]) (.call 16 [(.var 0), (.var 1), (.var 3)])), (.ifs (.cmp .lt (.call 2 [(.var 2), (.call 4 [(.blt .len [(.var 4)])])]) (.con (.int 0))) [(.ret (.idx (.var 4) (.call 9 [(.var 2)])))] []), (.asg (.nm 6) (.bin .sub (.blt .len [(.var 4)]) (.var 5))), (.ret (.idx (.var 4) (.bin .add (.var 5) (.bin .mod (.bin .sub (.call 12 [(.var 2), (.var 6)]) (.var 5)) (.var 6)))))]
abbrev s19 : Stmt := topS 37
abbrev N19 : List Str := ["table", "start", "times", "m"]
abbrev p19 : List Str := ["table", "start", "times", "m"]
/-- state_behind -/
def b19 : List Stm := [(.expr (.call 13 [(.var 3)])), (.expr (.call 14 [(.var 2)])), (.ret (.call 18 [(.var 0), (.var 1), (.var 2), (.var 3)]))]
abbrev s20 : Stmt := topS 38
abbrev N20 : List Str := ["first", "second", "m", "rows", "row", "values", "at", "k", "value"]
abbrev p20 : List Str := ["first", "second", "m"]
/-- joined -/
def b20 : List Stm := [(.expr (.call 13 [(.var 2)])), .stop]
abbrev s21 : Stmt := topS 39
abbrev N21 : List Str := ["table", "times", "m", "zero", "ends", "rows", "at", "start", "end"]
abbrev p21 : List Str := ["table", "times", "m"]
/-- table_behind -/
def b21 : List Stm := [(.expr (.call 13 [(.var 2)])), (.expr (.call 14 [(.var 1)])), .stop]
abbrev s22 : Stmt := topS 41
abbrev N22 : List Str := ["_law_script", "_law_k"]
abbrev p22 : List Str := ["_law_script", "_law_k"]
/-- cell -/
def b22 : List Stm := [(.ifs (.cmp .lt (.var 1) (.blt .len [(.var 0)])) [(.ret (.idx (.var 0) (.var 1)))] []), (.ret (.con (.int 0)))]
abbrev s23 : Stmt := topS 42
abbrev N23 : List Str := ["_law_cell_here", "_law_k", "_law_many", "_law_numbers_here", "_law_rest", "_law_j", "_law_mixed", "_law_twice"]
abbrev p23 : List Str := ["_law_cell_here", "_law_k", "_law_many"]
def b23_1 : List Stm := [(.app 3 (.bin .mod (.blt .int [(.var 4)]) (.con (.int 1000)))), (.asg (.nm 4) (.bin .fdiv (.var 4) (.con (.int 1000))))]
def b23_2 : List Stm := [(.asg (.nm 6) (.bin .mod (.blt .int [(.bin .add (.bin .add (.bin .mul (.var 6) (.con (.int 16807))) (.bin .mul (.var 5) (.con (.int 7919)))) (.con (.int 13)))]) (.con (.int 2147483647)))), (.asg (.nm 7) (.bin .mod (.blt .int [(.bin .add (.bin .add (.bin .mul (.var 6) (.var 6)) (.bin .mul (.var 1) (.con (.int 31)))) (.var 5))]) (.con (.int 1000000007)))), (.app 3 (.bin .mod (.blt .int [(.bin .fdiv (.var 7) (.con (.int 101)))]) (.con (.int 1000))))]
/-- numbers -/
def b23 : List Stm := [(.own 3 (.lst [])), (.ifs (.cmp .ge (.var 0) (.bin .pow (.con (.int 10)) (.con (.int 18)))) [(.asg (.nm 4) (.var 0)), (.for (.nm 5) .rng [(.var 2)] b23_1), (.ret (.vw 3))] []), (.asg (.nm 6) (.bin .mod (.blt .int [(.bin .add (.bin .add (.bin .mul (.var 0) (.con (.int 48271))) (.bin .mul (.var 1) (.con (.int 69621)))) (.con (.int 11)))]) (.con (.int 2147483647)))), (.for (.nm 5) .rng [(.var 2)] b23_2), (.ret (.vw 3))]
abbrev s24 : Stmt := topS 43
abbrev N24 : List Str := ["_law_numbers_here", "_law_at", "_law_pick"]
abbrev p24 : List Str := ["_law_numbers_here", "_law_at"]
/-- entry -/
def b24 : List Stm := [(.asg (.nm 2) (.blt .int [(.idx (.var 0) (.bin .mod (.blt .int [(.var 1)]) (.blt .len [(.var 0)])))])), (.ifs (.cmp .eq (.bin .mod (.blt .int [(.var 2)]) (.con (.int 11))) (.con (.int 5))) [(.ret (.bin .add (.bin .mul (.bin .sub (.var 2) (.con (.int 500))) (.bin .pow (.con (.int 10)) (.con (.int 17)))) (.var 2)))] []), (.ret (.idx (.lst [(.bin .sub (.bin .mod (.blt .int [(.var 2)]) (.con (.int 61))) (.con (.int 30))), (.bin .sub (.bin .mod (.blt .int [(.var 2)]) (.con (.int 7))) (.con (.int 3))), (.con (.int 0))]) (.bin .mod (.bin .fdiv (.var 2) (.con (.int 61))) (.con (.int 3)))))]
abbrev s25 : Stmt := topS 44
abbrev N25 : List Str := ["_law_numbers_here", "_law_at", "_law_factor", "_law_rows", "_law_k", "_law_row", "_law_j"]
abbrev p25 : List Str := ["_law_numbers_here", "_law_at"]
def x25_1 : Exp := (.bin .mul (.var 2) (.call 24 [(.var 0), (.bin .add (.bin .add (.var 1) (.bin .mul (.con (.int 4)) (.var 4))) (.var 6))]))
def b25_2 : List Stm := [(.asg (.nm 5) (.comp x25_1 (.nm 6) .rng [(.con (.int 3))] [])), (.app 3 (.blt .tuple [(.bin .add (.var 5) (.lst [(.call 24 [(.var 0), (.bin .add (.bin .add (.var 1) (.bin .mul (.con (.int 4)) (.var 4))) (.con (.int 3)))])]))]))]
/-- table -/
def b25 : List Stm := [(.asg (.nm 2) (.idx (.lst [(.con (.int 1)), (.con (.int 1)), (.con (.int 1)), (.con (.int 2)), (.con (.int 3)), (.con (.int 6))]) (.bin .mod (.blt .int [(.idx (.var 0) (.bin .mod (.blt .int [(.var 1)]) (.blt .len [(.var 0)])))]) (.con (.int 6))))), (.own 3 (.lst [])), (.for (.nm 4) .rng [(.con (.int 3))] b25_2), (.ret (.blt .tuple [(.vw 3)]))]
abbrev s26 : Stmt := topS 45
abbrev N26 : List Str := ["_law_table_here", "_law_state", "_law_m", "_law_values", "_law_row", "_law_total", "_law_k"]
abbrev p26 : List Str := ["_law_table_here", "_law_state", "_law_m"]
def b26_1 : List Stm := [(.asg (.nm 5) (.bin .add (.var 5) (.bin .mul (.idx (.var 4) (.var 6)) (.idx (.var 1) (.var 6)))))]
def b26_2 : List Stm := [(.asg (.nm 5) (.idx (.var 4) (.con (.int 3)))), (.for (.nm 6) .rng [(.con (.int 3))] b26_1), (.app 3 (.bin .mod (.blt .int [(.var 5)]) (.var 2)))]
/-- turned -/
def b26 : List Stm := [(.own 3 (.lst [])), (.for (.nm 4) .tup [(.var 0)] b26_2), (.ret (.blt .tuple [(.vw 3)]))]
abbrev s27 : Stmt := topS 46
abbrev N27 : List Str := ["_law_table_here", "_law_start", "_law_m", "_law_states", "_law_seen", "_law_k", "_law_state", "_law_value"]
abbrev p27 : List Str := ["_law_table_here", "_law_start", "_law_m"]
def x27_1 : Exp := (.bin .mod (.blt .int [(.var 7)]) (.var 2))
def b27_2 : List Stm := [(.asg (.nm 6) (.call 26 [(.var 0), (.idx (.vw 3) (.neg (.con (.int 1)))), (.var 2)])), (.ifs (.tin 4 (.var 6)) [(.ret (.tup [(.vw 3), (.tget 4 (.var 6)), (.bin .sub (.var 5) (.tget 4 (.var 6)))]))] []), (.tset 4 (.var 6) (.var 5)), (.app 3 (.var 6))]
/-- cycle -/
def b27 : List Stm := [(.own 3 (.lst [(.blt .tuple [(.comp x27_1 (.nm 7) .tup [(.var 1)] [])])])), (.towp 4 (.idx (.vw 3) (.con (.int 0))) (.con (.int 0))), (.for (.nm 5) .rng [(.con (.int 1)), (.con (.int 1730))] b27_2), (.ret (.tup [(.vw 3), (.con (.int 0)), (.con (.int 0))]))]
abbrev s28 : Stmt := topS 47
abbrev N28 : List Str := ["_law_door", "_law_m", "_law_times", "_law_table_here", "e"]
abbrev p28 : List Str := ["_law_door", "_law_m", "_law_times"]
/-- refused -/
def b28 : List Stm := [(.asg (.nm 3) (.tup [(.tup [(.con (.int 1)), (.con (.int 0)), (.con (.int 0)), (.con (.int 0))]), (.tup [(.con (.int 0)), (.con (.int 1)), (.con (.int 0)), (.con (.int 0))]), (.tup [(.con (.int 0)), (.con (.int 0)), (.con (.int 1)), (.con (.int 1))])])), (.tri 4 [(.ifs (.cmp .eq (.var 0) (.con (.int 0))) [(.expr (.call 17 [(.var 3), (.tup [(.con (.int 0)), (.con (.int 0)), (.con (.int 0))]), (.var 1)]))] [(.ifs (.cmp .eq (.var 0) (.con (.int 1))) [(.expr (.call 19 [(.var 3), (.tup [(.con (.int 0)), (.con (.int 0)), (.con (.int 0))]), (.call 7 [(.var 2)]), (.var 1)]))] [(.ifs (.cmp .eq (.var 0) (.con (.int 2))) [(.expr (.call 20 [(.var 3), (.var 3), (.var 1)]))] [(.expr (.call 21 [(.var 3), (.call 7 [(.var 2)]), (.var 1)]))])])])] [2] [(1, .bool true)]), (.ret (.con (.bool false)))]
abbrev s29 : Stmt := topS 48
abbrev N29 : List Str := ["_law_script", "_law_k", "_law_numbers_here", "_law_table_here", "_law_start", "_law_m", "_law_states", "_law_lead", "_law_period", "_law_times", "_law_place", "_law_told", "_law_door", "_law_j"]
abbrev p29 : List Str := ["_law_script"]
def x29_1 : Exp := (.call 24 [(.var 2), (.bin .add (.con (.int 12)) (.var 13))])
def b29_2 : List Stm := [(.asg (.nm 2) (.call 23 [(.call 22 [(.var 0), (.var 1)]), (.var 1), (.con (.int 24))])), (.asg (.nm 3) (.call 25 [(.var 2), (.con (.int 0))])), (.asg (.nm 4) (.blt .tuple [(.comp x29_1 (.nm 13) .rng [(.con (.int 3))] [])])), (.asg (.nm 5) (.bin .add (.con (.int 1)) (.bin .mod (.blt .int [(.idx (.var 2) (.con (.int 20)))]) (.idx (.lst [(.con (.int 12)), (.con (.int 5))]) (.bin .mod (.blt .int [(.idx (.var 2) (.con (.int 21)))]) (.con (.int 2))))))), (.asg (.tp [(.nm 6), (.nm 7), (.nm 8)]) (.call 27 [(.var 3), (.var 4), (.var 5)])), (.ifs (.cmp .ne (.call 17 [(.var 3), (.var 4), (.var 5)]) (.tup [(.var 7), (.var 8)])) [(.ret (.con (.bool false)))] []), (.asg (.nm 9) (.bin .mod (.blt .int [(.idx (.var 2) (.con (.int 22)))]) (.con (.int 61)))), (.asg (.nm 10) (.var 9)), (.ifs (.cmp .ge (.var 9) (.blt .len [(.var 6)])) [(.asg (.nm 10) (.bin .add (.var 7) (.bin .mod (.blt .int [(.bin .sub (.var 9) (.var 7))]) (.var 8))))] []), (.asg (.nm 11) (.call 19 [(.var 3), (.var 4), (.call 7 [(.var 9)]), (.var 5)])), (.ifs (.or (.not (.blt (.isi 3) [(.var 11)])) (.cmp .ne (.var 11) (.idx (.var 6) (.var 10)))) [(.ret (.con (.bool false)))] [])]
def b29_3 : List Stm := [(.ifs (.not (.call 28 [(.var 12), (.var 5), (.con (.int 3))])) [(.ret (.con (.bool false)))] [])]
def b29_4 : List Stm := [(.for (.nm 12) .rng [(.con (.int 4))] b29_3)]
/-- law -/
def b29 : List Stm := [(.for (.nm 1) .rng [(.blt .max [(.con (.int 1)), (.blt .min [(.blt .len [(.var 0)]), (.con (.int 5))])])] b29_2), (.for (.nm 5) .tup [(.tup [(.con (.int 0)), (.con (.int 13)), (.neg (.con (.int 5)))])] b29_4), (.ret (.and (.call 28 [(.con (.int 1)), (.con (.int 5)), (.neg (.con (.int 1)))]) (.and (.call 28 [(.con (.int 3)), (.con (.int 5)), (.neg (.con (.int 9)))]) (.cmp .eq (.con (.int 12)) (.con (.int 12))))))]
abbrev s30 : Stmt := inClass (topS 25) 1
abbrev N30 : List Str := ["self", "m"]
abbrev p30 : List Str := ["self", "m"]
/-- Powers.row -/
def b30 : List Stm := bodyR 11
abbrev s31 : Stmt := inClass (topS 25) 2
abbrev N31 : List Str := ["self", "exponent", "m", "row", "lead", "period"]
abbrev p31 : List Str := ["self", "exponent", "m"]
/-- Powers.power -/
def b31 : List Stm := [.obj 0, .chk, (.asg (.tp [(.nm 3), (.nm 4)]) (.call 30 [(.slf 0), (.var 2)])), .chk, (.ifs (.cmp .lt (.call 2 [(.var 1), (.call 4 [(.blt .len [(.var 3)])])]) (.con (.int 0))) [(.ret (.idx (.var 3) (.call 9 [(.var 1)])))] []), .chk, (.asg (.nm 5) (.bin .sub (.blt .len [(.var 3)]) (.var 4))), .chk, (.ret (.idx (.var 3) (.bin .add (.var 4) (.bin .mod (.bin .sub (.call 32 [(.slf 0), (.var 1), (.var 5)]) (.var 4)) (.var 5)))))]
abbrev s32 : Stmt := inClass (topS 25) 3
abbrev N32 : List Str := ["self", "number", "m", "total", "sign", "exponent"]
abbrev p32 : List Str := ["self", "number", "m"]
def b32_1 : List Stm := [.chk, (.aug 3 .add (.bin .mul (.var 4) (.call 31 [(.slf 0), (.var 5), (.var 2)]))), .chk]
/-- Powers.number -/
def b32 : List Stm := [.obj 0, .chk, (.asg (.nm 3) (.con (.int 0))), .chk, (.for (.tp [(.nm 4), (.nm 5)]) .tup [(.var 1)] b32_1), .chk, (.ret (.bin .mod (.var 3) (.var 2)))]
abbrev sI : Stmt := inClass (topS 25) 0
def b33 : List Stm := [.ret (.call 32 [.var 0, .var 1, .var 2])]
def TB : List Fdef := [⟨1, 3, b0⟩, ⟨1, 3, b1⟩, ⟨2, 7, b2⟩, ⟨1, 1, b3⟩, ⟨1, 4, b4⟩, ⟨1, 1, b5⟩, ⟨1, 1, b6⟩, ⟨1, 1, b7⟩, ⟨1, 3, b8⟩, ⟨1, 5, b9⟩, ⟨1, 1, b10⟩, ⟨1, 4, b11⟩, ⟨2, 2, b12⟩, ⟨1, 1, b13⟩, ⟨1, 1, b14⟩, ⟨3, 7, b15⟩, ⟨3, 7, b16⟩, ⟨3, 5, b17⟩, ⟨4, 7, b18⟩, ⟨4, 4, b19⟩, ⟨3, 9, b20⟩, ⟨3, 9, b21⟩, ⟨2, 2, b22⟩, ⟨3, 8, b23⟩, ⟨2, 3, b24⟩, ⟨2, 7, b25⟩, ⟨3, 7, b26⟩, ⟨3, 8, b27⟩, ⟨3, 5, b28⟩, ⟨1, 14, b29⟩, ⟨2, 2, b30⟩, ⟨3, 6, b31⟩, ⟨3, 6, b32⟩, ⟨3, 3, b33⟩]
end My

set_option maxRecDepth 100000
set_option maxHeartbeats 2000000
namespace My
open PySem PySem.Spec PyProof.Rows L2 Rf
theorem n0_0 : N0[0]? = some ("number" : Str) := by decide +kernel
theorem l0_0 : (defScope s0).names.lookup ("number" : Str) = some .local := by decide +kernel
theorem n0_1 : N0[1]? = some ("_" : Str) := by decide +kernel
theorem n0_2 : N0[2]? = some ("exponent" : Str) := by decide +kernel
theorem g0_sum : (defScope s0).names.lookup ("sum" : Str) = some .globalImplicit := by decide +kernel
theorem sc0 : FnScope N0 p0 (defScope s0) := ⟨rfl, rfl, rfl, by decide +kernel, rfl, by decide +kernel, by decide +kernel⟩
theorem n1_0 : N1[0]? = some ("number" : Str) := by decide +kernel
theorem l1_0 : (defScope s1).names.lookup ("number" : Str) = some .local := by decide +kernel
theorem g1_len : (defScope s1).names.lookup ("len" : Str) = some .globalImplicit := by decide +kernel
theorem n1_1 : N1[1]? = some ("_" : Str) := by decide +kernel
theorem n1_2 : N1[2]? = some ("exponent" : Str) := by decide +kernel
theorem g1_max : (defScope s1).names.lookup ("max" : Str) = some .globalImplicit := by decide +kernel
theorem sc1 : FnScope N1 p1 (defScope s1) := ⟨rfl, rfl, rfl, by decide +kernel, rfl, by decide +kernel, by decide +kernel⟩
theorem n2_0 : N2[0]? = some ("first" : Str) := by decide +kernel
theorem l2_0 : (defScope s2).names.lookup ("first" : Str) = some .local := by decide +kernel
theorem n2_1 : N2[1]? = some ("second" : Str) := by decide +kernel
theorem l2_1 : (defScope s2).names.lookup ("second" : Str) = some .local := by decide +kernel
theorem g2_zip : (defScope s2).names.lookup ("zip" : Str) = some .globalImplicit := by decide +kernel
theorem n2_2 : N2[2]? = some ("sign" : Str) := by decide +kernel
theorem l2_2 : (defScope s2).names.lookup ("sign" : Str) = some .local := by decide +kernel
theorem n2_3 : N2[3]? = some ("exponent" : Str) := by decide +kernel
theorem l2_3 : (defScope s2).names.lookup ("exponent" : Str) = some .local := by decide +kernel
theorem n2_4 : N2[4]? = some ("other_sign" : Str) := by decide +kernel
theorem l2_4 : (defScope s2).names.lookup ("other_sign" : Str) = some .local := by decide +kernel
theorem n2_5 : N2[5]? = some ("other" : Str) := by decide +kernel
theorem l2_5 : (defScope s2).names.lookup ("other" : Str) = some .local := by decide +kernel
theorem g2_compare : (defScope s2).names.lookup ("compare" : Str) = some .globalImplicit := by decide +kernel
theorem n2_6 : N2[6]? = some ("order" : Str) := by decide +kernel
theorem l2_6 : (defScope s2).names.lookup ("order" : Str) = some .local := by decide +kernel
theorem g2_len : (defScope s2).names.lookup ("len" : Str) = some .globalImplicit := by decide +kernel
theorem sc2 : FnScope N2 p2 (defScope s2) := ⟨rfl, rfl, rfl, by decide +kernel, rfl, by decide +kernel, by decide +kernel⟩
theorem n3_0 : N3[0]? = some ("number" : Str) := by decide +kernel
theorem l3_0 : (defScope s3).names.lookup ("number" : Str) = some .local := by decide +kernel
theorem g3_len : (defScope s3).names.lookup ("len" : Str) = some .globalImplicit := by decide +kernel
theorem sc3 : FnScope N3 p3 (defScope s3) := ⟨rfl, rfl, rfl, by decide +kernel, rfl, by decide +kernel, by decide +kernel⟩
theorem n4_1 : N4[1]? = some ("terms" : Str) := by decide +kernel
theorem l4_1 : (defScope s4).names.lookup ("terms" : Str) = some .local := by decide +kernel
theorem n4_2 : N4[2]? = some ("place" : Str) := by decide +kernel
theorem l4_2 : (defScope s4).names.lookup ("place" : Str) = some .local := by decide +kernel
theorem n4_0 : N4[0]? = some ("value" : Str) := by decide +kernel
theorem l4_0 : (defScope s4).names.lookup ("value" : Str) = some .local := by decide +kernel
theorem n4_3 : N4[3]? = some ("sign" : Str) := by decide +kernel
theorem l4_3 : (defScope s4).names.lookup ("sign" : Str) = some .local := by decide +kernel
theorem g4_from_int : (defScope s4).names.lookup ("from_int" : Str) = some .globalImplicit := by decide +kernel
theorem g4_tuple : (defScope s4).names.lookup ("tuple" : Str) = some .globalImplicit := by decide +kernel
theorem sc4 : FnScope N4 p4 (defScope s4) := ⟨rfl, rfl, rfl, by decide +kernel, rfl, by decide +kernel, by decide +kernel⟩
theorem n5_0 : N5[0]? = some ("number" : Str) := by decide +kernel
theorem l5_0 : (defScope s5).names.lookup ("number" : Str) = some .local := by decide +kernel
theorem g5_size_of : (defScope s5).names.lookup ("size_of" : Str) = some .globalImplicit := by decide +kernel
theorem g5_MAX_SIZE : (defScope s5).names.lookup ("MAX_SIZE" : Str) = some .globalImplicit := by decide +kernel
theorem g5_height_of : (defScope s5).names.lookup ("height_of" : Str) = some .globalImplicit := by decide +kernel
theorem g5_MAX_HEIGHT : (defScope s5).names.lookup ("MAX_HEIGHT" : Str) = some .globalImplicit := by decide +kernel
theorem sc5 : FnScope N5 p5 (defScope s5) := ⟨rfl, rfl, rfl, by decide +kernel, rfl, by decide +kernel, by decide +kernel⟩
theorem n6_0 : N6[0]? = some ("number" : Str) := by decide +kernel
theorem l6_0 : (defScope s6).names.lookup ("number" : Str) = some .local := by decide +kernel
theorem g6_is_allowed : (defScope s6).names.lookup ("is_allowed" : Str) = some .globalImplicit := by decide +kernel
theorem g6_TooLarge : (defScope s6).names.lookup ("TooLarge" : Str) = some .globalImplicit := by decide +kernel
theorem sc6 : FnScope N6 p6 (defScope s6) := ⟨rfl, rfl, rfl, by decide +kernel, rfl, by decide +kernel, by decide +kernel⟩
theorem n7_0 : N7[0]? = some ("value" : Str) := by decide +kernel
theorem l7_0 : (defScope s7).names.lookup ("value" : Str) = some .local := by decide +kernel
theorem g7_MAX_DIGITS : (defScope s7).names.lookup ("MAX_DIGITS" : Str) = some .globalImplicit := by decide +kernel
theorem g7_NotAllowed : (defScope s7).names.lookup ("NotAllowed" : Str) = some .globalImplicit := by decide +kernel
theorem g7_from_int : (defScope s7).names.lookup ("from_int" : Str) = some .globalImplicit := by decide +kernel
theorem g7_allowed : (defScope s7).names.lookup ("allowed" : Str) = some .globalImplicit := by decide +kernel
theorem sc7 : FnScope N7 p7 (defScope s7) := ⟨rfl, rfl, rfl, by decide +kernel, rfl, by decide +kernel, by decide +kernel⟩
theorem n8_1 : N8[1]? = some ("value" : Str) := by decide +kernel
theorem l8_1 : (defScope s8).names.lookup ("value" : Str) = some .local := by decide +kernel
theorem n8_0 : N8[0]? = some ("count" : Str) := by decide +kernel
theorem l8_0 : (defScope s8).names.lookup ("count" : Str) = some .local := by decide +kernel
theorem g8_range : (defScope s8).names.lookup ("range" : Str) = some .globalImplicit := by decide +kernel
theorem n8_2 : N8[2]? = some ("_" : Str) := by decide +kernel
theorem l8_2 : (defScope s8).names.lookup ("_" : Str) = some .local := by decide +kernel
theorem sc8 : FnScope N8 p8 (defScope s8) := ⟨rfl, rfl, rfl, by decide +kernel, rfl, by decide +kernel, by decide +kernel⟩
theorem g9_MAX_BINARY : (defScope s9).names.lookup ("MAX_BINARY" : Str) = some .globalImplicit := by decide +kernel
theorem g9_from_int : (defScope s9).names.lookup ("from_int" : Str) = some .globalImplicit := by decide +kernel
theorem n9_1 : N9[1]? = some ("most" : Str) := by decide +kernel
theorem l9_1 : (defScope s9).names.lookup ("most" : Str) = some .local := by decide +kernel
theorem n9_2 : N9[2]? = some ("value" : Str) := by decide +kernel
theorem l9_2 : (defScope s9).names.lookup ("value" : Str) = some .local := by decide +kernel
theorem n9_0 : N9[0]? = some ("number" : Str) := by decide +kernel
theorem l9_0 : (defScope s9).names.lookup ("number" : Str) = some .local := by decide +kernel
theorem n9_3 : N9[3]? = some ("sign" : Str) := by decide +kernel
theorem l9_3 : (defScope s9).names.lookup ("sign" : Str) = some .local := by decide +kernel
theorem n9_4 : N9[4]? = some ("exponent" : Str) := by decide +kernel
theorem l9_4 : (defScope s9).names.lookup ("exponent" : Str) = some .local := by decide +kernel
theorem g9_compare : (defScope s9).names.lookup ("compare" : Str) = some .globalImplicit := by decide +kernel
theorem g9_NotAllowed : (defScope s9).names.lookup ("NotAllowed" : Str) = some .globalImplicit := by decide +kernel
theorem g9_to_int : (defScope s9).names.lookup ("to_int" : Str) = some .globalImplicit := by decide +kernel
theorem g9_power_of_two : (defScope s9).names.lookup ("power_of_two" : Str) = some .globalImplicit := by decide +kernel
theorem g9_abs : (defScope s9).names.lookup ("abs" : Str) = some .globalImplicit := by decide +kernel
theorem sc9 : FnScope N9 p9 (defScope s9) := ⟨rfl, rfl, rfl, by decide +kernel, rfl, by decide +kernel, by decide +kernel⟩
theorem n10_0 : N10[0]? = some ("m" : Str) := by decide +kernel
theorem l10_0 : (defScope s10).names.lookup ("m" : Str) = some .local := by decide +kernel
theorem g10_MAX_MODULUS : (defScope s10).names.lookup ("MAX_MODULUS" : Str) = some .globalImplicit := by decide +kernel
theorem g10_NotAllowed : (defScope s10).names.lookup ("NotAllowed" : Str) = some .globalImplicit := by decide +kernel
theorem sc10 : FnScope N10 p10 (defScope s10) := ⟨rfl, rfl, rfl, by decide +kernel, rfl, by decide +kernel, by decide +kernel⟩
theorem n11_1 : N11[1]? = some ("row" : Str) := by decide +kernel
theorem l11_1 : (defScope s11).names.lookup ("row" : Str) = some .local := by decide +kernel
theorem n11_2 : N11[2]? = some ("seen" : Str) := by decide +kernel
theorem l11_2 : (defScope s11).names.lookup ("seen" : Str) = some .local := by decide +kernel
theorem n11_0 : N11[0]? = some ("m" : Str) := by decide +kernel
theorem l11_0 : (defScope s11).names.lookup ("m" : Str) = some .local := by decide +kernel
theorem n11_3 : N11[3]? = some ("power" : Str) := by decide +kernel
theorem l11_3 : (defScope s11).names.lookup ("power" : Str) = some .local := by decide +kernel
theorem g11_len : (defScope s11).names.lookup ("len" : Str) = some .globalImplicit := by decide +kernel
theorem sc11 : FnScope N11 p11 (defScope s11) := ⟨rfl, rfl, rfl, by decide +kernel, rfl, by decide +kernel, by decide +kernel⟩
theorem n12_1 : N12[1]? = some ("m" : Str) := by decide +kernel
theorem l12_1 : (defScope s12).names.lookup ("m" : Str) = some .local := by decide +kernel
theorem g12_check_modulus_remainders : (defScope s12).names.lookup ("check_modulus_remainders" : Str) = some .globalImplicit := by decide +kernel
theorem g12_Powers : (defScope s12).names.lookup ("Powers" : Str) = some .globalImplicit := by decide +kernel
theorem n12_0 : N12[0]? = some ("x" : Str) := by decide +kernel
theorem l12_0 : (defScope s12).names.lookup ("x" : Str) = some .local := by decide +kernel
theorem sc12 : FnScope N12 p12 (defScope s12) := ⟨rfl, rfl, rfl, by decide +kernel, rfl, by decide +kernel, by decide +kernel⟩
theorem n13_0 : N13[0]? = some ("m" : Str) := by decide +kernel
theorem l13_0 : (defScope s13).names.lookup ("m" : Str) = some .local := by decide +kernel
theorem g13_MAX_TURN_MODULUS : (defScope s13).names.lookup ("MAX_TURN_MODULUS" : Str) = some .globalImplicit := by decide +kernel
theorem g13_NotAllowed : (defScope s13).names.lookup ("NotAllowed" : Str) = some .globalImplicit := by decide +kernel
theorem sc13 : FnScope N13 p13 (defScope s13) := ⟨rfl, rfl, rfl, by decide +kernel, rfl, by decide +kernel, by decide +kernel⟩
theorem n14_0 : N14[0]? = some ("times" : Str) := by decide +kernel
theorem l14_0 : (defScope s14).names.lookup ("times" : Str) = some .local := by decide +kernel
theorem g14_sign_of : (defScope s14).names.lookup ("sign_of" : Str) = some .globalImplicit := by decide +kernel
theorem g14_NotAllowed : (defScope s14).names.lookup ("NotAllowed" : Str) = some .globalImplicit := by decide +kernel
theorem sc14 : FnScope N14 p14 (defScope s14) := ⟨rfl, rfl, rfl, by decide +kernel, rfl, by decide +kernel, by decide +kernel⟩
theorem n15_3 : N15[3]? = some ("a" : Str) := by decide +kernel
theorem l15_3 : (defScope s15).names.lookup ("a" : Str) = some .cell := by decide +kernel
theorem n15_4 : N15[4]? = some ("b" : Str) := by decide +kernel
theorem l15_4 : (defScope s15).names.lookup ("b" : Str) = some .cell := by decide +kernel
theorem n15_5 : N15[5]? = some ("c" : Str) := by decide +kernel
theorem l15_5 : (defScope s15).names.lookup ("c" : Str) = some .cell := by decide +kernel
theorem n15_1 : N15[1]? = some ("state" : Str) := by decide +kernel
theorem l15_1 : (defScope s15).names.lookup ("state" : Str) = some .local := by decide +kernel
theorem n15_0 : N15[0]? = some ("table" : Str) := by decide +kernel
theorem l15_0 : (defScope s15).names.lookup ("table" : Str) = some .local := by decide +kernel
theorem n15_6 : N15[6]? = some ("row" : Str) := by decide +kernel
theorem n15_2 : N15[2]? = some ("m" : Str) := by decide +kernel
theorem g15_tuple : (defScope s15).names.lookup ("tuple" : Str) = some .globalImplicit := by decide +kernel
theorem sc15 : FnScope N15 p15 (defScope s15) := ⟨rfl, rfl, rfl, by decide +kernel, rfl, by decide +kernel, by decide +kernel⟩
theorem n16_1 : N16[1]? = some ("start" : Str) := by decide +kernel
theorem l16_1 : (defScope s16).names.lookup ("start" : Str) = some .local := by decide +kernel
theorem n16_6 : N16[6]? = some ("value" : Str) := by decide +kernel
theorem n16_2 : N16[2]? = some ("m" : Str) := by decide +kernel
theorem g16_tuple : (defScope s16).names.lookup ("tuple" : Str) = some .globalImplicit := by decide +kernel
theorem n16_3 : N16[3]? = some ("state" : Str) := by decide +kernel
theorem l16_3 : (defScope s16).names.lookup ("state" : Str) = some .local := by decide +kernel
theorem n16_4 : N16[4]? = some ("places" : Str) := by decide +kernel
theorem l16_4 : (defScope s16).names.lookup ("places" : Str) = some .local := by decide +kernel
theorem n16_5 : N16[5]? = some ("states" : Str) := by decide +kernel
theorem l16_5 : (defScope s16).names.lookup ("states" : Str) = some .local := by decide +kernel
theorem g16_len : (defScope s16).names.lookup ("len" : Str) = some .globalImplicit := by decide +kernel
theorem n16_0 : N16[0]? = some ("table" : Str) := by decide +kernel
theorem l16_0 : (defScope s16).names.lookup ("table" : Str) = some .local := by decide +kernel
theorem l16_2 : (defScope s16).names.lookup ("m" : Str) = some .cell := by decide +kernel
theorem g16_turned : (defScope s16).names.lookup ("turned" : Str) = some .globalImplicit := by decide +kernel
theorem sc16 : FnScope N16 p16 (defScope s16) := ⟨rfl, rfl, rfl, by decide +kernel, rfl, by decide +kernel, by decide +kernel⟩
theorem n17_2 : N17[2]? = some ("m" : Str) := by decide +kernel
theorem l17_2 : (defScope s17).names.lookup ("m" : Str) = some .local := by decide +kernel
theorem g17_check_modulus_turns : (defScope s17).names.lookup ("check_modulus_turns" : Str) = some .globalImplicit := by decide +kernel
theorem n17_3 : N17[3]? = some ("states" : Str) := by decide +kernel
theorem l17_3 : (defScope s17).names.lookup ("states" : Str) = some .local := by decide +kernel
theorem n17_4 : N17[4]? = some ("lead" : Str) := by decide +kernel
theorem l17_4 : (defScope s17).names.lookup ("lead" : Str) = some .local := by decide +kernel
theorem n17_0 : N17[0]? = some ("table" : Str) := by decide +kernel
theorem l17_0 : (defScope s17).names.lookup ("table" : Str) = some .local := by decide +kernel
theorem n17_1 : N17[1]? = some ("start" : Str) := by decide +kernel
theorem l17_1 : (defScope s17).names.lookup ("start" : Str) = some .local := by decide +kernel
theorem g17_states_of : (defScope s17).names.lookup ("states_of" : Str) = some .globalImplicit := by decide +kernel
theorem g17_len : (defScope s17).names.lookup ("len" : Str) = some .globalImplicit := by decide +kernel
theorem sc17 : FnScope N17 p17 (defScope s17) := ⟨rfl, rfl, rfl, by decide +kernel, rfl, by decide +kernel, by decide +kernel⟩
theorem n18_4 : N18[4]? = some ("states" : Str) := by decide +kernel
theorem l18_4 : (defScope s18).names.lookup ("states" : Str) = some .local := by decide +kernel
theorem n18_5 : N18[5]? = some ("lead" : Str) := by decide +kernel
theorem l18_5 : (defScope s18).names.lookup ("lead" : Str) = some .local := by decide +kernel
theorem n18_0 : N18[0]? = some ("table" : Str) := by decide +kernel
theorem l18_0 : (defScope s18).names.lookup ("table" : Str) = some .local := by decide +kernel
theorem n18_1 : N18[1]? = some ("start" : Str) := by decide +kernel
theorem l18_1 : (defScope s18).names.lookup ("start" : Str) = some .local := by decide +kernel
theorem n18_3 : N18[3]? = some ("m" : Str) := by decide +kernel
theorem l18_3 : (defScope s18).names.lookup ("m" : Str) = some .local := by decide +kernel
theorem g18_states_of : (defScope s18).names.lookup ("states_of" : Str) = some .globalImplicit := by decide +kernel
theorem n18_2 : N18[2]? = some ("times" : Str) := by decide +kernel
theorem l18_2 : (defScope s18).names.lookup ("times" : Str) = some .local := by decide +kernel
theorem g18_len : (defScope s18).names.lookup ("len" : Str) = some .globalImplicit := by decide +kernel
theorem g18_from_int : (defScope s18).names.lookup ("from_int" : Str) = some .globalImplicit := by decide +kernel
theorem g18_compare : (defScope s18).names.lookup ("compare" : Str) = some .globalImplicit := by decide +kernel
theorem g18_to_int : (defScope s18).names.lookup ("to_int" : Str) = some .globalImplicit := by decide +kernel
theorem n18_6 : N18[6]? = some ("period" : Str) := by decide +kernel
theorem l18_6 : (defScope s18).names.lookup ("period" : Str) = some .local := by decide +kernel
theorem g18_remainder : (defScope s18).names.lookup ("remainder" : Str) = some .globalImplicit := by decide +kernel
theorem sc18 : FnScope N18 p18 (defScope s18) := ⟨rfl, rfl, rfl, by decide +kernel, rfl, by decide +kernel, by decide +kernel⟩
theorem n19_3 : N19[3]? = some ("m" : Str) := by decide +kernel
theorem l19_3 : (defScope s19).names.lookup ("m" : Str) = some .local := by decide +kernel
theorem g19_check_modulus_turns : (defScope s19).names.lookup ("check_modulus_turns" : Str) = some .globalImplicit := by decide +kernel
theorem n19_2 : N19[2]? = some ("times" : Str) := by decide +kernel
theorem l19_2 : (defScope s19).names.lookup ("times" : Str) = some .local := by decide +kernel
theorem g19_check_times : (defScope s19).names.lookup ("check_times" : Str) = some .globalImplicit := by decide +kernel
theorem n19_0 : N19[0]? = some ("table" : Str) := by decide +kernel
theorem l19_0 : (defScope s19).names.lookup ("table" : Str) = some .local := by decide +kernel
theorem n19_1 : N19[1]? = some ("start" : Str) := by decide +kernel
theorem l19_1 : (defScope s19).names.lookup ("start" : Str) = some .local := by decide +kernel
theorem g19_state_at : (defScope s19).names.lookup ("state_at" : Str) = some .globalImplicit := by decide +kernel
theorem sc19 : FnScope N19 p19 (defScope s19) := ⟨rfl, rfl, rfl, by decide +kernel, rfl, by decide +kernel, by decide +kernel⟩
theorem n20_2 : N20[2]? = some ("m" : Str) := by decide +kernel
theorem l20_2 : (defScope s20).names.lookup ("m" : Str) = some .cell := by decide +kernel
theorem g20_check_modulus_turns : (defScope s20).names.lookup ("check_modulus_turns" : Str) = some .globalImplicit := by decide +kernel
theorem sc20 : FnScope N20 p20 (defScope s20) := ⟨rfl, rfl, rfl, by decide +kernel, rfl, by decide +kernel, by decide +kernel⟩
theorem n21_2 : N21[2]? = some ("m" : Str) := by decide +kernel
theorem l21_2 : (defScope s21).names.lookup ("m" : Str) = some .cell := by decide +kernel
theorem g21_check_modulus_turns : (defScope s21).names.lookup ("check_modulus_turns" : Str) = some .globalImplicit := by decide +kernel
theorem n21_1 : N21[1]? = some ("times" : Str) := by decide +kernel
theorem l21_1 : (defScope s21).names.lookup ("times" : Str) = some .cell := by decide +kernel
theorem g21_check_times : (defScope s21).names.lookup ("check_times" : Str) = some .globalImplicit := by decide +kernel
theorem sc21 : FnScope N21 p21 (defScope s21) := ⟨rfl, rfl, rfl, by decide +kernel, rfl, by decide +kernel, by decide +kernel⟩
theorem n22_1 : N22[1]? = some ("_law_k" : Str) := by decide +kernel
theorem l22_1 : (defScope s22).names.lookup ("_law_k" : Str) = some .local := by decide +kernel
theorem n22_0 : N22[0]? = some ("_law_script" : Str) := by decide +kernel
theorem l22_0 : (defScope s22).names.lookup ("_law_script" : Str) = some .local := by decide +kernel
theorem g22_len : (defScope s22).names.lookup ("len" : Str) = some .globalImplicit := by decide +kernel
theorem sc22 : FnScope N22 p22 (defScope s22) := ⟨rfl, rfl, rfl, by decide +kernel, rfl, by decide +kernel, by decide +kernel⟩
theorem n23_3 : N23[3]? = some ("_law_numbers_here" : Str) := by decide +kernel
theorem l23_3 : (defScope s23).names.lookup ("_law_numbers_here" : Str) = some .local := by decide +kernel
theorem n23_0 : N23[0]? = some ("_law_cell_here" : Str) := by decide +kernel
theorem l23_0 : (defScope s23).names.lookup ("_law_cell_here" : Str) = some .local := by decide +kernel
theorem n23_4 : N23[4]? = some ("_law_rest" : Str) := by decide +kernel
theorem l23_4 : (defScope s23).names.lookup ("_law_rest" : Str) = some .local := by decide +kernel
theorem n23_2 : N23[2]? = some ("_law_many" : Str) := by decide +kernel
theorem l23_2 : (defScope s23).names.lookup ("_law_many" : Str) = some .local := by decide +kernel
theorem g23_range : (defScope s23).names.lookup ("range" : Str) = some .globalImplicit := by decide +kernel
theorem n23_5 : N23[5]? = some ("_law_j" : Str) := by decide +kernel
theorem l23_5 : (defScope s23).names.lookup ("_law_j" : Str) = some .local := by decide +kernel
theorem g23_int : (defScope s23).names.lookup ("int" : Str) = some .globalImplicit := by decide +kernel
theorem n23_1 : N23[1]? = some ("_law_k" : Str) := by decide +kernel
theorem l23_1 : (defScope s23).names.lookup ("_law_k" : Str) = some .local := by decide +kernel
theorem n23_6 : N23[6]? = some ("_law_mixed" : Str) := by decide +kernel
theorem l23_6 : (defScope s23).names.lookup ("_law_mixed" : Str) = some .local := by decide +kernel
theorem n23_7 : N23[7]? = some ("_law_twice" : Str) := by decide +kernel
theorem l23_7 : (defScope s23).names.lookup ("_law_twice" : Str) = some .local := by decide +kernel
theorem sc23 : FnScope N23 p23 (defScope s23) := ⟨rfl, rfl, rfl, by decide +kernel, rfl, by decide +kernel, by decide +kernel⟩
theorem n24_0 : N24[0]? = some ("_law_numbers_here" : Str) := by decide +kernel
theorem l24_0 : (defScope s24).names.lookup ("_law_numbers_here" : Str) = some .local := by decide +kernel
theorem n24_1 : N24[1]? = some ("_law_at" : Str) := by decide +kernel
theorem l24_1 : (defScope s24).names.lookup ("_law_at" : Str) = some .local := by decide +kernel
theorem g24_int : (defScope s24).names.lookup ("int" : Str) = some .globalImplicit := by decide +kernel
theorem g24_len : (defScope s24).names.lookup ("len" : Str) = some .globalImplicit := by decide +kernel
theorem n24_2 : N24[2]? = some ("_law_pick" : Str) := by decide +kernel
theorem l24_2 : (defScope s24).names.lookup ("_law_pick" : Str) = some .local := by decide +kernel
theorem sc24 : FnScope N24 p24 (defScope s24) := ⟨rfl, rfl, rfl, by decide +kernel, rfl, by decide +kernel, by decide +kernel⟩
theorem n25_0 : N25[0]? = some ("_law_numbers_here" : Str) := by decide +kernel
theorem l25_0 : (defScope s25).names.lookup ("_law_numbers_here" : Str) = some .cell := by decide +kernel
theorem n25_1 : N25[1]? = some ("_law_at" : Str) := by decide +kernel
theorem l25_1 : (defScope s25).names.lookup ("_law_at" : Str) = some .cell := by decide +kernel
theorem g25_int : (defScope s25).names.lookup ("int" : Str) = some .globalImplicit := by decide +kernel
theorem g25_len : (defScope s25).names.lookup ("len" : Str) = some .globalImplicit := by decide +kernel
theorem n25_2 : N25[2]? = some ("_law_factor" : Str) := by decide +kernel
theorem l25_2 : (defScope s25).names.lookup ("_law_factor" : Str) = some .cell := by decide +kernel
theorem n25_3 : N25[3]? = some ("_law_rows" : Str) := by decide +kernel
theorem l25_3 : (defScope s25).names.lookup ("_law_rows" : Str) = some .local := by decide +kernel
theorem g25_range : (defScope s25).names.lookup ("range" : Str) = some .globalImplicit := by decide +kernel
theorem n25_4 : N25[4]? = some ("_law_k" : Str) := by decide +kernel
theorem l25_4 : (defScope s25).names.lookup ("_law_k" : Str) = some .cell := by decide +kernel
theorem n25_6 : N25[6]? = some ("_law_j" : Str) := by decide +kernel
theorem n25_5 : N25[5]? = some ("_law_row" : Str) := by decide +kernel
theorem l25_5 : (defScope s25).names.lookup ("_law_row" : Str) = some .local := by decide +kernel
theorem g25__law_entry : (defScope s25).names.lookup ("_law_entry" : Str) = some .globalImplicit := by decide +kernel
theorem g25_tuple : (defScope s25).names.lookup ("tuple" : Str) = some .globalImplicit := by decide +kernel
theorem sc25 : FnScope N25 p25 (defScope s25) := ⟨rfl, rfl, rfl, by decide +kernel, rfl, by decide +kernel, by decide +kernel⟩
theorem n26_3 : N26[3]? = some ("_law_values" : Str) := by decide +kernel
theorem l26_3 : (defScope s26).names.lookup ("_law_values" : Str) = some .local := by decide +kernel
theorem n26_0 : N26[0]? = some ("_law_table_here" : Str) := by decide +kernel
theorem l26_0 : (defScope s26).names.lookup ("_law_table_here" : Str) = some .local := by decide +kernel
theorem n26_4 : N26[4]? = some ("_law_row" : Str) := by decide +kernel
theorem l26_4 : (defScope s26).names.lookup ("_law_row" : Str) = some .local := by decide +kernel
theorem n26_5 : N26[5]? = some ("_law_total" : Str) := by decide +kernel
theorem l26_5 : (defScope s26).names.lookup ("_law_total" : Str) = some .local := by decide +kernel
theorem g26_range : (defScope s26).names.lookup ("range" : Str) = some .globalImplicit := by decide +kernel
theorem n26_6 : N26[6]? = some ("_law_k" : Str) := by decide +kernel
theorem l26_6 : (defScope s26).names.lookup ("_law_k" : Str) = some .local := by decide +kernel
theorem n26_1 : N26[1]? = some ("_law_state" : Str) := by decide +kernel
theorem l26_1 : (defScope s26).names.lookup ("_law_state" : Str) = some .local := by decide +kernel
theorem g26_int : (defScope s26).names.lookup ("int" : Str) = some .globalImplicit := by decide +kernel
theorem n26_2 : N26[2]? = some ("_law_m" : Str) := by decide +kernel
theorem l26_2 : (defScope s26).names.lookup ("_law_m" : Str) = some .local := by decide +kernel
theorem g26_tuple : (defScope s26).names.lookup ("tuple" : Str) = some .globalImplicit := by decide +kernel
theorem sc26 : FnScope N26 p26 (defScope s26) := ⟨rfl, rfl, rfl, by decide +kernel, rfl, by decide +kernel, by decide +kernel⟩
theorem n27_1 : N27[1]? = some ("_law_start" : Str) := by decide +kernel
theorem l27_1 : (defScope s27).names.lookup ("_law_start" : Str) = some .local := by decide +kernel
theorem n27_7 : N27[7]? = some ("_law_value" : Str) := by decide +kernel
theorem n27_2 : N27[2]? = some ("_law_m" : Str) := by decide +kernel
theorem g27_tuple : (defScope s27).names.lookup ("tuple" : Str) = some .globalImplicit := by decide +kernel
theorem n27_3 : N27[3]? = some ("_law_states" : Str) := by decide +kernel
theorem l27_3 : (defScope s27).names.lookup ("_law_states" : Str) = some .local := by decide +kernel
theorem n27_4 : N27[4]? = some ("_law_seen" : Str) := by decide +kernel
theorem l27_4 : (defScope s27).names.lookup ("_law_seen" : Str) = some .local := by decide +kernel
theorem g27_range : (defScope s27).names.lookup ("range" : Str) = some .globalImplicit := by decide +kernel
theorem n27_5 : N27[5]? = some ("_law_k" : Str) := by decide +kernel
theorem l27_5 : (defScope s27).names.lookup ("_law_k" : Str) = some .local := by decide +kernel
theorem n27_0 : N27[0]? = some ("_law_table_here" : Str) := by decide +kernel
theorem l27_0 : (defScope s27).names.lookup ("_law_table_here" : Str) = some .local := by decide +kernel
theorem l27_2 : (defScope s27).names.lookup ("_law_m" : Str) = some .cell := by decide +kernel
theorem g27__law_turned : (defScope s27).names.lookup ("_law_turned" : Str) = some .globalImplicit := by decide +kernel
theorem n27_6 : N27[6]? = some ("_law_state" : Str) := by decide +kernel
theorem l27_6 : (defScope s27).names.lookup ("_law_state" : Str) = some .local := by decide +kernel
theorem sc27 : FnScope N27 p27 (defScope s27) := ⟨rfl, rfl, rfl, by decide +kernel, rfl, by decide +kernel, by decide +kernel⟩
theorem n28_3 : N28[3]? = some ("_law_table_here" : Str) := by decide +kernel
theorem l28_3 : (defScope s28).names.lookup ("_law_table_here" : Str) = some .local := by decide +kernel
theorem n28_0 : N28[0]? = some ("_law_door" : Str) := by decide +kernel
theorem l28_0 : (defScope s28).names.lookup ("_law_door" : Str) = some .local := by decide +kernel
theorem n28_1 : N28[1]? = some ("_law_m" : Str) := by decide +kernel
theorem l28_1 : (defScope s28).names.lookup ("_law_m" : Str) = some .local := by decide +kernel
theorem g28_cycle_of : (defScope s28).names.lookup ("cycle_of" : Str) = some .globalImplicit := by decide +kernel
theorem n28_2 : N28[2]? = some ("_law_times" : Str) := by decide +kernel
theorem l28_2 : (defScope s28).names.lookup ("_law_times" : Str) = some .local := by decide +kernel
theorem g28_of_int : (defScope s28).names.lookup ("of_int" : Str) = some .globalImplicit := by decide +kernel
theorem g28_state_behind : (defScope s28).names.lookup ("state_behind" : Str) = some .globalImplicit := by decide +kernel
theorem g28_joined : (defScope s28).names.lookup ("joined" : Str) = some .globalImplicit := by decide +kernel
theorem g28_table_behind : (defScope s28).names.lookup ("table_behind" : Str) = some .globalImplicit := by decide +kernel
theorem n28_4 : N28[4]? = some ("e" : Str) := by decide +kernel
theorem l28_4 : (defScope s28).names.lookup ("e" : Str) = some .local := by decide +kernel
theorem g28_isinstance : (defScope s28).names.lookup ("isinstance" : Str) = some .globalImplicit := by decide +kernel
theorem g28_ReckonError : (defScope s28).names.lookup ("ReckonError" : Str) = some .globalImplicit := by decide +kernel
theorem g28_Missing : (defScope s28).names.lookup ("Missing" : Str) = some .globalImplicit := by decide +kernel
theorem g28_TooLarge : (defScope s28).names.lookup ("TooLarge" : Str) = some .globalImplicit := by decide +kernel
theorem g28_NotAllowed : (defScope s28).names.lookup ("NotAllowed" : Str) = some .globalImplicit := by decide +kernel
theorem sc28 : FnScope N28 p28 (defScope s28) := ⟨rfl, rfl, rfl, by decide +kernel, rfl, by decide +kernel, by decide +kernel⟩
theorem n29_0 : N29[0]? = some ("_law_script" : Str) := by decide +kernel
theorem l29_0 : (defScope s29).names.lookup ("_law_script" : Str) = some .local := by decide +kernel
theorem g29_len : (defScope s29).names.lookup ("len" : Str) = some .globalImplicit := by decide +kernel
theorem g29_min : (defScope s29).names.lookup ("min" : Str) = some .globalImplicit := by decide +kernel
theorem g29_max : (defScope s29).names.lookup ("max" : Str) = some .globalImplicit := by decide +kernel
theorem g29_range : (defScope s29).names.lookup ("range" : Str) = some .globalImplicit := by decide +kernel
theorem n29_1 : N29[1]? = some ("_law_k" : Str) := by decide +kernel
theorem l29_1 : (defScope s29).names.lookup ("_law_k" : Str) = some .local := by decide +kernel
theorem g29__law_cell : (defScope s29).names.lookup ("_law_cell" : Str) = some .globalImplicit := by decide +kernel
theorem g29__law_numbers : (defScope s29).names.lookup ("_law_numbers" : Str) = some .globalImplicit := by decide +kernel
theorem n29_2 : N29[2]? = some ("_law_numbers_here" : Str) := by decide +kernel
theorem l29_2 : (defScope s29).names.lookup ("_law_numbers_here" : Str) = some .cell := by decide +kernel
theorem g29__law_table : (defScope s29).names.lookup ("_law_table" : Str) = some .globalImplicit := by decide +kernel
theorem n29_3 : N29[3]? = some ("_law_table_here" : Str) := by decide +kernel
theorem l29_3 : (defScope s29).names.lookup ("_law_table_here" : Str) = some .local := by decide +kernel
theorem n29_13 : N29[13]? = some ("_law_j" : Str) := by decide +kernel
theorem g29_tuple : (defScope s29).names.lookup ("tuple" : Str) = some .globalImplicit := by decide +kernel
theorem n29_4 : N29[4]? = some ("_law_start" : Str) := by decide +kernel
theorem l29_4 : (defScope s29).names.lookup ("_law_start" : Str) = some .local := by decide +kernel
theorem g29_int : (defScope s29).names.lookup ("int" : Str) = some .globalImplicit := by decide +kernel
theorem n29_5 : N29[5]? = some ("_law_m" : Str) := by decide +kernel
theorem l29_5 : (defScope s29).names.lookup ("_law_m" : Str) = some .local := by decide +kernel
theorem n29_6 : N29[6]? = some ("_law_states" : Str) := by decide +kernel
theorem l29_6 : (defScope s29).names.lookup ("_law_states" : Str) = some .local := by decide +kernel
theorem n29_7 : N29[7]? = some ("_law_lead" : Str) := by decide +kernel
theorem l29_7 : (defScope s29).names.lookup ("_law_lead" : Str) = some .local := by decide +kernel
theorem n29_8 : N29[8]? = some ("_law_period" : Str) := by decide +kernel
theorem l29_8 : (defScope s29).names.lookup ("_law_period" : Str) = some .local := by decide +kernel
theorem g29__law_cycle : (defScope s29).names.lookup ("_law_cycle" : Str) = some .globalImplicit := by decide +kernel
theorem g29_cycle_of : (defScope s29).names.lookup ("cycle_of" : Str) = some .globalImplicit := by decide +kernel
theorem n29_9 : N29[9]? = some ("_law_times" : Str) := by decide +kernel
theorem l29_9 : (defScope s29).names.lookup ("_law_times" : Str) = some .local := by decide +kernel
theorem n29_10 : N29[10]? = some ("_law_place" : Str) := by decide +kernel
theorem l29_10 : (defScope s29).names.lookup ("_law_place" : Str) = some .local := by decide +kernel
theorem g29_of_int : (defScope s29).names.lookup ("of_int" : Str) = some .globalImplicit := by decide +kernel
theorem g29_state_behind : (defScope s29).names.lookup ("state_behind" : Str) = some .globalImplicit := by decide +kernel
theorem n29_11 : N29[11]? = some ("_law_told" : Str) := by decide +kernel
theorem l29_11 : (defScope s29).names.lookup ("_law_told" : Str) = some .local := by decide +kernel
theorem g29_isinstance : (defScope s29).names.lookup ("isinstance" : Str) = some .globalImplicit := by decide +kernel
theorem n29_12 : N29[12]? = some ("_law_door" : Str) := by decide +kernel
theorem l29_12 : (defScope s29).names.lookup ("_law_door" : Str) = some .local := by decide +kernel
theorem g29__law_refused : (defScope s29).names.lookup ("_law_refused" : Str) = some .globalImplicit := by decide +kernel
theorem g29_MAX_TURN_MODULUS : (defScope s29).names.lookup ("MAX_TURN_MODULUS" : Str) = some .globalImplicit := by decide +kernel
theorem sc29 : FnScope N29 p29 (defScope s29) := ⟨rfl, rfl, rfl, by decide +kernel, rfl, by decide +kernel, by decide +kernel⟩
theorem sc30 : FnScope N30 p30 (defScope s30) := ⟨rfl, rfl, rfl, by decide +kernel, rfl, by decide +kernel, by decide +kernel⟩
theorem n31_3 : N31[3]? = some ("row" : Str) := by decide +kernel
theorem l31_3 : (defScope s31).names.lookup ("row" : Str) = some .local := by decide +kernel
theorem n31_4 : N31[4]? = some ("lead" : Str) := by decide +kernel
theorem l31_4 : (defScope s31).names.lookup ("lead" : Str) = some .local := by decide +kernel
theorem n31_0 : N31[0]? = some ("self" : Str) := by decide +kernel
theorem l31_0 : (defScope s31).names.lookup ("self" : Str) = some .local := by decide +kernel
theorem n31_2 : N31[2]? = some ("m" : Str) := by decide +kernel
theorem l31_2 : (defScope s31).names.lookup ("m" : Str) = some .local := by decide +kernel
theorem n31_1 : N31[1]? = some ("exponent" : Str) := by decide +kernel
theorem l31_1 : (defScope s31).names.lookup ("exponent" : Str) = some .local := by decide +kernel
theorem g31_len : (defScope s31).names.lookup ("len" : Str) = some .globalImplicit := by decide +kernel
theorem g31_from_int : (defScope s31).names.lookup ("from_int" : Str) = some .globalImplicit := by decide +kernel
theorem g31_compare : (defScope s31).names.lookup ("compare" : Str) = some .globalImplicit := by decide +kernel
theorem g31_to_int : (defScope s31).names.lookup ("to_int" : Str) = some .globalImplicit := by decide +kernel
theorem n31_5 : N31[5]? = some ("period" : Str) := by decide +kernel
theorem l31_5 : (defScope s31).names.lookup ("period" : Str) = some .local := by decide +kernel
theorem sc31 : FnScope N31 p31 (defScope s31) := ⟨rfl, rfl, rfl, by decide +kernel, rfl, by decide +kernel, by decide +kernel⟩
theorem n32_3 : N32[3]? = some ("total" : Str) := by decide +kernel
theorem l32_3 : (defScope s32).names.lookup ("total" : Str) = some .local := by decide +kernel
theorem n32_4 : N32[4]? = some ("sign" : Str) := by decide +kernel
theorem l32_4 : (defScope s32).names.lookup ("sign" : Str) = some .local := by decide +kernel
theorem n32_5 : N32[5]? = some ("exponent" : Str) := by decide +kernel
theorem l32_5 : (defScope s32).names.lookup ("exponent" : Str) = some .local := by decide +kernel
theorem n32_0 : N32[0]? = some ("self" : Str) := by decide +kernel
theorem l32_0 : (defScope s32).names.lookup ("self" : Str) = some .local := by decide +kernel
theorem n32_2 : N32[2]? = some ("m" : Str) := by decide +kernel
theorem l32_2 : (defScope s32).names.lookup ("m" : Str) = some .local := by decide +kernel
theorem n32_1 : N32[1]? = some ("number" : Str) := by decide +kernel
theorem l32_1 : (defScope s32).names.lookup ("number" : Str) = some .local := by decide +kernel
theorem sc32 : FnScope N32 p32 (defScope s32) := ⟨rfl, rfl, rfl, by decide +kernel, rfl, by decide +kernel, by decide +kernel⟩
section
variable {pr : Program} {w : World} {K : PySem.W.Frag} {mg : Str → Option Value} {base : Heap} {ca : Nat → Addr} {F n : Nat} {Cl : Addr} {rv : Int → Rf.D}
theorem w0 (hf_size_of : Good pr w K mg base ca TB F "size_of" 0 n) (z_sum : mg "sum" = none) : Walk pr w K mg base ca N0 "size_of" s0 n (execs (phi TB F n) F b0) := fun A sA HA a fA cdv outer xe h0 av avok W hr C =>
    (sss_cons (ss_ret (Rf.PE.new (se_bin C .add se_int (se_flat rfl (se_bltB C (cl_sum C.calm) g0_sum z_sum (by decide +kernel) (ses_cons (Rf.PE.new (Rf.PE.modeN (se_comp C (own := [("_", 1), ("exponent", 2)]) (si_tup C (se_var C n0_0 (Or.inl l0_0))) rfl (blkOk_by (N := N0) (sc := defScope s0) (by decide +kernel)) (fun _ _ _ _ _ _ C => (sg_tp C.calm rfl (sgs_cons (sg_nm C.hN C.nd n0_1 (by first | exact Or.inl rfl | exact Or.inr rfl) (by first | exact .inl rfl | exact .inr rfl)) (sgs_cons (sg_nm C.hN C.nd n0_2 (by first | exact Or.inl rfl | exact Or.inr rfl) (by first | exact .inl rfl | exact .inr rfl)) sgs_nil)))) (fun _ _ _ _ _ _ _ _ C => sf_nil) (fun _ _ _ _ _ _ _ _ C => (se_call C (hf_size_of.fn hr) (by rfl) (ses_cons (se_var C n0_2 (by first | exact Or.inl rfl | exact Or.inr (Or.inl rfl) | exact Or.inr (Or.inr rfl))) ses_nil)))))) ses_nil))))))
      sss_nil)
theorem w1 (hf_height_of : Good pr w K mg base ca TB F "height_of" 1 n) (z_len : mg "len" = none) (z_max : mg "max" = none) : Walk pr w K mg base ca N1 "height_of" s1 n (execs (phi TB F n) F b1) := fun A sA HA a fA cdv outer xe h0 av avok W hr C =>
    (sss_cons (ss_if (st_cmp C .eq (se_flat rfl (se_bltB C (cl_len C.calm) g1_len z_len (by decide +kernel) (ses_cons (se_var C n1_0 (Or.inl l1_0)) ses_nil))) se_int (by first | rfl | with_unfolding_all rfl)) (sss_cons (ss_ret se_int)
      sss_nil) sss_nil)
      (sss_cons (ss_ret (Rf.PE.new (se_bin C .add se_int (se_flat rfl (se_bltB C (cl_max C.calm) g1_max z_max (by decide +kernel) (ses_cons (Rf.PE.new (Rf.PE.modeN (se_comp C (own := [("_", 1), ("exponent", 2)]) (si_tup C (se_var C n1_0 (Or.inl l1_0))) rfl (blkOk_by (N := N1) (sc := defScope s1) (by decide +kernel)) (fun _ _ _ _ _ _ C => (sg_tp C.calm rfl (sgs_cons (sg_nm C.hN C.nd n1_1 (by first | exact Or.inl rfl | exact Or.inr rfl) (by first | exact .inl rfl | exact .inr rfl)) (sgs_cons (sg_nm C.hN C.nd n1_2 (by first | exact Or.inl rfl | exact Or.inr rfl) (by first | exact .inl rfl | exact .inr rfl)) sgs_nil)))) (fun _ _ _ _ _ _ _ _ C => sf_nil) (fun _ _ _ _ _ _ _ _ C => (se_call C (hf_height_of.fn hr) (by rfl) (ses_cons (se_var C n1_2 (by first | exact Or.inl rfl | exact Or.inr (Or.inl rfl) | exact Or.inr (Or.inr rfl))) ses_nil)))))) ses_nil))))))
      sss_nil))
theorem w2 (hf_compare : Good pr w K mg base ca TB F "compare" 2 n) (z_len : mg "len" = none) (z_zip : mg "zip" = none) : Walk pr w K mg base ca N2 "compare" s2 n (execs (phi TB F n) F b2) := fun A sA HA a fA cdv outer xe h0 av avok W hr C =>
    (sss_cons (ss_if (st_cmp C .eq (se_var C n2_0 (Or.inl l2_0)) (se_var C n2_1 (Or.inl l2_1)) (by first | rfl | with_unfolding_all rfl)) (sss_cons (ss_ret se_int)
      sss_nil) sss_nil)
      (sss_cons (ss_for C (si_zip C g2_zip z_zip (ses_cons (se_var C n2_0 (Or.inl l2_0)) (ses_cons (se_var C n2_1 (Or.inl l2_1)) ses_nil))) (sg_tp C.calm rfl (sgs_cons (sg_tp C.calm rfl (sgs_cons (sg_nm C.hN C.nd n2_2 (Or.inl l2_2) (by first | exact .inl rfl | exact .inr rfl)) (sgs_cons (sg_nm C.hN C.nd n2_3 (Or.inl l2_3) (by first | exact .inl rfl | exact .inr rfl)) sgs_nil))) (sgs_cons (sg_tp C.calm rfl (sgs_cons (sg_nm C.hN C.nd n2_4 (Or.inl l2_4) (by first | exact .inl rfl | exact .inr rfl)) (sgs_cons (sg_nm C.hN C.nd n2_5 (Or.inl l2_5) (by first | exact .inl rfl | exact .inr rfl)) sgs_nil))) sgs_nil))) (fun _ _ C => (sss_cons (ss_if (st_cmp C .ne (se_var C n2_2 (Or.inl l2_2)) (se_var C n2_4 (Or.inl l2_4)) (by first | rfl | with_unfolding_all rfl)) (sss_cons (ss_ret (se_var C n2_2 (Or.inl l2_2)))
      sss_nil) sss_nil)
      (sss_cons (ss_set C n2_6 (Or.inl l2_6) (se_call C (hf_compare.fn hr) g2_compare (ses_cons (se_var C n2_3 (Or.inl l2_3)) (ses_cons (se_var C n2_5 (Or.inl l2_5)) ses_nil))))
      (sss_cons (ss_if (st_cmp C .ne (se_var C n2_6 (Or.inl l2_6)) se_int (by first | rfl | with_unfolding_all rfl)) (sss_cons (ss_ret (Rf.PE.new (se_bin C .mul (se_var C n2_6 (Or.inl l2_6)) (se_var C n2_2 (Or.inl l2_2)))))
      sss_nil) sss_nil)
      sss_nil)))))
      (sss_cons (ss_if (st_cmp C .gt (se_flat rfl (se_bltB C (cl_len C.calm) g2_len z_len (by decide +kernel) (ses_cons (se_var C n2_0 (Or.inl l2_0)) ses_nil))) (se_flat rfl (se_bltB C (cl_len C.calm) g2_len z_len (by decide +kernel) (ses_cons (se_var C n2_1 (Or.inl l2_1)) ses_nil))) (by first | rfl | with_unfolding_all rfl)) (sss_cons (ss_ret (se_idx C (se_idx C (se_var C n2_0 (Or.inl l2_0)) (se_flat rfl (se_bltB C (cl_len C.calm) g2_len z_len (by decide +kernel) (ses_cons (se_var C n2_1 (Or.inl l2_1)) ses_nil))) (fun _ _ => rfl)) se_int (fun _ _ => rfl)))
      sss_nil) sss_nil)
      (sss_cons (ss_ret (se_neg (se_idx C (se_idx C (se_var C n2_1 (Or.inl l2_1)) (se_flat rfl (se_bltB C (cl_len C.calm) g2_len z_len (by decide +kernel) (ses_cons (se_var C n2_0 (Or.inl l2_0)) ses_nil))) (fun _ _ => rfl)) se_int (fun _ _ => rfl))))
      sss_nil))))
theorem w3 (z_len : mg "len" = none) : Walk pr w K mg base ca N3 "sign_of" s3 n (execs (phi TB F n) F b3) := fun A sA HA a fA cdv outer xe h0 av avok W hr C =>
    (sss_cons (ss_if (st_cmp C .eq (se_flat rfl (se_bltB C (cl_len C.calm) g3_len z_len (by decide +kernel) (ses_cons (se_var C n3_0 (Or.inl l3_0)) ses_nil))) se_int (by first | rfl | with_unfolding_all rfl)) (sss_cons (ss_ret se_int)
      sss_nil) sss_nil)
      (sss_cons (ss_ret (se_idx C (se_idx C (se_var C n3_0 (Or.inl l3_0)) se_int (fun _ _ => rfl)) se_int (fun _ _ => rfl)))
      sss_nil))
theorem w4 (hf_from_int : Good pr w K mg base ca TB F "from_int" 4 n) (z_tuple : mg "tuple" = none) : Walk pr w K mg base ca N4 "from_int" s4 n (execs (phi TB F n) F b4) := fun A sA HA a fA cdv outer xe h0 av avok W hr C =>
    (sss_cons (ss_own C n4_1 (Or.inl l4_1) (se_lst (by decide) ses_nil))
      (sss_cons (ss_set C n4_2 (Or.inl l4_2) se_int)
      (sss_cons (ss_while C (st_cmp C .ne (se_var C n4_0 (Or.inl l4_0)) se_int (by first | rfl | with_unfolding_all rfl)) (sss_cons (ss_if (st_cmp C .eq (Rf.PE.new (se_bin C .mod (se_var C n4_0 (Or.inl l4_0)) se_int)) se_int (by first | rfl | with_unfolding_all rfl)) (sss_cons (ss_set C n4_3 (Or.inl l4_3) (se_ite (st_cmp C .eq (Rf.PE.new (se_bin C .mod (se_var C n4_0 (Or.inl l4_0)) se_int)) se_int (by first | rfl | with_unfolding_all rfl)) se_int (se_neg se_int)))
      (sss_cons (ss_app C n4_1 (Or.inl l4_1) (se_tup (by decide) (ses_cons (se_var C n4_3 (Or.inl l4_3)) (ses_cons (se_call C (hf_from_int.fn hr) g4_from_int (ses_cons (se_var C n4_2 (Or.inl l4_2)) ses_nil)) ses_nil))))
      (sss_cons (ss_aug C .sub nofun n4_0 (Or.inl l4_0) (se_var C n4_3 (Or.inl l4_3)))
      sss_nil))) sss_nil)
      (sss_cons (ss_aug C .fdiv nofun n4_0 (Or.inl l4_0) se_int)
      (sss_cons (ss_aug C .add nofun n4_2 (Or.inl l4_2) se_int)
      sss_nil))))
      (sss_cons (ss_ret (Rf.PE.new (se_bltT C (cl_tuple) g4_tuple z_tuple (by decide +kernel) (ses_cons (Rf.PE.new (se_revL C (se_vw C n4_1 (Or.inl l4_1) (by decide)))) ses_nil))))
      sss_nil))))
theorem w5 {k_MAX_HEIGHT : Tok} (c_MAX_HEIGHT : mg "MAX_HEIGHT" = some (.int 40 k_MAX_HEIGHT)) {k_MAX_SIZE : Tok} (c_MAX_SIZE : mg "MAX_SIZE" = some (.int 300 k_MAX_SIZE)) (hf_height_of : Good pr w K mg base ca TB F "height_of" 1 n) (hf_size_of : Good pr w K mg base ca TB F "size_of" 0 n) : Walk pr w K mg base ca N5 "is_allowed" s5 n (execs (phi TB F n) F b5) := fun A sA HA a fA cdv outer xe h0 av avok W hr C =>
    (sss_cons (ss_ret (se_and (se_cmp C .le (se_call C (hf_size_of.fn hr) g5_size_of (ses_cons (se_var C n5_0 (Or.inl l5_0)) ses_nil)) (se_globI g5_MAX_SIZE c_MAX_SIZE) (by first | rfl | with_unfolding_all rfl)) (se_one (se_cmp C .le (se_call C (hf_height_of.fn hr) g5_height_of (ses_cons (se_var C n5_0 (Or.inl l5_0)) ses_nil)) (se_globI g5_MAX_HEIGHT c_MAX_HEIGHT) (by first | rfl | with_unfolding_all rfl)))))
      sss_nil)
theorem w6 (hf_is_allowed : Good pr w K mg base ca TB F "is_allowed" 5 n) (x_TooLarge : XFull K mg "TooLarge" (ca 2)) : Walk pr w K mg base ca N6 "allowed" s6 n (execs (phi TB F n) F b6) := fun A sA HA a fA cdv outer xe h0 av avok W hr C =>
    (sss_cons (ss_if (st_not (st_val (se_call C (hf_is_allowed.fn hr) g6_is_allowed (ses_cons (se_var C n6_0 (Or.inl l6_0)) ses_nil)))) (sss_cons (ss_raise C (pm_own x_TooLarge.toXCls g6_TooLarge))
      sss_nil) sss_nil)
      (sss_cons (ss_ret (se_var C n6_0 (Or.inl l6_0)))
      sss_nil))
theorem w7 {k_MAX_DIGITS : Tok} (c_MAX_DIGITS : mg "MAX_DIGITS" = some (.int 2900 k_MAX_DIGITS)) (hf_allowed : Good pr w K mg base ca TB F "allowed" 6 n) (hf_from_int : Good pr w K mg base ca TB F "from_int" 4 n) (x_NotAllowed : XFull K mg "NotAllowed" (ca 1)) : Walk pr w K mg base ca N7 "of_int" s7 n (execs (phi TB F n) F b7) := fun A sA HA a fA cdv outer xe h0 av avok W hr C =>
    (sss_cons (ss_if (st_cmp C .gt (se_bits (se_var C n7_0 (Or.inl l7_0))) (se_globI g7_MAX_DIGITS c_MAX_DIGITS) (by first | rfl | with_unfolding_all rfl)) (sss_cons (ss_raise C (pm_own x_NotAllowed.toXCls g7_NotAllowed))
      sss_nil) sss_nil)
      (sss_cons (ss_ret (se_call C (hf_allowed.fn hr) g7_allowed (ses_cons (se_call C (hf_from_int.fn hr) g7_from_int (ses_cons (se_var C n7_0 (Or.inl l7_0)) ses_nil)) ses_nil)))
      sss_nil))
theorem w8 (z_range : mg "range" = none) : Walk pr w K mg base ca N8 "power_of_two" s8 n (execs (phi TB F n) F b8) := fun A sA HA a fA cdv outer xe h0 av avok W hr C =>
    (sss_cons (ss_set C n8_1 (Or.inl l8_1) se_int)
      (sss_cons (ss_for C (si_rng1 g8_range z_range (ses_cons (se_var C n8_0 (Or.inl l8_0)) ses_nil)) (sg_nm C.hN C.nd n8_2 (Or.inl l8_2) (by first | exact .inl rfl | exact .inr rfl)) (fun _ _ C => (sss_cons (ss_aug C .mul nofun n8_1 (Or.inl l8_1) se_int)
      sss_nil)))
      (sss_cons (ss_ret (se_var C n8_1 (Or.inl l8_1)))
      sss_nil)))
theorem w9 {k_MAX_BINARY : Tok} (c_MAX_BINARY : mg "MAX_BINARY" = some (.int 64 k_MAX_BINARY)) (hf_compare : Good pr w K mg base ca TB F "compare" 2 n) (hf_from_int : Good pr w K mg base ca TB F "from_int" 4 n) (hf_power_of_two : Good pr w K mg base ca TB F "power_of_two" 8 n) (hf_to_int : Good pr w K mg base ca TB F "to_int" 9 n) (x_NotAllowed : XFull K mg "NotAllowed" (ca 1)) (z_abs : mg "abs" = none) : Walk pr w K mg base ca N9 "to_int" s9 n (execs (phi TB F n) F b9) := fun A sA HA a fA cdv outer xe h0 av avok W hr C =>
    (sss_cons (ss_set C n9_1 (Or.inl l9_1) (se_call C (hf_from_int.fn hr) g9_from_int (ses_cons (se_globI g9_MAX_BINARY c_MAX_BINARY) ses_nil)))
      (sss_cons (ss_set C n9_2 (Or.inl l9_2) se_int)
      (sss_cons (ss_for C (si_tup C (se_var C n9_0 (Or.inl l9_0))) (sg_tp C.calm rfl (sgs_cons (sg_nm C.hN C.nd n9_3 (Or.inl l9_3) (by first | exact .inl rfl | exact .inr rfl)) (sgs_cons (sg_nm C.hN C.nd n9_4 (Or.inl l9_4) (by first | exact .inl rfl | exact .inr rfl)) sgs_nil))) (fun _ _ C => (sss_cons (ss_if (st_cmp C .gt (se_call C (hf_compare.fn hr) g9_compare (ses_cons (se_var C n9_4 (Or.inl l9_4)) (ses_cons (se_var C n9_1 (Or.inl l9_1)) ses_nil))) se_int (by first | rfl | with_unfolding_all rfl)) (sss_cons (ss_raise C (pm_own x_NotAllowed.toXCls g9_NotAllowed))
      sss_nil) sss_nil)
      (sss_cons (ss_aug C .add nofun n9_2 (Or.inl l9_2) (Rf.PE.new (se_bin C .mul (se_var C n9_3 (Or.inl l9_3)) (se_call C (hf_power_of_two.fn hr) g9_power_of_two (ses_cons (se_call C (hf_to_int.fn hr) g9_to_int (ses_cons (se_var C n9_4 (Or.inl l9_4)) ses_nil)) ses_nil)))))
      sss_nil))))
      (sss_cons (ss_if (st_cmp C .ge (se_flat rfl (se_bltB C (cl_abs) g9_abs z_abs (by decide +kernel) (ses_cons (se_var C n9_2 (Or.inl l9_2)) ses_nil))) (se_call C (hf_power_of_two.fn hr) g9_power_of_two (ses_cons (se_globI g9_MAX_BINARY c_MAX_BINARY) ses_nil)) (by first | rfl | with_unfolding_all rfl)) (sss_cons (ss_raise C (pm_own x_NotAllowed.toXCls g9_NotAllowed))
      sss_nil) sss_nil)
      (sss_cons (ss_ret (se_var C n9_2 (Or.inl l9_2)))
      sss_nil)))))
theorem w10 {k_MAX_MODULUS : Tok} (c_MAX_MODULUS : mg "MAX_MODULUS" = some (.int 10000 k_MAX_MODULUS)) (x_NotAllowed : XFull K mg "NotAllowed" (ca 1)) : Walk pr w K mg base ca N10 "check_modulus" s10 n (execs (phi TB F n) F b10) := fun A sA HA a fA cdv outer xe h0 av avok W hr C =>
    (sss_cons (ss_if (PW.pt (st_or (st_cmp C .lt (se_var C n10_0 (Or.inl l10_0)) se_int (by first | rfl | with_unfolding_all rfl)) (st_or1 (st_cmp C .gt (se_var C n10_0 (Or.inl l10_0)) (se_globI g10_MAX_MODULUS c_MAX_MODULUS) (by first | rfl | with_unfolding_all rfl))))) (sss_cons (ss_raise C (pm_own x_NotAllowed.toXCls g10_NotAllowed))
      sss_nil) sss_nil)
      sss_nil)
theorem w11 (z_len : mg "len" = none) : Walk pr w K mg base ca N11 "row_of_two" s11 n (execs (phi TB F n) F b11) := fun A sA HA a fA cdv outer xe h0 av avok W hr C =>
    (sss_cons (ss_own C n11_1 (Or.inl l11_1) (se_lst (by decide) ses_nil))
      (sss_cons (ss_own C n11_2 (Or.inl l11_2) se_emp)
      (sss_cons (ss_set C n11_3 (Or.inl l11_3) (Rf.PE.new (se_bin C .mod se_int (se_var C n11_0 (Or.inl l11_0)))))
      (sss_cons (ss_while C (st_cmp C .notin (se_var C n11_3 (Or.inl l11_3)) (se_vw C n11_2 (Or.inl l11_2) (by decide)) (by first | rfl | with_unfolding_all rfl)) (sss_cons (ss_setd C n11_2 (Or.inl l11_2) (se_flat rfl (se_bltB C (cl_len C.calm) g11_len z_len (by decide +kernel) (ses_cons (se_vw C n11_1 (Or.inl l11_1) (by decide)) ses_nil))) (se_var C n11_3 (Or.inl l11_3)))
      (sss_cons (ss_app C n11_1 (Or.inl l11_1) (se_var C n11_3 (Or.inl l11_3)))
      (sss_cons (ss_set C n11_3 (Or.inl l11_3) (Rf.PE.new (se_bin C .mod (Rf.PE.new (se_bin C .mul (se_var C n11_3 (Or.inl l11_3)) se_int)) (se_var C n11_0 (Or.inl l11_0)))))
      sss_nil))))
      (sss_cons (ss_ret (se_tup (by decide) (ses_cons (se_vw C n11_1 (Or.inl l11_1) (by decide)) (ses_cons (se_idx C (se_vw C n11_2 (Or.inl l11_2) (by decide)) (se_var C n11_3 (Or.inl l11_3)) (fun _ _ => rfl)) ses_nil))))
      sss_nil)))))
theorem w12 (hf_check_modulus_remainders : Good pr w K mg base ca TB F "check_modulus_remainders" 10 n) (q_number : NewG pr w K mg base Cl rv TB F "Powers" "number" 33 n) : Walk pr w K mg base ca N12 "remainder" s12 n (execs (phi TB F n) F b12) := fun A sA HA a fA cdv outer xe h0 av avok W hr C =>
    (sss_cons (ss_expr (se_call C (hf_check_modulus_remainders.fn hr) g12_check_modulus_remainders (ses_cons (se_var C n12_1 (Or.inl l12_1)) ses_nil)))
      (sss_cons (ss_ret (se_new C (q_number.at_ _ rfl rfl rfl rfl rfl hr) (by decide +kernel) g12_Powers (pe_var (i := 0) n12_0 (Or.inl l12_0) (by decide) (by decide)) (pe_var (i := 1) n12_1 (Or.inl l12_1) (by decide) (by decide))))
      sss_nil))
theorem w13 {k_MAX_TURN_MODULUS : Tok} (c_MAX_TURN_MODULUS : mg "MAX_TURN_MODULUS" = some (.int 12 k_MAX_TURN_MODULUS)) (x_NotAllowed : XFull K mg "NotAllowed" (ca 1)) : Walk pr w K mg base ca N13 "check_modulus" s13 n (execs (phi TB F n) F b13) := fun A sA HA a fA cdv outer xe h0 av avok W hr C =>
    (sss_cons (ss_if (PW.pt (st_or (st_cmp C .lt (se_var C n13_0 (Or.inl l13_0)) se_int (by first | rfl | with_unfolding_all rfl)) (st_or1 (st_cmp C .gt (se_var C n13_0 (Or.inl l13_0)) (se_globI g13_MAX_TURN_MODULUS c_MAX_TURN_MODULUS) (by first | rfl | with_unfolding_all rfl))))) (sss_cons (ss_raise C (pm_own x_NotAllowed.toXCls g13_NotAllowed))
      sss_nil) sss_nil)
      sss_nil)
theorem w14 (hf_sign_of : Good pr w K mg base ca TB F "sign_of" 3 n) (x_NotAllowed : XFull K mg "NotAllowed" (ca 1)) : Walk pr w K mg base ca N14 "check_times" s14 n (execs (phi TB F n) F b14) := fun A sA HA a fA cdv outer xe h0 av avok W hr C =>
    (sss_cons (ss_if (st_cmp C .lt (se_call C (hf_sign_of.fn hr) g14_sign_of (ses_cons (se_var C n14_0 (Or.inl l14_0)) ses_nil)) se_int (by first | rfl | with_unfolding_all rfl)) (sss_cons (ss_raise C (pm_own x_NotAllowed.toXCls g14_NotAllowed))
      sss_nil) sss_nil)
      sss_nil)
theorem w15 (z_tuple : mg "tuple" = none) : Walk pr w K mg base ca N15 "turned" s15 n (execs (phi TB F n) F b15) := fun A sA HA a fA cdv outer xe h0 av avok W hr C =>
    (sss_cons (ss_tgt C (sg_tp C.calm rfl (sgs_cons (sg_nm C.hN C.nd n15_3 (Or.inr l15_3) (by first | exact .inl rfl | exact .inr rfl)) (sgs_cons (sg_nm C.hN C.nd n15_4 (Or.inr l15_4) (by first | exact .inl rfl | exact .inr rfl)) (sgs_cons (sg_nm C.hN C.nd n15_5 (Or.inr l15_5) (by first | exact .inl rfl | exact .inr rfl)) sgs_nil)))) (se_var C n15_1 (Or.inl l15_1)))
      (sss_cons (ss_ret (Rf.PE.new (se_bltT C (cl_tuple) g15_tuple z_tuple (by decide +kernel) (ses_cons (Rf.PE.new (Rf.PE.modeN (se_comp C (own := [("row", 6)]) (si_tup C (se_var C n15_0 (Or.inl l15_0))) rfl (blkOk_by (N := N15) (sc := defScope s15) (by decide +kernel)) (fun _ _ _ _ _ _ C => (sg_nm C.hN C.nd n15_6 (by first | exact Or.inl rfl | exact Or.inr rfl) (by first | exact .inl rfl | exact .inr rfl))) (fun _ _ _ _ _ _ _ _ C => sf_nil) (fun _ _ _ _ _ _ _ _ C => (Rf.PE.new (se_bin C .mod (Rf.PE.new (se_bin C .add (Rf.PE.new (se_bin C .add (Rf.PE.new (se_bin C .add (Rf.PE.new (se_bin C .mul (se_idx C (se_var C n15_6 (by first | exact Or.inl rfl | exact Or.inr (Or.inl rfl) | exact Or.inr (Or.inr rfl))) se_int (fun _ _ => rfl)) (se_var C n15_3 (by first | exact Or.inl rfl | exact Or.inr (Or.inl rfl) | exact Or.inr (Or.inr rfl))))) (Rf.PE.new (se_bin C .mul (se_idx C (se_var C n15_6 (by first | exact Or.inl rfl | exact Or.inr (Or.inl rfl) | exact Or.inr (Or.inr rfl))) se_int (fun _ _ => rfl)) (se_var C n15_4 (by first | exact Or.inl rfl | exact Or.inr (Or.inl rfl) | exact Or.inr (Or.inr rfl))))))) (Rf.PE.new (se_bin C .mul (se_idx C (se_var C n15_6 (by first | exact Or.inl rfl | exact Or.inr (Or.inl rfl) | exact Or.inr (Or.inr rfl))) se_int (fun _ _ => rfl)) (se_var C n15_5 (by first | exact Or.inl rfl | exact Or.inr (Or.inl rfl) | exact Or.inr (Or.inr rfl))))))) (se_idx C (se_var C n15_6 (by first | exact Or.inl rfl | exact Or.inr (Or.inl rfl) | exact Or.inr (Or.inr rfl))) se_int (fun _ _ => rfl)))) (se_var C n15_2 (by first | exact Or.inl rfl | exact Or.inr (Or.inl rfl) | exact Or.inr (Or.inr rfl))))))))) ses_nil))))
      sss_nil))
theorem w16 (hf_turned : Good pr w K mg base ca TB F "turned" 15 n) (z_len : mg "len" = none) (z_tuple : mg "tuple" = none) : Walk pr w K mg base ca N16 "states_of" s16 n (execs (phi TB F n) F b16) := fun A sA HA a fA cdv outer xe h0 av avok W hr C =>
    (sss_cons (ss_set C n16_3 (Or.inl l16_3) (Rf.PE.new (se_bltT C (cl_tuple) g16_tuple z_tuple (by decide +kernel) (ses_cons (Rf.PE.new (Rf.PE.modeN (se_comp C (own := [("value", 6)]) (si_tup C (se_var C n16_1 (Or.inl l16_1))) rfl (blkOk_by (N := N16) (sc := defScope s16) (by decide +kernel)) (fun _ _ _ _ _ _ C => (sg_nm C.hN C.nd n16_6 (by first | exact Or.inl rfl | exact Or.inr rfl) (by first | exact .inl rfl | exact .inr rfl))) (fun _ _ _ _ _ _ _ _ C => sf_nil) (fun _ _ _ _ _ _ _ _ C => (Rf.PE.new (se_bin C .mod (se_var C n16_6 (by first | exact Or.inl rfl | exact Or.inr (Or.inl rfl) | exact Or.inr (Or.inr rfl))) (se_var C n16_2 (by first | exact Or.inl rfl | exact Or.inr (Or.inl rfl) | exact Or.inr (Or.inr rfl))))))))) ses_nil))))
      (sss_cons (ss_towe C n16_4 (Or.inl l16_4))
      (sss_cons (ss_own C n16_5 (Or.inl l16_5) (se_lst (by decide) ses_nil))
      (sss_cons (ss_while C (st_tni C n16_4 (Or.inl l16_4) (se_var C n16_3 (Or.inl l16_3))) (sss_cons (ss_tset C n16_4 (Or.inl l16_4) (se_flat rfl (se_bltB C (cl_len C.calm) g16_len z_len (by decide +kernel) (ses_cons (se_vw C n16_5 (Or.inl l16_5) (by decide)) ses_nil))) (se_var C n16_3 (Or.inl l16_3)))
      (sss_cons (ss_app C n16_5 (Or.inl l16_5) (se_var C n16_3 (Or.inl l16_3)))
      (sss_cons (ss_set C n16_3 (Or.inl l16_3) (se_call C (hf_turned.fn hr) g16_turned (ses_cons (se_var C n16_0 (Or.inl l16_0)) (ses_cons (se_var C n16_3 (Or.inl l16_3)) (ses_cons (se_var C n16_2 (Or.inr (Or.inl l16_2))) ses_nil)))))
      sss_nil))))
      (sss_cons (ss_ret (se_tup (by decide) (ses_cons (se_vw C n16_5 (Or.inl l16_5) (by decide)) (ses_cons (se_tget C n16_4 (Or.inl l16_4) (se_var C n16_3 (Or.inl l16_3)) (fun _ _ => rfl)) ses_nil))))
      sss_nil)))))
theorem w17 (hf_check_modulus_turns : Good pr w K mg base ca TB F "check_modulus_turns" 13 n) (hf_states_of : Good pr w K mg base ca TB F "states_of" 16 n) (z_len : mg "len" = none) : Walk pr w K mg base ca N17 "cycle_of" s17 n (execs (phi TB F n) F b17) := fun A sA HA a fA cdv outer xe h0 av avok W hr C =>
    (sss_cons (ss_expr (se_call C (hf_check_modulus_turns.fn hr) g17_check_modulus_turns (ses_cons (se_var C n17_2 (Or.inl l17_2)) ses_nil)))
      (sss_cons (ss_tgt C (sg_tp C.calm rfl (sgs_cons (sg_nm C.hN C.nd n17_3 (Or.inl l17_3) (by first | exact .inl rfl | exact .inr rfl)) (sgs_cons (sg_nm C.hN C.nd n17_4 (Or.inl l17_4) (by first | exact .inl rfl | exact .inr rfl)) sgs_nil))) (se_call C (hf_states_of.fn hr) g17_states_of (ses_cons (se_var C n17_0 (Or.inl l17_0)) (ses_cons (se_var C n17_1 (Or.inl l17_1)) (ses_cons (se_var C n17_2 (Or.inl l17_2)) ses_nil)))))
      (sss_cons (ss_ret (se_tup (by decide) (ses_cons (se_var C n17_4 (Or.inl l17_4)) (ses_cons (Rf.PE.new (se_bin C .sub (se_flat rfl (se_bltB C (cl_len C.calm) g17_len z_len (by decide +kernel) (ses_cons (se_var C n17_3 (Or.inl l17_3)) ses_nil))) (se_var C n17_4 (Or.inl l17_4)))) ses_nil))))
      sss_nil)))
theorem w18 (hf_compare : Good pr w K mg base ca TB F "compare" 2 n) (hf_from_int : Good pr w K mg base ca TB F "from_int" 4 n) (hf_remainder : Good pr w K mg base ca TB F "remainder" 12 n) (hf_states_of : Good pr w K mg base ca TB F "states_of" 16 n) (hf_to_int : Good pr w K mg base ca TB F "to_int" 9 n) (z_len : mg "len" = none) : Walk pr w K mg base ca N18 "state_at" s18 n (execs (phi TB F n) F b18) := fun A sA HA a fA cdv outer xe h0 av avok W hr C =>
    (sss_cons (ss_tgt C (sg_tp C.calm rfl (sgs_cons (sg_nm C.hN C.nd n18_4 (Or.inl l18_4) (by first | exact .inl rfl | exact .inr rfl)) (sgs_cons (sg_nm C.hN C.nd n18_5 (Or.inl l18_5) (by first | exact .inl rfl | exact .inr rfl)) sgs_nil))) (se_call C (hf_states_of.fn hr) g18_states_of (ses_cons (se_var C n18_0 (Or.inl l18_0)) (ses_cons (se_var C n18_1 (Or.inl l18_1)) (ses_cons (se_var C n18_3 (Or.inl l18_3)) ses_nil)))))
      (sss_cons (ss_if (st_cmp C .lt (se_call C (hf_compare.fn hr) g18_compare (ses_cons (se_var C n18_2 (Or.inl l18_2)) (ses_cons (se_call C (hf_from_int.fn hr) g18_from_int (ses_cons (se_flat rfl (se_bltB C (cl_len C.calm) g18_len z_len (by decide +kernel) (ses_cons (se_var C n18_4 (Or.inl l18_4)) ses_nil))) ses_nil)) ses_nil))) se_int (by first | rfl | with_unfolding_all rfl)) (sss_cons (ss_ret (se_idx C (se_var C n18_4 (Or.inl l18_4)) (se_call C (hf_to_int.fn hr) g18_to_int (ses_cons (se_var C n18_2 (Or.inl l18_2)) ses_nil)) (fun _ _ => rfl)))
      sss_nil) sss_nil)
      (sss_cons (ss_set C n18_6 (Or.inl l18_6) (Rf.PE.new (se_bin C .sub (se_flat rfl (se_bltB C (cl_len C.calm) g18_len z_len (by decide +kernel) (ses_cons (se_var C n18_4 (Or.inl l18_4)) ses_nil))) (se_var C n18_5 (Or.inl l18_5)))))
      (sss_cons (ss_ret (se_idx C (se_var C n18_4 (Or.inl l18_4)) (Rf.PE.new (se_bin C .add (se_var C n18_5 (Or.inl l18_5)) (Rf.PE.new (se_bin C .mod (Rf.PE.new (se_bin C .sub (se_call C (hf_remainder.fn hr) g18_remainder (ses_cons (se_var C n18_2 (Or.inl l18_2)) (ses_cons (se_var C n18_6 (Or.inl l18_6)) ses_nil))) (se_var C n18_5 (Or.inl l18_5)))) (se_var C n18_6 (Or.inl l18_6)))))) (fun _ _ => rfl)))
      sss_nil))))
theorem w19 (hf_check_modulus_turns : Good pr w K mg base ca TB F "check_modulus_turns" 13 n) (hf_check_times : Good pr w K mg base ca TB F "check_times" 14 n) (hf_state_at : Good pr w K mg base ca TB F "state_at" 18 n) : Walk pr w K mg base ca N19 "state_behind" s19 n (execs (phi TB F n) F b19) := fun A sA HA a fA cdv outer xe h0 av avok W hr C =>
    (sss_cons (ss_expr (se_call C (hf_check_modulus_turns.fn hr) g19_check_modulus_turns (ses_cons (se_var C n19_3 (Or.inl l19_3)) ses_nil)))
      (sss_cons (ss_expr (se_call C (hf_check_times.fn hr) g19_check_times (ses_cons (se_var C n19_2 (Or.inl l19_2)) ses_nil)))
      (sss_cons (ss_ret (se_call C (hf_state_at.fn hr) g19_state_at (ses_cons (se_var C n19_0 (Or.inl l19_0)) (ses_cons (se_var C n19_1 (Or.inl l19_1)) (ses_cons (se_var C n19_2 (Or.inl l19_2)) (ses_cons (se_var C n19_3 (Or.inl l19_3)) ses_nil))))))
      sss_nil)))
theorem w20 (hf_check_modulus_turns : Good pr w K mg base ca TB F "check_modulus_turns" 13 n) : Walk pr w K mg base ca N20 "joined" s20 n (execs (phi TB F n) F b20) := fun A sA HA a fA cdv outer xe h0 av avok W hr C =>
    (sss_cons (ss_expr (se_call C (hf_check_modulus_turns.fn hr) g20_check_modulus_turns (ses_cons (se_var C n20_2 (Or.inr (Or.inl l20_2))) ses_nil)))
      sss_stop)
theorem w21 (hf_check_modulus_turns : Good pr w K mg base ca TB F "check_modulus_turns" 13 n) (hf_check_times : Good pr w K mg base ca TB F "check_times" 14 n) : Walk pr w K mg base ca N21 "table_behind" s21 n (execs (phi TB F n) F b21) := fun A sA HA a fA cdv outer xe h0 av avok W hr C =>
    (sss_cons (ss_expr (se_call C (hf_check_modulus_turns.fn hr) g21_check_modulus_turns (ses_cons (se_var C n21_2 (Or.inr (Or.inl l21_2))) ses_nil)))
      (sss_cons (ss_expr (se_call C (hf_check_times.fn hr) g21_check_times (ses_cons (se_var C n21_1 (Or.inr (Or.inl l21_1))) ses_nil)))
      sss_stop))
theorem w22 (z_len : mg "len" = none) : Walk pr w K mg base ca N22 "_law_cell" s22 n (execs (phi TB F n) F b22) := fun A sA HA a fA cdv outer xe h0 av avok W hr C =>
    (sss_cons (ss_if (st_cmp C .lt (se_var C n22_1 (Or.inl l22_1)) (se_flat rfl (se_bltB C (cl_len C.calm) g22_len z_len (by decide +kernel) (ses_cons (se_var C n22_0 (Or.inl l22_0)) ses_nil))) (by first | rfl | with_unfolding_all rfl)) (sss_cons (ss_ret (se_idx C (se_var C n22_0 (Or.inl l22_0)) (se_var C n22_1 (Or.inl l22_1)) (fun _ _ => rfl)))
      sss_nil) sss_nil)
      (sss_cons (ss_ret se_int)
      sss_nil))
theorem w23 (z_int : mg "int" = none) (z_range : mg "range" = none) : Walk pr w K mg base ca N23 "_law_numbers" s23 n (execs (phi TB F n) F b23) := fun A sA HA a fA cdv outer xe h0 av avok W hr C =>
    (sss_cons (ss_own C n23_3 (Or.inl l23_3) (se_lst (by decide) ses_nil))
      (sss_cons (ss_if (st_cmp C .ge (se_var C n23_0 (Or.inl l23_0)) (Rf.PE.new (se_bin C .pow se_int se_int)) (by first | rfl | with_unfolding_all rfl)) (sss_cons (ss_set C n23_4 (Or.inl l23_4) (se_var C n23_0 (Or.inl l23_0)))
      (sss_cons (ss_for C (si_rng1 g23_range z_range (ses_cons (se_var C n23_2 (Or.inl l23_2)) ses_nil)) (sg_nm C.hN C.nd n23_5 (Or.inl l23_5) (by first | exact .inl rfl | exact .inr rfl)) (fun _ _ C => (sss_cons (ss_app C n23_3 (Or.inl l23_3) (Rf.PE.new (se_bin C .mod (se_flat rfl (se_bltT C (cl_int) g23_int z_int (by decide +kernel) (ses_cons (se_var C n23_4 (Or.inl l23_4)) ses_nil))) se_int)))
      (sss_cons (ss_set C n23_4 (Or.inl l23_4) (Rf.PE.new (se_bin C .fdiv (se_var C n23_4 (Or.inl l23_4)) se_int)))
      sss_nil))))
      (sss_cons (ss_ret (se_vw C n23_3 (Or.inl l23_3) (by decide)))
      sss_nil))) sss_nil)
      (sss_cons (ss_set C n23_6 (Or.inl l23_6) (Rf.PE.new (se_bin C .mod (se_flat rfl (se_bltT C (cl_int) g23_int z_int (by decide +kernel) (ses_cons (Rf.PE.new (se_bin C .add (Rf.PE.new (se_bin C .add (Rf.PE.new (se_bin C .mul (se_var C n23_0 (Or.inl l23_0)) se_int)) (Rf.PE.new (se_bin C .mul (se_var C n23_1 (Or.inl l23_1)) se_int)))) se_int)) ses_nil))) se_int)))
      (sss_cons (ss_for C (si_rng1 g23_range z_range (ses_cons (se_var C n23_2 (Or.inl l23_2)) ses_nil)) (sg_nm C.hN C.nd n23_5 (Or.inl l23_5) (by first | exact .inl rfl | exact .inr rfl)) (fun _ _ C => (sss_cons (ss_set C n23_6 (Or.inl l23_6) (Rf.PE.new (se_bin C .mod (se_flat rfl (se_bltT C (cl_int) g23_int z_int (by decide +kernel) (ses_cons (Rf.PE.new (se_bin C .add (Rf.PE.new (se_bin C .add (Rf.PE.new (se_bin C .mul (se_var C n23_6 (Or.inl l23_6)) se_int)) (Rf.PE.new (se_bin C .mul (se_var C n23_5 (Or.inl l23_5)) se_int)))) se_int)) ses_nil))) se_int)))
      (sss_cons (ss_set C n23_7 (Or.inl l23_7) (Rf.PE.new (se_bin C .mod (se_flat rfl (se_bltT C (cl_int) g23_int z_int (by decide +kernel) (ses_cons (Rf.PE.new (se_bin C .add (Rf.PE.new (se_bin C .add (Rf.PE.new (se_bin C .mul (se_var C n23_6 (Or.inl l23_6)) (se_var C n23_6 (Or.inl l23_6)))) (Rf.PE.new (se_bin C .mul (se_var C n23_1 (Or.inl l23_1)) se_int)))) (se_var C n23_5 (Or.inl l23_5)))) ses_nil))) se_int)))
      (sss_cons (ss_app C n23_3 (Or.inl l23_3) (Rf.PE.new (se_bin C .mod (se_flat rfl (se_bltT C (cl_int) g23_int z_int (by decide +kernel) (ses_cons (Rf.PE.new (se_bin C .fdiv (se_var C n23_7 (Or.inl l23_7)) se_int)) ses_nil))) se_int)))
      sss_nil)))))
      (sss_cons (ss_ret (se_vw C n23_3 (Or.inl l23_3) (by decide)))
      sss_nil)))))
theorem w24 (z_int : mg "int" = none) (z_len : mg "len" = none) : Walk pr w K mg base ca N24 "_law_entry" s24 n (execs (phi TB F n) F b24) := fun A sA HA a fA cdv outer xe h0 av avok W hr C =>
    (sss_cons (ss_set C n24_2 (Or.inl l24_2) (se_flat rfl (se_bltT C (cl_int) g24_int z_int (by decide +kernel) (ses_cons (se_idx C (se_var C n24_0 (Or.inl l24_0)) (Rf.PE.new (se_bin C .mod (se_flat rfl (se_bltT C (cl_int) g24_int z_int (by decide +kernel) (ses_cons (se_var C n24_1 (Or.inl l24_1)) ses_nil))) (se_flat rfl (se_bltB C (cl_len C.calm) g24_len z_len (by decide +kernel) (ses_cons (se_var C n24_0 (Or.inl l24_0)) ses_nil))))) (fun _ _ => rfl)) ses_nil))))
      (sss_cons (ss_if (st_cmp C .eq (Rf.PE.new (se_bin C .mod (se_flat rfl (se_bltT C (cl_int) g24_int z_int (by decide +kernel) (ses_cons (se_var C n24_2 (Or.inl l24_2)) ses_nil))) se_int)) se_int (by first | rfl | with_unfolding_all rfl)) (sss_cons (ss_ret (Rf.PE.new (se_bin C .add (Rf.PE.new (se_bin C .mul (Rf.PE.new (se_bin C .sub (se_var C n24_2 (Or.inl l24_2)) se_int)) (Rf.PE.new (se_bin C .pow se_int se_int)))) (se_var C n24_2 (Or.inl l24_2)))))
      sss_nil) sss_nil)
      (sss_cons (ss_ret (se_idx C (Rf.PE.new (se_lst (by decide) (ses_cons (Rf.PE.new (se_bin C .sub (Rf.PE.new (se_bin C .mod (se_flat rfl (se_bltT C (cl_int) g24_int z_int (by decide +kernel) (ses_cons (se_var C n24_2 (Or.inl l24_2)) ses_nil))) se_int)) se_int)) (ses_cons (Rf.PE.new (se_bin C .sub (Rf.PE.new (se_bin C .mod (se_flat rfl (se_bltT C (cl_int) g24_int z_int (by decide +kernel) (ses_cons (se_var C n24_2 (Or.inl l24_2)) ses_nil))) se_int)) se_int)) (ses_cons se_int ses_nil))))) (Rf.PE.new (se_bin C .mod (Rf.PE.new (se_bin C .fdiv (se_var C n24_2 (Or.inl l24_2)) se_int)) se_int)) (fun _ _ => rfl)))
      sss_nil)))
theorem w25 (hf__law_entry : Good pr w K mg base ca TB F "_law_entry" 24 n) (z_int : mg "int" = none) (z_len : mg "len" = none) (z_range : mg "range" = none) (z_tuple : mg "tuple" = none) : Walk pr w K mg base ca N25 "_law_table" s25 n (execs (phi TB F n) F b25) := fun A sA HA a fA cdv outer xe h0 av avok W hr C =>
    (sss_cons (ss_set C n25_2 (Or.inr l25_2) (se_idx C (Rf.PE.new (se_lst (by decide) (ses_cons se_int (ses_cons se_int (ses_cons se_int (ses_cons se_int (ses_cons se_int (ses_cons se_int ses_nil)))))))) (Rf.PE.new (se_bin C .mod (se_flat rfl (se_bltT C (cl_int) g25_int z_int (by decide +kernel) (ses_cons (se_idx C (se_var C n25_0 (Or.inr (Or.inl l25_0))) (Rf.PE.new (se_bin C .mod (se_flat rfl (se_bltT C (cl_int) g25_int z_int (by decide +kernel) (ses_cons (se_var C n25_1 (Or.inr (Or.inl l25_1))) ses_nil))) (se_flat rfl (se_bltB C (cl_len C.calm) g25_len z_len (by decide +kernel) (ses_cons (se_var C n25_0 (Or.inr (Or.inl l25_0))) ses_nil))))) (fun _ _ => rfl)) ses_nil))) se_int)) (fun _ _ => rfl)))
      (sss_cons (ss_own C n25_3 (Or.inl l25_3) (se_lst (by decide) ses_nil))
      (sss_cons (ss_for C (si_rng1 g25_range z_range (ses_cons se_int ses_nil)) (sg_nm C.hN C.nd n25_4 (Or.inr l25_4) (by first | exact .inl rfl | exact .inr rfl)) (fun _ _ C => (sss_cons (by first | exact ss_lc C n25_5 l25_5 (by exact sw_true rfl rfl rfl (by decide +kernel)) (own := [("_law_j", 6)]) (si_rng1 g25_range z_range (ses_cons se_int ses_nil)) rfl (blkOk_by (N := N25) (sc := defScope s25) (by decide +kernel)) (fun _ _ _ _ _ _ C => (sg_nm C.hN C.nd n25_6 (by first | exact Or.inl rfl | exact Or.inr rfl) (by first | exact .inl rfl | exact .inr rfl))) (fun _ _ _ _ _ _ _ _ C => sf_nil) (fun _ _ _ _ _ _ _ _ C => (Rf.PE.new (se_bin C .mul (se_var C n25_2 (by first | exact Or.inl rfl | exact Or.inr (Or.inl rfl) | exact Or.inr (Or.inr rfl))) (se_call C (hf__law_entry.fn hr) (by rfl) (ses_cons (se_var C n25_0 (by first | exact Or.inl rfl | exact Or.inr (Or.inl rfl) | exact Or.inr (Or.inr rfl))) (ses_cons (Rf.PE.new (se_bin C .add (Rf.PE.new (se_bin C .add (se_var C n25_1 (by first | exact Or.inl rfl | exact Or.inr (Or.inl rfl) | exact Or.inr (Or.inr rfl))) (Rf.PE.new (se_bin C .mul se_int (se_var C n25_4 (by first | exact Or.inl rfl | exact Or.inr (Or.inl rfl) | exact Or.inr (Or.inr rfl))))))) (se_var C n25_6 (by first | exact Or.inl rfl | exact Or.inr (Or.inl rfl) | exact Or.inr (Or.inr rfl))))) ses_nil)))))) (fun _ _ _ h => asgN_of h) | exact ss_set C n25_5 (Or.inl l25_5) (Rf.PE.new (se_comp C (own := [("_law_j", 6)]) (si_rng1 g25_range z_range (ses_cons se_int ses_nil)) rfl (blkOk_by (N := N25) (sc := defScope s25) (by decide +kernel)) (fun _ _ _ _ _ _ C => (sg_nm C.hN C.nd n25_6 (by first | exact Or.inl rfl | exact Or.inr rfl) (by first | exact .inl rfl | exact .inr rfl))) (fun _ _ _ _ _ _ _ _ C => sf_nil) (fun _ _ _ _ _ _ _ _ C => (Rf.PE.new (se_bin C .mul (se_var C n25_2 (by first | exact Or.inl rfl | exact Or.inr (Or.inl rfl) | exact Or.inr (Or.inr rfl))) (se_call C (hf__law_entry.fn hr) (by rfl) (ses_cons (se_var C n25_0 (by first | exact Or.inl rfl | exact Or.inr (Or.inl rfl) | exact Or.inr (Or.inr rfl))) (ses_cons (Rf.PE.new (se_bin C .add (Rf.PE.new (se_bin C .add (se_var C n25_1 (by first | exact Or.inl rfl | exact Or.inr (Or.inl rfl) | exact Or.inr (Or.inr rfl))) (Rf.PE.new (se_bin C .mul se_int (se_var C n25_4 (by first | exact Or.inl rfl | exact Or.inr (Or.inl rfl) | exact Or.inr (Or.inr rfl))))))) (se_var C n25_6 (by first | exact Or.inl rfl | exact Or.inr (Or.inl rfl) | exact Or.inr (Or.inr rfl))))) ses_nil)))))))))
      (sss_cons (ss_app C n25_3 (Or.inl l25_3) (Rf.PE.new (se_bltT C (cl_tuple) g25_tuple z_tuple (by decide +kernel) (ses_cons (Rf.PE.new (se_bin C .add (se_var C n25_5 (Or.inl l25_5)) (Rf.PE.new (se_lst (by decide) (ses_cons (se_call C (hf__law_entry.fn hr) g25__law_entry (ses_cons (se_var C n25_0 (Or.inr (Or.inl l25_0))) (ses_cons (Rf.PE.new (se_bin C .add (Rf.PE.new (se_bin C .add (se_var C n25_1 (Or.inr (Or.inl l25_1))) (Rf.PE.new (se_bin C .mul se_int (se_var C n25_4 (Or.inr (Or.inl l25_4))))))) se_int)) ses_nil))) ses_nil))))) ses_nil))))
      sss_nil))))
      (sss_cons (ss_ret (Rf.PE.new (se_bltT C (cl_tuple) g25_tuple z_tuple (by decide +kernel) (ses_cons (se_vw C n25_3 (Or.inl l25_3) (by decide)) ses_nil))))
      sss_nil))))
theorem w26 (z_int : mg "int" = none) (z_range : mg "range" = none) (z_tuple : mg "tuple" = none) : Walk pr w K mg base ca N26 "_law_turned" s26 n (execs (phi TB F n) F b26) := fun A sA HA a fA cdv outer xe h0 av avok W hr C =>
    (sss_cons (ss_own C n26_3 (Or.inl l26_3) (se_lst (by decide) ses_nil))
      (sss_cons (ss_for C (si_tup C (se_var C n26_0 (Or.inl l26_0))) (sg_nm C.hN C.nd n26_4 (Or.inl l26_4) (by first | exact .inl rfl | exact .inr rfl)) (fun _ _ C => (sss_cons (ss_set C n26_5 (Or.inl l26_5) (se_idx C (se_var C n26_4 (Or.inl l26_4)) se_int (fun _ _ => rfl)))
      (sss_cons (ss_for C (si_rng1 g26_range z_range (ses_cons se_int ses_nil)) (sg_nm C.hN C.nd n26_6 (Or.inl l26_6) (by first | exact .inl rfl | exact .inr rfl)) (fun _ _ C => (sss_cons (ss_set C n26_5 (Or.inl l26_5) (Rf.PE.new (se_bin C .add (se_var C n26_5 (Or.inl l26_5)) (Rf.PE.new (se_bin C .mul (se_idx C (se_var C n26_4 (Or.inl l26_4)) (se_var C n26_6 (Or.inl l26_6)) (fun _ _ => rfl)) (se_idx C (se_var C n26_1 (Or.inl l26_1)) (se_var C n26_6 (Or.inl l26_6)) (fun _ _ => rfl)))))))
      sss_nil)))
      (sss_cons (ss_app C n26_3 (Or.inl l26_3) (Rf.PE.new (se_bin C .mod (se_flat rfl (se_bltT C (cl_int) g26_int z_int (by decide +kernel) (ses_cons (se_var C n26_5 (Or.inl l26_5)) ses_nil))) (se_var C n26_2 (Or.inl l26_2)))))
      sss_nil)))))
      (sss_cons (ss_ret (Rf.PE.new (se_bltT C (cl_tuple) g26_tuple z_tuple (by decide +kernel) (ses_cons (se_vw C n26_3 (Or.inl l26_3) (by decide)) ses_nil))))
      sss_nil)))
theorem w27 (hf__law_turned : Good pr w K mg base ca TB F "_law_turned" 26 n) (z_int : mg "int" = none) (z_range : mg "range" = none) (z_tuple : mg "tuple" = none) : Walk pr w K mg base ca N27 "_law_cycle" s27 n (execs (phi TB F n) F b27) := fun A sA HA a fA cdv outer xe h0 av avok W hr C =>
    (sss_cons (ss_own C n27_3 (Or.inl l27_3) (se_lst (by decide) (ses_cons (Rf.PE.new (se_bltT C (cl_tuple) g27_tuple z_tuple (by decide +kernel) (ses_cons (Rf.PE.new (Rf.PE.modeN (se_comp C (own := [("_law_value", 7)]) (si_tup C (se_var C n27_1 (Or.inl l27_1))) rfl (blkOk_by (N := N27) (sc := defScope s27) (by decide +kernel)) (fun _ _ _ _ _ _ C => (sg_nm C.hN C.nd n27_7 (by first | exact Or.inl rfl | exact Or.inr rfl) (by first | exact .inl rfl | exact .inr rfl))) (fun _ _ _ _ _ _ _ _ C => sf_nil) (fun _ _ _ _ _ _ _ _ C => (Rf.PE.new (se_bin C .mod (se_flat rfl (se_bltT C (cl_int) (by rfl) z_int (by decide +kernel) (ses_cons (se_var C n27_7 (by first | exact Or.inl rfl | exact Or.inr (Or.inl rfl) | exact Or.inr (Or.inr rfl))) ses_nil))) (se_var C n27_2 (by first | exact Or.inl rfl | exact Or.inr (Or.inl rfl) | exact Or.inr (Or.inr rfl))))))))) ses_nil))) ses_nil)))
      (sss_cons (ss_towp C n27_4 (Or.inl l27_4) (se_idx C (se_vw C n27_3 (Or.inl l27_3) (by decide)) se_int (fun _ _ => rfl)) se_int)
      (sss_cons (ss_for C (si_rng2 g27_range z_range (ses_cons se_int (ses_cons se_int ses_nil))) (sg_nm C.hN C.nd n27_5 (Or.inl l27_5) (by first | exact .inl rfl | exact .inr rfl)) (fun _ _ C => (sss_cons (ss_set C n27_6 (Or.inl l27_6) (se_call C (hf__law_turned.fn hr) g27__law_turned (ses_cons (se_var C n27_0 (Or.inl l27_0)) (ses_cons (se_idx C (se_vw C n27_3 (Or.inl l27_3) (by decide)) (se_neg se_int) (fun _ _ => rfl)) (ses_cons (se_var C n27_2 (Or.inr (Or.inl l27_2))) ses_nil)))))
      (sss_cons (ss_if (st_tin C n27_4 (Or.inl l27_4) (se_var C n27_6 (Or.inl l27_6))) (sss_cons (ss_ret (se_tup (by decide) (ses_cons (se_vw C n27_3 (Or.inl l27_3) (by decide)) (ses_cons (se_tget C n27_4 (Or.inl l27_4) (se_var C n27_6 (Or.inl l27_6)) (fun _ _ => rfl)) (ses_cons (Rf.PE.new (se_bin C .sub (se_var C n27_5 (Or.inl l27_5)) (se_tget C n27_4 (Or.inl l27_4) (se_var C n27_6 (Or.inl l27_6)) (fun _ _ => rfl)))) ses_nil)))))
      sss_nil) sss_nil)
      (sss_cons (ss_tset C n27_4 (Or.inl l27_4) (se_var C n27_5 (Or.inl l27_5)) (se_var C n27_6 (Or.inl l27_6)))
      (sss_cons (ss_app C n27_3 (Or.inl l27_3) (se_var C n27_6 (Or.inl l27_6)))
      sss_nil))))))
      (sss_cons (ss_ret (se_tup (by decide) (ses_cons (se_vw C n27_3 (Or.inl l27_3) (by decide)) (ses_cons se_int (ses_cons se_int ses_nil)))))
      sss_nil))))
theorem w28 (hf_cycle_of : Good pr w K mg base ca TB F "cycle_of" 17 n) (hf_joined : Good pr w K mg base ca TB F "joined" 20 n) (hf_of_int : Good pr w K mg base ca TB F "of_int" 7 n) (hf_state_behind : Good pr w K mg base ca TB F "state_behind" 19 n) (hf_table_behind : Good pr w K mg base ca TB F "table_behind" 21 n) (k_NotAllowed_Missing : PySem.W.kitOne K (.ref (ca 1)) (.ref (ca 3)) = some false) (k_NotAllowed_ReckonError : PySem.W.kitOne K (.ref (ca 1)) (.ref (ca 0)) = some true) (k_NotAllowed_TooLarge : PySem.W.kitOne K (.ref (ca 1)) (.ref (ca 2)) = some false) (s_NotAllowed_NotAllowed : PySem.W.subIn K (.ref (ca 1)) (.ref (ca 1)) = some true) (s_TooLarge_NotAllowed : PySem.W.subIn K (.ref (ca 2)) (.ref (ca 1)) = some false) (x_Missing : XFull K mg "Missing" (ca 3)) (x_NotAllowed : XFull K mg "NotAllowed" (ca 1)) (x_ReckonError : XFull K mg "ReckonError" (ca 0)) (x_TooLarge : XFull K mg "TooLarge" (ca 2)) (z_isinstance : mg "isinstance" = none) : Walk pr w K mg base ca N28 "_law_refused" s28 n (execs (phi TB F n) F b28) := fun A sA HA a fA cdv outer xe h0 av avok W hr C =>
    (sss_cons (ss_set C n28_3 (Or.inl l28_3) (se_tup (by decide) (ses_cons (se_tup (by decide) (ses_cons se_int (ses_cons se_int (ses_cons se_int (ses_cons se_int ses_nil))))) (ses_cons (se_tup (by decide) (ses_cons se_int (ses_cons se_int (ses_cons se_int (ses_cons se_int ses_nil))))) (ses_cons (se_tup (by decide) (ses_cons se_int (ses_cons se_int (ses_cons se_int (ses_cons se_int ses_nil))))) ses_nil)))))
      (sss_cons (ss_try C rfl rfl n28_4 l28_4 g28_NotAllowed x_NotAllowed.g (List.forall_mem_cons.mpr ⟨⟨x_NotAllowed.exm s_NotAllowed_NotAllowed, .bl true, rfl, fun ea oe pn hz hf => xs_ret (xk_and (xk_is (X := cxG pr w K mg base N28 "_law_refused" s28 A sA HA a fA cdv outer xe) x_NotAllowed.ex hz hf n28_4 (Or.inl l28_4) g28_isinstance z_isinstance g28_ReckonError x_ReckonError.g k_NotAllowed_ReckonError) (xk_one (xk_not (xk_isT (X := cxG pr w K mg base N28 "_law_refused" s28 A sA HA a fA cdv outer xe) x_NotAllowed.ex hz hf n28_4 (Or.inl l28_4) g28_isinstance z_isinstance g28_Missing x_Missing.g g28_TooLarge x_TooLarge.g k_NotAllowed_Missing k_NotAllowed_TooLarge rfl))))⟩, fun _ z => nomatch z⟩) (List.forall_mem_cons.mpr ⟨(x_NotAllowed.exm s_TooLarge_NotAllowed), fun _ z => nomatch z⟩) (fun W pn xe C => (sss_cons (ss_if (st_cmp C .eq (se_var C n28_0 (Or.inl l28_0)) se_int (by first | rfl | with_unfolding_all rfl)) (sss_cons (ss_expr (se_call C (hf_cycle_of.fn hr) g28_cycle_of (ses_cons (se_var C n28_3 (Or.inl l28_3)) (ses_cons (se_tup (by decide) (ses_cons se_int (ses_cons se_int (ses_cons se_int ses_nil)))) (ses_cons (se_var C n28_1 (Or.inl l28_1)) ses_nil)))))
      sss_nil) (sss_cons (ss_if (st_cmp C .eq (se_var C n28_0 (Or.inl l28_0)) se_int (by first | rfl | with_unfolding_all rfl)) (sss_cons (ss_expr (se_call C (hf_state_behind.fn hr) g28_state_behind (ses_cons (se_var C n28_3 (Or.inl l28_3)) (ses_cons (se_tup (by decide) (ses_cons se_int (ses_cons se_int (ses_cons se_int ses_nil)))) (ses_cons (se_call C (hf_of_int.fn hr) g28_of_int (ses_cons (se_var C n28_2 (Or.inl l28_2)) ses_nil)) (ses_cons (se_var C n28_1 (Or.inl l28_1)) ses_nil))))))
      sss_nil) (sss_cons (ss_if (st_cmp C .eq (se_var C n28_0 (Or.inl l28_0)) se_int (by first | rfl | with_unfolding_all rfl)) (sss_cons (ss_expr (se_call C (hf_joined.fn hr) g28_joined (ses_cons (se_var C n28_3 (Or.inl l28_3)) (ses_cons (se_var C n28_3 (Or.inl l28_3)) (ses_cons (se_var C n28_1 (Or.inl l28_1)) ses_nil)))))
      sss_nil) (sss_cons (ss_expr (se_call C (hf_table_behind.fn hr) g28_table_behind (ses_cons (se_var C n28_3 (Or.inl l28_3)) (ses_cons (se_call C (hf_of_int.fn hr) g28_of_int (ses_cons (se_var C n28_2 (Or.inl l28_2)) ses_nil)) (ses_cons (se_var C n28_1 (Or.inl l28_1)) ses_nil)))))
      sss_nil))
      sss_nil))
      sss_nil))
      sss_nil)))
      (sss_cons (ss_ret se_bl)
      sss_nil)))
theorem w29 {k_MAX_TURN_MODULUS : Tok} (c_MAX_TURN_MODULUS : mg "MAX_TURN_MODULUS" = some (.int 12 k_MAX_TURN_MODULUS)) (hf__law_cell : Good pr w K mg base ca TB F "_law_cell" 22 n) (hf__law_cycle : Good pr w K mg base ca TB F "_law_cycle" 27 n) (hf__law_entry : Good pr w K mg base ca TB F "_law_entry" 24 n) (hf__law_numbers : Good pr w K mg base ca TB F "_law_numbers" 23 n) (hf__law_refused : Good pr w K mg base ca TB F "_law_refused" 28 n) (hf__law_table : Good pr w K mg base ca TB F "_law_table" 25 n) (hf_cycle_of : Good pr w K mg base ca TB F "cycle_of" 17 n) (hf_of_int : Good pr w K mg base ca TB F "of_int" 7 n) (hf_state_behind : Good pr w K mg base ca TB F "state_behind" 19 n) (z_int : mg "int" = none) (z_isinstance : mg "isinstance" = none) (z_len : mg "len" = none) (z_max : mg "max" = none) (z_min : mg "min" = none) (z_range : mg "range" = none) (z_tuple : mg "tuple" = none) : Walk pr w K mg base ca N29 "law" s29 n (execs (phi TB F n) F b29) := fun A sA HA a fA cdv outer xe h0 av avok W hr C =>
    (sss_cons (ss_for C (si_rng1 g29_range z_range (ses_cons (se_flat rfl (se_bltB C (cl_max C.calm) g29_max z_max (by decide +kernel) (ses_cons se_int (ses_cons (se_flat rfl (se_bltB C (cl_min C.calm) g29_min z_min (by decide +kernel) (ses_cons (se_flat rfl (se_bltB C (cl_len C.calm) g29_len z_len (by decide +kernel) (ses_cons (se_var C n29_0 (Or.inl l29_0)) ses_nil))) (ses_cons se_int ses_nil)))) ses_nil)))) ses_nil)) (sg_nm C.hN C.nd n29_1 (Or.inl l29_1) (by first | exact .inl rfl | exact .inr rfl)) (fun _ _ C => (sss_cons (ss_set C n29_2 (Or.inr l29_2) (se_call C (hf__law_numbers.fn hr) g29__law_numbers (ses_cons (se_call C (hf__law_cell.fn hr) g29__law_cell (ses_cons (se_var C n29_0 (Or.inl l29_0)) (ses_cons (se_var C n29_1 (Or.inl l29_1)) ses_nil))) (ses_cons (se_var C n29_1 (Or.inl l29_1)) (ses_cons se_int ses_nil)))))
      (sss_cons (ss_set C n29_3 (Or.inl l29_3) (se_call C (hf__law_table.fn hr) g29__law_table (ses_cons (se_var C n29_2 (Or.inr (Or.inl l29_2))) (ses_cons se_int ses_nil))))
      (sss_cons (ss_set C n29_4 (Or.inl l29_4) (Rf.PE.new (se_bltT C (cl_tuple) g29_tuple z_tuple (by decide +kernel) (ses_cons (Rf.PE.new (Rf.PE.modeN (se_comp C (own := [("_law_j", 13)]) (si_rng1 g29_range z_range (ses_cons se_int ses_nil)) rfl (blkOk_by (N := N29) (sc := defScope s29) (by decide +kernel)) (fun _ _ _ _ _ _ C => (sg_nm C.hN C.nd n29_13 (by first | exact Or.inl rfl | exact Or.inr rfl) (by first | exact .inl rfl | exact .inr rfl))) (fun _ _ _ _ _ _ _ _ C => sf_nil) (fun _ _ _ _ _ _ _ _ C => (se_call C (hf__law_entry.fn hr) (by rfl) (ses_cons (se_var C n29_2 (by first | exact Or.inl rfl | exact Or.inr (Or.inl rfl) | exact Or.inr (Or.inr rfl))) (ses_cons (Rf.PE.new (se_bin C .add se_int (se_var C n29_13 (by first | exact Or.inl rfl | exact Or.inr (Or.inl rfl) | exact Or.inr (Or.inr rfl))))) ses_nil))))))) ses_nil))))
      (sss_cons (ss_set C n29_5 (Or.inl l29_5) (Rf.PE.new (se_bin C .add se_int (Rf.PE.new (se_bin C .mod (se_flat rfl (se_bltT C (cl_int) g29_int z_int (by decide +kernel) (ses_cons (se_idx C (se_var C n29_2 (Or.inr (Or.inl l29_2))) se_int (fun _ _ => rfl)) ses_nil))) (se_idx C (Rf.PE.new (se_lst (by decide) (ses_cons se_int (ses_cons se_int ses_nil)))) (Rf.PE.new (se_bin C .mod (se_flat rfl (se_bltT C (cl_int) g29_int z_int (by decide +kernel) (ses_cons (se_idx C (se_var C n29_2 (Or.inr (Or.inl l29_2))) se_int (fun _ _ => rfl)) ses_nil))) se_int)) (fun _ _ => rfl)))))))
      (sss_cons (ss_tgt C (sg_tp C.calm rfl (sgs_cons (sg_nm C.hN C.nd n29_6 (Or.inl l29_6) (by first | exact .inl rfl | exact .inr rfl)) (sgs_cons (sg_nm C.hN C.nd n29_7 (Or.inl l29_7) (by first | exact .inl rfl | exact .inr rfl)) (sgs_cons (sg_nm C.hN C.nd n29_8 (Or.inl l29_8) (by first | exact .inl rfl | exact .inr rfl)) sgs_nil)))) (se_call C (hf__law_cycle.fn hr) g29__law_cycle (ses_cons (se_var C n29_3 (Or.inl l29_3)) (ses_cons (se_var C n29_4 (Or.inl l29_4)) (ses_cons (se_var C n29_5 (Or.inl l29_5)) ses_nil)))))
      (sss_cons (ss_if (st_cmp C .ne (se_call C (hf_cycle_of.fn hr) g29_cycle_of (ses_cons (se_var C n29_3 (Or.inl l29_3)) (ses_cons (se_var C n29_4 (Or.inl l29_4)) (ses_cons (se_var C n29_5 (Or.inl l29_5)) ses_nil)))) (se_tup (by decide) (ses_cons (se_var C n29_7 (Or.inl l29_7)) (ses_cons (se_var C n29_8 (Or.inl l29_8)) ses_nil))) (by first | rfl | with_unfolding_all rfl)) (sss_cons (ss_ret se_bl)
      sss_nil) sss_nil)
      (sss_cons (ss_set C n29_9 (Or.inl l29_9) (Rf.PE.new (se_bin C .mod (se_flat rfl (se_bltT C (cl_int) g29_int z_int (by decide +kernel) (ses_cons (se_idx C (se_var C n29_2 (Or.inr (Or.inl l29_2))) se_int (fun _ _ => rfl)) ses_nil))) se_int)))
      (sss_cons (ss_set C n29_10 (Or.inl l29_10) (se_var C n29_9 (Or.inl l29_9)))
      (sss_cons (ss_if (st_cmp C .ge (se_var C n29_9 (Or.inl l29_9)) (se_flat rfl (se_bltB C (cl_len C.calm) g29_len z_len (by decide +kernel) (ses_cons (se_var C n29_6 (Or.inl l29_6)) ses_nil))) (by first | rfl | with_unfolding_all rfl)) (sss_cons (ss_set C n29_10 (Or.inl l29_10) (Rf.PE.new (se_bin C .add (se_var C n29_7 (Or.inl l29_7)) (Rf.PE.new (se_bin C .mod (se_flat rfl (se_bltT C (cl_int) g29_int z_int (by decide +kernel) (ses_cons (Rf.PE.new (se_bin C .sub (se_var C n29_9 (Or.inl l29_9)) (se_var C n29_7 (Or.inl l29_7)))) ses_nil))) (se_var C n29_8 (Or.inl l29_8)))))))
      sss_nil) sss_nil)
      (sss_cons (ss_set C n29_11 (Or.inl l29_11) (se_call C (hf_state_behind.fn hr) g29_state_behind (ses_cons (se_var C n29_3 (Or.inl l29_3)) (ses_cons (se_var C n29_4 (Or.inl l29_4)) (ses_cons (se_call C (hf_of_int.fn hr) g29_of_int (ses_cons (se_var C n29_9 (Or.inl l29_9)) ses_nil)) (ses_cons (se_var C n29_5 (Or.inl l29_5)) ses_nil))))))
      (sss_cons (ss_if (PW.pt (st_or (st_not (st_val (se_isi C (T := 3) (by decide) rfl g29_isinstance z_isinstance g29_tuple z_tuple (by decide +kernel) (se_var C n29_11 (Or.inl l29_11))))) (st_or1 (st_cmp C .ne (se_var C n29_11 (Or.inl l29_11)) (se_idx C (se_var C n29_6 (Or.inl l29_6)) (se_var C n29_10 (Or.inl l29_10)) (fun _ _ => rfl)) (by first | rfl | with_unfolding_all rfl))))) (sss_cons (ss_ret se_bl)
      sss_nil) sss_nil)
      sss_nil)))))))))))))
      (sss_cons (ss_for C (si_tup C (se_tup (by decide) (ses_cons se_int (ses_cons se_int (ses_cons (se_neg se_int) ses_nil))))) (sg_nm C.hN C.nd n29_5 (Or.inl l29_5) (by first | exact .inl rfl | exact .inr rfl)) (fun _ _ C => (sss_cons (ss_for C (si_rng1 g29_range z_range (ses_cons se_int ses_nil)) (sg_nm C.hN C.nd n29_12 (Or.inl l29_12) (by first | exact .inl rfl | exact .inr rfl)) (fun _ _ C => (sss_cons (ss_if (st_not (st_val (se_call C (hf__law_refused.fn hr) g29__law_refused (ses_cons (se_var C n29_12 (Or.inl l29_12)) (ses_cons (se_var C n29_5 (Or.inl l29_5)) (ses_cons se_int ses_nil)))))) (sss_cons (ss_ret se_bl)
      sss_nil) sss_nil)
      sss_nil)))
      sss_nil)))
      (sss_cons (ss_ret (se_and (se_call C (hf__law_refused.fn hr) g29__law_refused (ses_cons se_int (ses_cons se_int (ses_cons (se_neg se_int) ses_nil)))) (se_and (se_call C (hf__law_refused.fn hr) g29__law_refused (ses_cons se_int (ses_cons se_int (ses_cons (se_neg se_int) ses_nil)))) (se_one (se_cmp C .eq (se_globI g29_MAX_TURN_MODULUS c_MAX_TURN_MODULUS) se_int (by first | rfl | with_unfolding_all rfl))))))
      sss_nil)))
theorem okRow {f : Addr} {fd : FuncData} (F0 : Fun K "row" "Powers.row" s30 f fd) (hcl : Cls K Cl) (nA : NoAttr K Cl "rows") (g2 : Good pr w K mg base ca TB F "row_of_two" 11 n) (hrow : ∀ (n : Nat) (m : Int) (x : Rf.D), 1 ≤ m → m ≤ 10000 → phi TB F n 11 [.int m] = .ok x → x = rv m) (hrd : ∀ m, noDct (rv m) = true) : FnOk pr w K mg base L2.CX0 (n + 1) f fd ["self", "m"] (spM K Cl rv (phi TB F (n + 1)) 30) := by
  refine F0.ok sc30 (fun vs H Q E h => ?_) (fun cdv A outer s H vs Q E hr h => ?_)
  · obtain ⟨p, d, kvs, vs', ds, x, rfl, _, hd, _, h, _⟩ := h
    obtain ⟨m, rfl, _⟩ := row_inv rfl h
    rw [row_len hd]; rfl
  · obtain ⟨p, d, kvs, vs', ds, x, rfl, pw, hd, hn, h, qq⟩ := h
    obtain ⟨m, rfl, m1, m2, h2⟩ := row_inv rfl h
    obtain rfl := row_len hd
    have hu := hu_of hr
    have ex := hrow n m x m1 m2 h2
    obtain ⟨dx, h1⟩ := pw.ob
    have CC : ∀ h0, Ctx (cxG pr w K mg base N30 "Powers.row" s30 (A.deeper (envOfC "Powers.row" (defScope s30) s.heap.objs.size f cdv)) s H s.heap.objs.size f cdv outer (fun _ _ => False)) (PO K ca h0) N30 (defScope s30) := fun h0 => ⟨rfl, rfl, sc30.nd, rfl, rfl, by
      have := hr.un
      show (A.deeper (envOfC "Powers.row" (defScope s30) s.heap.objs.size f cdv)).units + 190 < cLine
      omega, takes0, PassesOwn.never⟩
    refine ⟨_, pss_cons (ps_if (pt_cmp (pc_dnotin hu (pv 1) (pe_fld (pv 0) rfl))) (pss_one (ps_dput hu (pe_fld (pv 0) rfl) (pv 1) (PE.any fun h0 => se_call (m := 2) (CC h0) (g2.fn hr) (by rfl) (ses_cons (se_var (i := 1) (CC h0) rfl (Or.inl rfl)) ses_nil)) rfl)) pss_nil) (pss_one (ps_ret (pe_dget hu (pe_fld (pv 0) rfl) (pv 1) (fun _ _ => rfl)))), ?_⟩
    refine ⟨_, rfl, _, rfl, p, Cl, dx, _, _, rfl, h1, hcl, nA, rows_look, d, _, rfl, DGet.k (k := Sum.inl m) pw.dc, _, rfl, ?_⟩
    cases e : valV kvs (Sum.inl m : Key) with
    | some v0 =>
      refine iteF ?_
      refine ⟨_, rfl, p, Cl, dx, _, _, rfl, h1, hcl, nA, rows_look, _, rfl, d, v0, rfl, by rw [← e]; exact DGet.k (k := Sum.inl m) pw.dc, ?_⟩
      obtain ⟨kv, hk, h3, h4⟩ := valV_mem e
      obtain ⟨m', g1, g2', g3, g4⟩ := pw.ok kv hk
      rw [h3] at g1
      cases g1
      rw [h4] at g4
      exact qq v0 H kvs (fun _ _ _ z => z) pw (by rw [ex]; exact g4)
    | none =>
      refine iteT ?_
      refine ⟨H, [.un, .d (.int m)], rowR, ?_⟩
      have e2 : ev (phi TB F n) (.call 11 [.var 1]) [.un, .d (.int m)] = .ok x := by
        simp only [ev, evs, List.getElem?_cons_succ, List.getElem?_cons_zero, Res.bind_ok]
        exact h2
      rw [e2]
      intro v H1 sm dv
      have dvx : Den K noAv H1 v (rv m) := by rw [← ex]; exact dv.weak
      obtain ⟨w1, w2⟩ := pw.put sm m1 m2 e hrd dvx
      have d1 : H1 p = some (.ins Cl dx [("rows", .ref d)]) := sm _ _ h1
      have d2 : H1 d = some (.dK kvs) := sm _ _ pw.dc
      refine ⟨_, rfl, p, Cl, dx, _, _, rfl, d1, hcl, nA, rows_look, _, rfl, d, _, rfl, DPut.k (k := Sum.inl m) d2 (by have := pw.len; have h9 : 10000 < sizeLine := (by decide); omega), ?_⟩
      obtain ⟨dx2, d3⟩ := w1.ob
      have hv : valV (putK kvs (Sum.inl m : Key) v) (Sum.inl m : Key) = some v := valV_new e
      refine ⟨_, rfl, p, Cl, dx2, _, _, rfl, d3, hcl, nA, rows_look, _, rfl, d, v, rfl, by rw [← hv]; exact DGet.k (k := Sum.inl m) upd_same, ?_⟩
      exact qq v _ _ w2 w1 (by rw [ex]; exact dvx.sb d2 (fun b o nb z => by rw [upd_ne nb]; exact z) (hrd m))
theorem w31 (hf_compare : Good pr w K mg base ca TB F "compare" 2 n) (hf_from_int : Good pr w K mg base ca TB F "from_int" 4 n) (hf_to_int : Good pr w K mg base ca TB F "to_int" 9 n) (hcl : Cls K Cl) (m_number : GoodM pr w K mg base Cl rv TB F "number" 32 n) (m_row : GoodM pr w K mg base Cl rv TB F "row" 30 n) (z_len : mg "len" = none) : WalkO pr w K mg base ca Cl rv N31 "Powers.power" s31 n (execs (phi TB F n) F [.chk, (.asg (.tp [(.nm 3), (.nm 4)]) (.call 30 [(.slf 0), (.var 2)])), .chk, (.ifs (.cmp .lt (.call 2 [(.var 1), (.call 4 [(.blt .len [(.var 3)])])]) (.con (.int 0))) [(.ret (.idx (.var 3) (.call 9 [(.var 1)])))] []), .chk, (.asg (.nm 5) (.bin .sub (.blt .len [(.var 3)]) (.var 4))), .chk, (.ret (.idx (.var 3) (.bin .add (.var 4) (.bin .mod (.bin .sub (.call 32 [(.slf 0), (.var 1), (.var 5)]) (.var 4)) (.var 5)))))]) := fun A sA HA a fA cdv outer xe hr CC => have C := CC (fun _ => none)
    (so_cons (so_asgm (m_row.met hcl hr) (by decide +kernel) (pe_var (i := 0) n31_0 (Or.inl l31_0) (by decide) (by decide)) (pe_var (i := 2) n31_2 (Or.inl l31_2) (by decide) (by decide)) (sg_tp C.calm rfl (sgs_cons (sg_nm C.hN C.nd n31_3 (Or.inl l31_3) (by first | exact .inl rfl | exact .inr rfl)) (sgs_cons (sg_nm C.hN C.nd n31_4 (Or.inl l31_4) (by first | exact .inl rfl | exact .inr rfl)) sgs_nil))) (by decide))
      (so_cons (so_pure (fun h0 => have C := CC h0; (ss_if (st_cmp C .lt (se_call C (hf_compare.fn hr) g31_compare (ses_cons (se_var C n31_1 (Or.inl l31_1)) (ses_cons (se_call C (hf_from_int.fn hr) g31_from_int (ses_cons (se_flat rfl (se_bltB C (cl_len C.calm) g31_len z_len (by decide +kernel) (ses_cons (se_var C n31_3 (Or.inl l31_3)) ses_nil))) ses_nil)) ses_nil))) se_int (by first | rfl | with_unfolding_all rfl)) (sss_cons (ss_ret (se_idx C (se_var C n31_3 (Or.inl l31_3)) (se_call C (hf_to_int.fn hr) g31_to_int (ses_cons (se_var C n31_1 (Or.inl l31_1)) ses_nil)) (fun _ _ => rfl)))
      sss_nil) sss_nil)) (PureS.ifret).h0 (PureS.ifret).bc)
      (so_cons (so_pure (fun h0 => have C := CC h0; (ss_set C n31_5 (Or.inl l31_5) (Rf.PE.new (se_bin C .sub (se_flat rfl (se_bltB C (cl_len C.calm) g31_len z_len (by decide +kernel) (ses_cons (se_var C n31_3 (Or.inl l31_3)) ses_nil))) (se_var C n31_4 (Or.inl l31_4)))))) ((PureS.asg (by decide))).h0 ((PureS.asg (by decide))).bc)
      (so_cons (so_retm C.u1 rfl (m_number.met hcl hr) (by decide +kernel) (pe_var (i := 0) n31_0 (Or.inl l31_0) (by decide) (by decide)) (pe_var (i := 3) n31_3 (Or.inl l31_3) (by decide) (by decide)) (pe_var (i := 4) n31_4 (Or.inl l31_4) (by decide) (by decide)) (pe_var (i := 4) n31_4 (Or.inl l31_4) (by decide) (by decide)) (pe_var (i := 1) n31_1 (Or.inl l31_1) (by decide) (by decide)) (pe_var (i := 5) n31_5 (Or.inl l31_5) (by decide) (by decide)) (pe_var (i := 5) n31_5 (Or.inl l31_5) (by decide) (by decide)))
      so_nil))))
theorem w32 (hcl : Cls K Cl) (m_power : GoodM pr w K mg base Cl rv TB F "power" 31 n) : WalkO pr w K mg base ca Cl rv N32 "Powers.number" s32 n (execs (phi TB F n) F [.chk, (.asg (.nm 3) (.con (.int 0))), .chk, (.for (.tp [(.nm 4), (.nm 5)]) .tup [(.var 1)] b32_1), .chk, (.ret (.bin .mod (.var 3) (.var 2)))]) := fun A sA HA a fA cdv outer xe hr CC => have C := CC (fun _ => none)
    (so_cons (so_pure (fun h0 => have C := CC h0; (ss_set C n32_3 (Or.inl l32_3) se_int)) ((PureS.asg (by decide))).h0 ((PureS.asg (by decide))).bc)
      (so_cons (so_for C.po rfl rfl (pe_var (i := 1) n32_1 (Or.inl l32_1) (by decide) (by decide)) (sg_tp C.calm rfl (sgs_cons (sg_nm C.hN C.nd n32_4 (Or.inl l32_4) (by first | exact .inl rfl | exact .inr rfl)) (sgs_cons (sg_nm C.hN C.nd n32_5 (Or.inl l32_5) (by first | exact .inl rfl | exact .inr rfl)) sgs_nil))) (by decide) (so_cons (so_augm rfl C.nd n32_3 (Or.inl l32_3) (m_power.met hcl hr) (by decide +kernel) (by decide) (pe_var (i := 0) n32_0 (Or.inl l32_0) (by decide) (by decide)) (pe_var (i := 4) n32_4 (Or.inl l32_4) (by decide) (by decide)) (pe_var (i := 5) n32_5 (Or.inl l32_5) (by decide) (by decide)) (pe_var (i := 2) n32_2 (Or.inl l32_2) (by decide) (by decide))) so_end) (fun e e2 h => chk_end (fun a b => aug_ct a b) h))
      (so_cons (so_pure (fun h0 => have C := CC h0; (ss_ret (Rf.PE.new (se_bin C .mod (se_var C n32_3 (Or.inl l32_3)) (se_var C n32_2 (Or.inl l32_2)))))) (PureS.ret).h0 (PureS.ret).bc)
      so_nil)))
theorem scI : FnScope ["self"] ["self"] (defScope sI) := ⟨rfl, rfl, rfl, by decide +kernel, rfl, by decide +kernel, by decide +kernel⟩
theorem okInit {f : Addr} {fd : FuncData} (F0 : Fun K "__init__" "Powers.__init__" sI f fd) (hcl : Cls K Cl) (nA : NoAttr K Cl "rows") : FnOk pr w K mg base L2.CX0 1 f fd ["self"] (spInit Cl) := by
  refine F0.ok scI (fun vs H Q E h => ?_) (fun cdv A outer s H vs Q E hr h => ?_)
  · obtain ⟨p, dx, rfl, _⟩ := h
    rfl
  · obtain ⟨p, dx, rfl, hp, k⟩ := h
    refine ⟨_, pss_one (ps_fld (pv 0) pe_dnewK rfl), ?_⟩
    intro d hd
    have npd : p ≠ d := ne_of_none hp hd
    refine ⟨_, rfl, p, Cl, dx, [], rfl, (by rw [upd_ne npd]; exact hp), hcl, nA, (by show 0 < 1000; decide), ?_⟩
    refine k d _ hd upd_same (by rw [upd_ne npd.symm, upd_same]) fun b o e hb => ?_
    rw [upd_ne hb, upd_ne (ne_of_none e hd)]
    exact e
/-- every def of the program, n deep -/
theorem all_good (z_abs : mg "abs" = none) (z_int : mg "int" = none) (z_isinstance : mg "isinstance" = none) (z_len : mg "len" = none) (z_max : mg "max" = none) (z_min : mg "min" = none) (z_range : mg "range" = none) (z_sum : mg "sum" = none) (z_tuple : mg "tuple" = none) (z_zip : mg "zip" = none) {k_MAX_BINARY : Tok} (c_MAX_BINARY : mg "MAX_BINARY" = some (.int 64 k_MAX_BINARY)) {k_MAX_DIGITS : Tok} (c_MAX_DIGITS : mg "MAX_DIGITS" = some (.int 2900 k_MAX_DIGITS)) {k_MAX_HEIGHT : Tok} (c_MAX_HEIGHT : mg "MAX_HEIGHT" = some (.int 40 k_MAX_HEIGHT)) {k_MAX_MODULUS : Tok} (c_MAX_MODULUS : mg "MAX_MODULUS" = some (.int 10000 k_MAX_MODULUS)) {k_MAX_SIZE : Tok} (c_MAX_SIZE : mg "MAX_SIZE" = some (.int 300 k_MAX_SIZE)) {k_MAX_TURN_MODULUS : Tok} (c_MAX_TURN_MODULUS : mg "MAX_TURN_MODULUS" = some (.int 12 k_MAX_TURN_MODULUS)) (x_Missing : XFull K mg "Missing" (ca 3)) (x_NotAllowed : XFull K mg "NotAllowed" (ca 1)) (x_ReckonError : XFull K mg "ReckonError" (ca 0)) (x_TooLarge : XFull K mg "TooLarge" (ca 2)) (k_NotAllowed_Missing : PySem.W.kitOne K (.ref (ca 1)) (.ref (ca 3)) = some false) (k_NotAllowed_ReckonError : PySem.W.kitOne K (.ref (ca 1)) (.ref (ca 0)) = some true) (k_NotAllowed_TooLarge : PySem.W.kitOne K (.ref (ca 1)) (.ref (ca 2)) = some false) (s_NotAllowed_NotAllowed : PySem.W.subIn K (.ref (ca 1)) (.ref (ca 1)) = some true) (s_TooLarge_NotAllowed : PySem.W.subIn K (.ref (ca 2)) (.ref (ca 1)) = some false) (t0 : Txt K mg "size_of" "size_of" s0 p0) (t1 : Txt K mg "height_of" "height_of" s1 p1) (t2 : Txt K mg "compare" "compare" s2 p2) (t3 : Txt K mg "sign_of" "sign_of" s3 p3) (t4 : Txt K mg "from_int" "from_int" s4 p4) (t5 : Txt K mg "is_allowed" "is_allowed" s5 p5) (t6 : Txt K mg "allowed" "allowed" s6 p6) (t7 : Txt K mg "of_int" "of_int" s7 p7) (t8 : Txt K mg "power_of_two" "power_of_two" s8 p8) (t9 : Txt K mg "to_int" "to_int" s9 p9) (t10 : Txt K mg "check_modulus_remainders" "check_modulus" s10 p10) (t11 : Txt K mg "row_of_two" "row_of_two" s11 p11) (t12 : Txt K mg "remainder" "remainder" s12 p12) (t13 : Txt K mg "check_modulus_turns" "check_modulus" s13 p13) (t14 : Txt K mg "check_times" "check_times" s14 p14) (t15 : Txt K mg "turned" "turned" s15 p15) (t16 : Txt K mg "states_of" "states_of" s16 p16) (t17 : Txt K mg "cycle_of" "cycle_of" s17 p17) (t18 : Txt K mg "state_at" "state_at" s18 p18) (t19 : Txt K mg "state_behind" "state_behind" s19 p19) (t20 : Txt K mg "joined" "joined" s20 p20) (t21 : Txt K mg "table_behind" "table_behind" s21 p21) (t22 : Txt K mg "_law_cell" "_law_cell" s22 p22) (t23 : Txt K mg "_law_numbers" "_law_numbers" s23 p23) (t24 : Txt K mg "_law_entry" "_law_entry" s24 p24) (t25 : Txt K mg "_law_table" "_law_table" s25 p25) (t26 : Txt K mg "_law_turned" "_law_turned" s26 p26) (t27 : Txt K mg "_law_cycle" "_law_cycle" s27 p27) (t28 : Txt K mg "_law_refused" "_law_refused" s28 p28) (hcl : Cls K Cl) (nA : NoAttr K Cl "rows") (tC : TxtC pr w K mg base Cl "Powers") (tm30 : TxtM K Cl "row" "Powers.row" s30 p30) (tm31 : TxtM K Cl "power" "Powers.power" s31 p31) (tm32 : TxtM K Cl "number" "Powers.number" s32 p32) (hrow : ∀ (n : Nat) (m : Int) (x : Rf.D), 1 ≤ m → m ≤ 10000 → phi TB F n 11 [.int m] = .ok x → x = rv m) (hrd : ∀ m, noDct (rv m) = true) : ∀ n, Good pr w K mg base ca TB F "size_of" 0 n ∧ Good pr w K mg base ca TB F "height_of" 1 n ∧ Good pr w K mg base ca TB F "compare" 2 n ∧ Good pr w K mg base ca TB F "sign_of" 3 n ∧ Good pr w K mg base ca TB F "from_int" 4 n ∧ Good pr w K mg base ca TB F "is_allowed" 5 n ∧ Good pr w K mg base ca TB F "allowed" 6 n ∧ Good pr w K mg base ca TB F "of_int" 7 n ∧ Good pr w K mg base ca TB F "power_of_two" 8 n ∧ Good pr w K mg base ca TB F "to_int" 9 n ∧ Good pr w K mg base ca TB F "check_modulus_remainders" 10 n ∧ Good pr w K mg base ca TB F "row_of_two" 11 n ∧ Good pr w K mg base ca TB F "remainder" 12 n ∧ Good pr w K mg base ca TB F "check_modulus_turns" 13 n ∧ Good pr w K mg base ca TB F "check_times" 14 n ∧ Good pr w K mg base ca TB F "turned" 15 n ∧ Good pr w K mg base ca TB F "states_of" 16 n ∧ Good pr w K mg base ca TB F "cycle_of" 17 n ∧ Good pr w K mg base ca TB F "state_at" 18 n ∧ Good pr w K mg base ca TB F "state_behind" 19 n ∧ Good pr w K mg base ca TB F "joined" 20 n ∧ Good pr w K mg base ca TB F "table_behind" 21 n ∧ Good pr w K mg base ca TB F "_law_cell" 22 n ∧ Good pr w K mg base ca TB F "_law_numbers" 23 n ∧ Good pr w K mg base ca TB F "_law_entry" 24 n ∧ Good pr w K mg base ca TB F "_law_table" 25 n ∧ Good pr w K mg base ca TB F "_law_turned" 26 n ∧ Good pr w K mg base ca TB F "_law_cycle" 27 n ∧ Good pr w K mg base ca TB F "_law_refused" 28 n ∧ GoodM pr w K mg base Cl rv TB F "row" 30 n ∧ (∀ j, j ≤ n → GoodM pr w K mg base Cl rv TB F "power" 31 j) ∧ (∀ j, j ≤ n → GoodM pr w K mg base Cl rv TB F "number" 32 j)
  | 0 => ⟨good_zero t0, good_zero t1, good_zero t2, good_zero t3, good_zero t4, good_zero t5, good_zero t6, good_zero t7, good_zero t8, good_zero t9, good_zero t10, good_zero t11, good_zero t12, good_zero t13, good_zero t14, good_zero t15, good_zero t16, good_zero t17, good_zero t18, good_zero t19, good_zero t20, good_zero t21, good_zero t22, good_zero t23, good_zero t24, good_zero t25, good_zero t26, good_zero t27, good_zero t28, goodM_zero tm30, fun j hj => by (obtain rfl : j = 0 := by omega); exact goodM_zero tm31, fun j hj => by (obtain rfl : j = 0 := by omega); exact goodM_zero tm32⟩
  | n + 1 => by
    obtain ⟨hf_size_of, hf_height_of, hf_compare, hf_sign_of, hf_from_int, hf_is_allowed, hf_allowed, hf_of_int, hf_power_of_two, hf_to_int, hf_check_modulus_remainders, hf_row_of_two, hf_remainder, hf_check_modulus_turns, hf_check_times, hf_turned, hf_states_of, hf_cycle_of, hf_state_at, hf_state_behind, hf_joined, hf_table_behind, hf__law_cell, hf__law_numbers, hf__law_entry, hf__law_table, hf__law_turned, hf__law_cycle, hf__law_refused, m_row, hm_power, hm_number⟩ := all_good z_abs z_int z_isinstance z_len z_max z_min z_range z_sum z_tuple z_zip c_MAX_BINARY c_MAX_DIGITS c_MAX_HEIGHT c_MAX_MODULUS c_MAX_SIZE c_MAX_TURN_MODULUS x_Missing x_NotAllowed x_ReckonError x_TooLarge k_NotAllowed_Missing k_NotAllowed_ReckonError k_NotAllowed_TooLarge s_NotAllowed_NotAllowed s_TooLarge_NotAllowed t0 t1 t2 t3 t4 t5 t6 t7 t8 t9 t10 t11 t12 t13 t14 t15 t16 t17 t18 t19 t20 t21 t22 t23 t24 t25 t26 t27 t28 hcl nA tC tm30 tm31 tm32 hrow hrd n
    have m_power := hm_power n (Nat.le_refl n)
    have m_number := hm_number n (Nat.le_refl n)
    have q_number : NewG pr w K mg base Cl rv TB F "Powers" "number" 33 n := newG_of tC rfl hm_number
    obtain ⟨rf, rfd, rF0, rb, rm⟩ := tm30.ex
    have g_power : GoodM pr w K mg base Cl rv TB F "power" 31 (n + 1) := goodM_succ (ca := ca) tm31 sc31 rfl rfl rfl (by decide) (w31 hf_compare hf_from_int hf_to_int hcl m_number m_row z_len)
    have g_number : GoodM pr w K mg base Cl rv TB F "number" 32 (n + 1) := goodM_succ (ca := ca) tm32 sc32 rfl rfl rfl (by decide) (w32 hcl m_power)
    exact ⟨good_succ t0 sc0 rfl rfl rfl (by decide) (w0 hf_size_of z_sum), good_succ t1 sc1 rfl rfl rfl (by decide) (w1 hf_height_of z_len z_max), good_succ t2 sc2 rfl rfl rfl (by decide) (w2 hf_compare z_len z_zip), good_succ t3 sc3 rfl rfl rfl (by decide) (w3 z_len), good_succ t4 sc4 rfl rfl rfl (by decide) (w4 hf_from_int z_tuple), good_succ t5 sc5 rfl rfl rfl (by decide) (w5 c_MAX_HEIGHT c_MAX_SIZE hf_height_of hf_size_of), good_succ t6 sc6 rfl rfl rfl (by decide) (w6 hf_is_allowed x_TooLarge), good_succ t7 sc7 rfl rfl rfl (by decide) (w7 c_MAX_DIGITS hf_allowed hf_from_int x_NotAllowed), good_succ t8 sc8 rfl rfl rfl (by decide) (w8 z_range), good_succ t9 sc9 rfl rfl rfl (by decide) (w9 c_MAX_BINARY hf_compare hf_from_int hf_power_of_two hf_to_int x_NotAllowed z_abs), good_succ t10 sc10 rfl rfl rfl (by decide) (w10 c_MAX_MODULUS x_NotAllowed), good_succ t11 sc11 rfl rfl rfl (by decide) (w11 z_len), good_succ t12 sc12 rfl rfl rfl (by decide) (w12 hf_check_modulus_remainders q_number), good_succ t13 sc13 rfl rfl rfl (by decide) (w13 c_MAX_TURN_MODULUS x_NotAllowed), good_succ t14 sc14 rfl rfl rfl (by decide) (w14 hf_sign_of x_NotAllowed), good_succ t15 sc15 rfl rfl rfl (by decide) (w15 z_tuple), good_succ t16 sc16 rfl rfl rfl (by decide) (w16 hf_turned z_len z_tuple), good_succ t17 sc17 rfl rfl rfl (by decide) (w17 hf_check_modulus_turns hf_states_of z_len), good_succ t18 sc18 rfl rfl rfl (by decide) (w18 hf_compare hf_from_int hf_remainder hf_states_of hf_to_int z_len), good_succ t19 sc19 rfl rfl rfl (by decide) (w19 hf_check_modulus_turns hf_check_times hf_state_at), good_succ t20 sc20 rfl rfl rfl (by decide) (w20 hf_check_modulus_turns), good_succ t21 sc21 rfl rfl rfl (by decide) (w21 hf_check_modulus_turns hf_check_times), good_succ t22 sc22 rfl rfl rfl (by decide) (w22 z_len), good_succ t23 sc23 rfl rfl rfl (by decide) (w23 z_int z_range), good_succ t24 sc24 rfl rfl rfl (by decide) (w24 z_int z_len), good_succ t25 sc25 rfl rfl rfl (by decide) (w25 hf__law_entry z_int z_len z_range z_tuple), good_succ t26 sc26 rfl rfl rfl (by decide) (w26 z_int z_range z_tuple), good_succ t27 sc27 rfl rfl rfl (by decide) (w27 hf__law_turned z_int z_range z_tuple), good_succ t28 sc28 rfl rfl rfl (by decide) (w28 hf_cycle_of hf_joined hf_of_int hf_state_behind hf_table_behind k_NotAllowed_Missing k_NotAllowed_ReckonError k_NotAllowed_TooLarge s_NotAllowed_NotAllowed s_TooLarge_NotAllowed x_Missing x_NotAllowed x_ReckonError x_TooLarge z_isinstance), ⟨rf, rfd, _, okRow rF0 hcl nA hf_row_of_two hrow hrd, rb, rm⟩, fun j hj => (Nat.lt_or_ge n j).elim (fun h => by (obtain rfl : j = n + 1 := by omega); exact g_power) (fun h => hm_power j h), fun j hj => (Nat.lt_or_ge n j).elim (fun h => by (obtain rfl : j = n + 1 := by omega); exact g_number) (fun h => hm_number j h)⟩
end
end My

set_option Elab.async false
set_option linter.all false
set_option maxRecDepth 100000
set_option maxHeartbeats 1000000
namespace My
open PySem PySem.Spec PyProof.Rows L2 Rf
/-! ### signed binary numbers, no two neighbours -/
abbrev Tm := Int × Nat
def val : List Tm → Int
  | [] => 0
  | t :: r => t.1 * 2 ^ t.2 + val r
def Nf : List Tm → Prop
  | [] => True
  | t :: r => (t.1 = 1 ∨ t.1 = -1) ∧ (∀ u ∈ r.head?, u.2 + 2 ≤ t.2) ∧ Nf r
def sgn (x : Int) : Int := if 0 < x then 1 else if x < 0 then -1 else 0
theorem two_pos (n : Nat) : (0 : Int) < 2 ^ n := Int.pow_pos (by decide)
theorem two_add (n k : Nat) : (2 : Int) ^ (n + k) = 2 ^ n * 2 ^ k := Int.pow_add ..
theorem two_le {n k : Nat} (h : n + 2 ≤ k) : 4 * (2 : Int) ^ n ≤ 2 ^ k := by
  obtain ⟨j, rfl⟩ : ∃ j, k = n + 2 + j := ⟨k - (n + 2), by omega⟩
  have := two_pos j
  have h2 := two_pos n
  rw [two_add, two_add, show (2 : Int) ^ 2 = 4 by decide]
  generalize (2 : Int) ^ n = x at *
  generalize (2 : Int) ^ j = y at *
  have : x * 4 * 1 ≤ x * 4 * y := Int.mul_le_mul_of_nonneg_left (by omega) (by omega)
  omega
theorem two_lt {n k : Nat} (h : n < k) : 2 * (2 : Int) ^ n ≤ 2 ^ k := by
  obtain ⟨j, rfl⟩ : ∃ j, k = n + 1 + j := ⟨k - (n + 1), by omega⟩
  have := two_pos j
  have h2 := two_pos n
  rw [two_add, two_add, show (2 : Int) ^ 1 = 2 by decide]
  generalize (2 : Int) ^ n = x at *
  generalize (2 : Int) ^ j = y at *
  have : x * 2 * 1 ≤ x * 2 * y := Int.mul_le_mul_of_nonneg_left (by omega) (by omega)
  omega
theorem bnd : ∀ {r : List Tm} {t : Tm}, Nf (t :: r) → 2 * 2 ^ t.2 < 3 * (t.1 * val (t :: r)) ∧ 3 * (t.1 * val (t :: r)) < 4 * 2 ^ t.2
  | [], t, h => by
    have p := two_pos t.2
    simp only [val]
    rcases h.1 with e | e <;> rw [e] <;> generalize (2 : Int) ^ t.2 = x at * <;> constructor <;> omega
  | u :: r, t, h => by
    have p := two_pos t.2
    have q := two_le (h.2.1 u rfl)
    have b := bnd h.2.2
    rw [show val (t :: u :: r) = t.1 * 2 ^ t.2 + val (u :: r) from rfl]
    generalize val (u :: r) = v at *
    generalize (2 : Int) ^ t.2 = x at *
    generalize (2 : Int) ^ u.2 = y at *
    rcases h.2.2.1 with e | e <;> rcases h.1 with e2 | e2 <;> rw [e] at b <;> rw [e2] <;> constructor <;> omega
theorem sgn_cons {t : Tm} {r : List Tm} (h : Nf (t :: r)) : sgn (val (t :: r)) = t.1 := by
  have b := bnd h
  have p := two_pos t.2
  generalize val (t :: r) = v at *
  generalize (2 : Int) ^ t.2 = x at *
  unfold sgn
  rcases h.1 with e | e <;> rw [e] at b ⊢
  · rw [if_pos (by omega)]
  · rw [if_neg (by omega), if_pos (by omega)]
def cmpL : List Tm → List Tm → Int
  | [], [] => 0
  | t :: _, [] => t.1
  | [], u :: _ => -u.1
  | t :: r, u :: s => if t.1 ≠ u.1 then t.1 else if u.2 < t.2 then t.1 else if t.2 < u.2 then -t.1 else cmpL r s
theorem sgn_neg (x : Int) : sgn (-x) = -sgn x := by
  unfold sgn
  by_cases h : 0 < x
  · rw [if_neg (by omega), if_pos (by omega), if_pos h]
  · by_cases h2 : x < 0
    · rw [if_pos (by omega), if_neg h, if_pos h2]; rfl
    · rw [if_neg (by omega), if_neg (by omega), if_neg h, if_neg h2]; rfl
theorem cmp_val : ∀ {a b : List Tm}, Nf a → Nf b → cmpL a b = sgn (val a - val b)
  | [], [], _, _ => rfl
  | t :: r, [], h, _ => by
    rw [show val [] = 0 from rfl, Int.sub_zero, sgn_cons h]; rfl
  | [], u :: s, _, h => by
    rw [show val [] = 0 from rfl, Int.zero_sub, sgn_neg, sgn_cons h]; rfl
  | t :: r, u :: s, h, g => by
    have b1 := bnd h
    have b2 := bnd g
    have p1 := two_pos t.2
    have p2 := two_pos u.2
    simp only [cmpL]
    by_cases e : t.1 ≠ u.1
    · rw [if_pos e]
      generalize val (t :: r) = v at *
      generalize val (u :: s) = w at *
      generalize (2 : Int) ^ t.2 = x at *
      generalize (2 : Int) ^ u.2 = y at *
      unfold sgn
      rcases h.1 with e1 | e1 <;> rcases g.1 with e2 | e2 <;> rw [e1] at b1 e ⊢ <;> rw [e2] at b2 e
      · exact absurd rfl e
      · rw [if_pos (by omega)]
      · rw [if_neg (by omega), if_pos (by omega)]
      · exact absurd rfl e
    · rw [if_neg e]
      have e : t.1 = u.1 := by simpa using e
      by_cases lt : u.2 < t.2
      · rw [if_pos lt]
        have q := two_lt lt
        generalize val (t :: r) = v at *
        generalize val (u :: s) = w at *
        generalize (2 : Int) ^ t.2 = x at *
        generalize (2 : Int) ^ u.2 = y at *
        rw [← e] at b2
        unfold sgn
        rcases h.1 with e1 | e1 <;> rw [e1] at b1 b2 ⊢
        · rw [if_pos (by omega)]
        · rw [if_neg (by omega), if_pos (by omega)]
      · rw [if_neg lt]
        by_cases lt2 : t.2 < u.2
        · rw [if_pos lt2]
          have q := two_lt lt2
          generalize val (t :: r) = v at *
          generalize val (u :: s) = w at *
          generalize (2 : Int) ^ t.2 = x at *
          generalize (2 : Int) ^ u.2 = y at *
          rw [← e] at b2
          unfold sgn
          rcases h.1 with e1 | e1 <;> rw [e1] at b1 b2 ⊢
          · rw [if_neg (by omega), if_pos (by omega)]
          · rw [if_pos (by omega)]; rfl
        · rw [if_neg lt2, cmp_val h.2.2 g.2.2]
          have e2 : t.2 = u.2 := by omega
          congr 1
          show _ = t.1 * 2 ^ t.2 + val r - (u.1 * 2 ^ u.2 + val s)
          rw [e, e2]
          generalize u.1 * 2 ^ u.2 = z
          omega
theorem cmp_eq : ∀ {a b : List Tm}, Nf a → Nf b → cmpL a b = 0 → a = b
  | [], [], _, _, _ => rfl
  | t :: r, [], h, _, z => by
    have z : t.1 = 0 := z
    rcases h.1 with e | e <;> omega
  | [], u :: s, _, h, z => by
    have z : -u.1 = 0 := z
    rcases h.1 with e | e <;> omega
  | t :: r, u :: s, h, g, z => by
    simp only [cmpL] at z
    split at z
    · rcases h.1 with e | e <;> omega
    · rename_i e
      have e : t.1 = u.1 := by simpa using e
      split at z
      · rcases h.1 with e | e <;> omega
      · split at z
        · rcases h.1 with e | e <;> omega
        · have e2 : t.2 = u.2 := by omega
          rw [cmp_eq h.2.2 g.2.2 z]
          congr 1
          exact Prod.ext e e2
theorem val_eq {a b : List Tm} (h : Nf a) (g : Nf b) (e : val a = val b) : a = b := cmp_eq h g (by rw [cmp_val h g, e, Int.sub_self]; rfl)
/-! ### numbers as data -/
abbrev T3 := Int × Nat × Rf.D
def tm (t : T3) : Tm := (t.1, t.2.1)
def tD (t : T3) : Rf.D := .tuple [.int t.1, t.2.2]
inductive Fm : Rf.D → Int → Prop
  | mk (ts : List T3) : Nf (ts.map tm) → (∀ t ∈ ts, Fm t.2.2 (t.2.1 : Nat)) → Fm (.tuple (ts.map tD)) (val (ts.map tm))
theorem Fm.inv {x : Rf.D} {v : Int} (h : Fm x v) : ∃ ts : List T3, x = .tuple (ts.map tD) ∧ v = val (ts.map tm) ∧ Nf (ts.map tm) ∧ ∀ t ∈ ts, Fm t.2.2 (t.2.1 : Nat) := by
  cases h with
  | mk ts h1 h2 => exact ⟨ts, rfl, rfl, h1, h2⟩
theorem tm_of_tD : ∀ {a b : List T3}, (∀ t ∈ a, ∀ w, Fm t.2.2 w → (t.2.1 : Int) = w) → (∀ t ∈ b, Fm t.2.2 (t.2.1 : Nat)) → a.map tD = b.map tD → a.map tm = b.map tm
  | [], [], _, _, _ => rfl
  | [], u :: s, _, _, h => by simp at h
  | t :: r, [], _, _, h => by simp at h
  | t :: r, u :: s, h1, h2, h => by
    simp only [List.map_cons, List.cons.injEq] at h ⊢
    obtain ⟨e, h⟩ := h
    refine ⟨?_, tm_of_tD (fun t ht => h1 t (List.mem_cons_of_mem _ ht)) (fun t ht => h2 t (List.mem_cons_of_mem _ ht)) h⟩
    unfold tD at e
    simp only [PyData.tuple.injEq, List.cons.injEq, PyData.int.injEq, and_true] at e
    have q := h1 t (List.mem_cons_self ..) (u.2.1 : Nat) (by rw [e.2]; exact h2 u (List.mem_cons_self ..))
    unfold tm
    rw [e.1, show t.2.1 = u.2.1 by omega]
theorem Fm.det {x : Rf.D} {v : Int} (h : Fm x v) : ∀ w, Fm x w → v = w := by
  induction h with
  | mk ts h1 h2 ih =>
    intro w h
    obtain ⟨us, e1, e2, e3, e4⟩ := h.inv
    rw [e2, tm_of_tD ih e4 (by simpa using e1)]
theorem tD_of_tm : ∀ {a b : List T3}, (∀ t ∈ a, ∀ y, Fm y (t.2.1 : Nat) → t.2.2 = y) → (∀ t ∈ b, Fm t.2.2 (t.2.1 : Nat)) → a.map tm = b.map tm → a.map tD = b.map tD
  | [], [], _, _, _ => rfl
  | [], u :: s, _, _, h => by simp at h
  | t :: r, [], _, _, h => by simp at h
  | t :: r, u :: s, h1, h2, h => by
    simp only [List.map_cons, List.cons.injEq] at h ⊢
    obtain ⟨e, h⟩ := h
    refine ⟨?_, tD_of_tm (fun t ht => h1 t (List.mem_cons_of_mem _ ht)) (fun t ht => h2 t (List.mem_cons_of_mem _ ht)) h⟩
    unfold tm at e
    simp only [Prod.mk.injEq] at e
    have q := h1 t (List.mem_cons_self ..) u.2.2 (by rw [e.2]; exact h2 u (List.mem_cons_self ..))
    unfold tD
    rw [e.1, q]
theorem Fm.uniq {x : Rf.D} {v : Int} (h : Fm x v) : ∀ y, Fm y v → x = y := by
  induction h with
  | mk ts h1 h2 ih =>
    intro y h
    obtain ⟨us, rfl, e2, e3, e4⟩ := h.inv
    rw [tD_of_tm ih e4 (val_eq h1 e3 e2)]
/-! equality of such data -/
mutual
def pl : Rf.D → Bool
  | .int _ => true
  | .tuple xs => pls xs
  | _ => false
def pls : List Rf.D → Bool
  | [] => true
  | x :: r => pl x && pls r
end
mutual
theorem pl_lay : ∀ {x : Rf.D}, pl x = true → x.canLay0 = true
  | .int _, _ => by simp only [PyData.canLay0]
  | .tuple xs, h => by simp only [PyData.canLay0]; exact pls_lay (by simpa [pl] using h)
  | .none, h => by simp [pl] at h
  | .bool _, h => by simp [pl] at h
  | .str _, h => by simp [pl] at h
  | .list _, h => by simp [pl] at h
  | .dict _, h => by simp [pl] at h
theorem pls_lay : ∀ {x : List Rf.D}, pls x = true → PyData.canLayAll0 x = true
  | [], _ => by simp only [PyData.canLayAll0]
  | x :: r, h => by
    simp only [pls, Bool.and_eq_true] at h
    simp only [PyData.canLayAll0, pl_lay h.1, pls_lay h.2, Bool.and_self]
end
mutual
theorem eqv_pl : ∀ {x y : Rf.D}, pl x = true → pl y = true → PyData.eqv x y = true → x = y
  | .int i, .int j, _, _, h => by simp [PyData.eqv] at h; rw [h]
  | .tuple xs, .tuple ys, h1, h2, h => by
    exact congrArg PyData.tuple (eqvs_pl (by simpa [pl] using h1) (by simpa [pl] using h2) (by simpa [PyData.eqv] using h))
  | .int _, .tuple _, _, _, h => by simp [PyData.eqv] at h
  | .tuple _, .int _, _, _, h => by simp [PyData.eqv] at h
  | .none, _, h, _, _ => by simp [pl] at h
  | .bool _, _, h, _, _ => by simp [pl] at h
  | .str _, _, h, _, _ => by simp [pl] at h
  | .list _, _, h, _, _ => by simp [pl] at h
  | .dict _, _, h, _, _ => by simp [pl] at h
  | .int _, .none, _, h, _ => by simp [pl] at h
  | .int _, .bool _, _, h, _ => by simp [pl] at h
  | .int _, .str _, _, h, _ => by simp [pl] at h
  | .int _, .list _, _, h, _ => by simp [pl] at h
  | .int _, .dict _, _, h, _ => by simp [pl] at h
  | .tuple _, .none, _, h, _ => by simp [pl] at h
  | .tuple _, .bool _, _, h, _ => by simp [pl] at h
  | .tuple _, .str _, _, h, _ => by simp [pl] at h
  | .tuple _, .list _, _, h, _ => by simp [pl] at h
  | .tuple _, .dict _, _, h, _ => by simp [pl] at h
theorem eqvs_pl : ∀ {x y : List Rf.D}, pls x = true → pls y = true → PyData.eqvAll x y = true → x = y
  | [], [], _, _, _ => rfl
  | x :: r, y :: s, h1, h2, h => by
    simp only [pls, Bool.and_eq_true] at h1 h2
    simp only [PyData.eqvAll, Bool.and_eq_true] at h
    rw [eqv_pl h1.1 h2.1 h.1, eqvs_pl h1.2 h2.2 h.2]
  | [], _ :: _, _, _, h => by simp [PyData.eqvAll] at h
  | _ :: _, [], _, _, h => by simp [PyData.eqvAll] at h
end
theorem eqv_no {x y : Rf.D} (h : pl x = true) (g : pl y = true) (e : x ≠ y) : PyData.eqv x y = false := by
  cases q : PyData.eqv x y with
  | false => rfl
  | true => exact absurd (eqv_pl h g q) e
theorem pls_all : ∀ {ts : List T3}, (∀ t ∈ ts, pl t.2.2 = true) → pls (ts.map tD) = true
  | [], _ => rfl
  | t :: r, h => by
    simp only [List.map_cons, pls, pls_all fun u hu => h u (List.mem_cons_of_mem _ hu), Bool.and_true]
    simp only [tD, pl, pls, Bool.and_true, Bool.true_and]
    exact h t (List.mem_cons_self ..)
theorem Fm.pl {x : Rf.D} {v : Int} (h : Fm x v) : My.pl x = true := by
  induction h with
  | mk ts h1 h2 ih =>
    simp only [My.pl]
    exact pls_all ih
theorem eqOk_pl {x y : Rf.D} (h : pl x = true) (g : pl y = true) (d : x.depth ≤ 190) : eqOk x y = true := by
  unfold eqOk; rw [pl_lay h, pl_lay g, decide_eq_true (by omega)]; rfl
theorem eqD_no {x y : Rf.D} (h : pl x = true) (g : pl y = true) (d : x.depth ≤ 190) (n : x ≠ y) : cmpK .eq x y = .ok (.bool false) := by
  have e : cmpD .eq x y = some false := by
    show (if eqOk x y then some (PyData.eqv x y) else none) = _
    rw [if_pos (eqOk_pl h g d), eqv_no h g n]
  rw [cmpK, e]; rfl
theorem eqD_self {x : Rf.D} (h : pl x = true) (d : x.depth ≤ 190) : cmpK .eq x x = .ok (.bool true) := by
  have e : cmpD .eq x x = some true := by
    show (if eqOk x x then some (PyData.eqv x x) else none) = _
    rw [if_pos (eqOk_pl h h d), PySem.SeqAt.eqv_refl _ (pl_lay h)]
  rw [cmpK, e]; rfl
theorem dep_all : ∀ {ts : List T3} {t : T3}, t ∈ ts → t.2.2.depth + 1 ≤ PyData.depthAll (ts.map tD)
  | u :: r, t, h => by
    simp only [List.map_cons, PyData.depthAll]
    rcases List.mem_cons.mp h with rfl | h
    · simp only [tD, PyData.depth, PyData.depthAll]; omega
    · have := dep_all h; omega
theorem dep_le : ∀ {ts : List T3} {n : Nat}, (∀ t ∈ ts, t.2.2.depth ≤ n) → PyData.depthAll (ts.map tD) ≤ n + 1
  | [], _, _ => by simp [PyData.depthAll]
  | u :: r, n, h => by
    have h1 := h u (List.mem_cons_self ..)
    have h2 := dep_le fun t ht => h t (List.mem_cons_of_mem _ ht)
    simp only [List.map_cons, PyData.depthAll, tD, PyData.depth]
    omega
end My

set_option Elab.async false
set_option linter.all false
set_option maxRecDepth 100000
set_option maxHeartbeats 1000000
namespace My
open PySem PySem.Spec PyProof.Rows L2 Rf
section
variable {Φ : FT} {F : Nat}
/-! ### compare -/
abbrev tgC : Tgt := .tp [(.tp [(.nm 2), (.nm 3)]), (.tp [(.nm 4), (.nm 5)])]
theorem mul_sgn {z s : Int} : binK .mul (.int (sgn z)) (.int s) = .ok (.int (sgn z * s)) := binK_mul (.inl (by unfold sgn; split; decide; split <;> decide))
def CEnd (a b : List T3) : Prop := (b.length < a.length ∧ ∃ t, a[b.length]? = some t ∧ cmpL (a.map tm) (b.map tm) = t.1) ∨ (a.length < b.length ∧ ∃ u, b[a.length]? = some u ∧ cmpL (a.map tm) (b.map tm) = -u.1) ∨ a.map tD = b.map tD
theorem cmp_loop {x y : Slot} : ∀ {a b : List T3}, Nf (a.map tm) → Nf (b.map tm) → (∀ t ∈ a, Fm t.2.2 (t.2.1 : Nat)) → (∀ t ∈ b, Fm t.2.2 (t.2.1 : Nat)) → (∀ t ∈ a, ∀ u ∈ b, Φ 2 [t.2.2, u.2.2] = .ok (.int (sgn ((t.2.1 : Int) - (u.2.1 : Int))))) → ∀ s2 s3 s4 s5 s6 : Slot,
    forL (Rf.execs Φ F b2_1) tgC (zipD (a.map tD) (b.map tD)) [x, y, s2, s3, s4, s5, s6] = .ret (.int (cmpL (a.map tm) (b.map tm))) ∨
    (∃ r2 r3 r4 r5 r6 : Slot, forL (Rf.execs Φ F b2_1) tgC (zipD (a.map tD) (b.map tD)) [x, y, s2, s3, s4, s5, s6] = .nx [x, y, r2, r3, r4, r5, r6] ∧ CEnd a b)
  | [], [], _, _, _, _, _, s2, s3, s4, s5, s6 => .inr ⟨_, _, _, _, _, forL_nil, .inr (.inr rfl)⟩
  | t :: r, [], _, _, _, _, _, s2, s3, s4, s5, s6 => .inr ⟨_, _, _, _, _, forL_nil, .inl ⟨by simp, t, rfl, rfl⟩⟩
  | [], u :: s, _, _, _, _, _, s2, s3, s4, s5, s6 => .inr ⟨_, _, _, _, _, forL_nil, .inr (.inl ⟨by simp, u, rfl, rfl⟩)⟩
  | t :: r, u :: s, h, g, f1, f2, ih, s2, s3, s4, s5, s6 => by
    have hb : bindT tgC (.tuple [tD t, tD u]) [x, y, s2, s3, s4, s5, s6] = some [x, y, .d (.int t.1), .d t.2.2, .d (.int u.1), .d u.2.2, s6] := rfl
    have e0 : zipD ((t :: r).map tD) ((u :: s).map tD) = .tuple [tD t, tD u] :: zipD (r.map tD) (s.map tD) := rfl
    rw [e0, forL_cons hb]
    have hc := ih t (List.mem_cons_self ..) u (List.mem_cons_self ..)
    have e1 : cmpL ((t :: r).map tm) ((u :: s).map tm) = if t.1 ≠ u.1 then t.1 else if u.2.1 < t.2.1 then t.1 else if t.2.1 < u.2.1 then -t.1 else cmpL (r.map tm) (s.map tm) := rfl
    by_cases e : t.1 = u.1
    · rw [if_neg (by simpa using e)] at e1
      by_cases lt : u.2.1 < t.2.1
      · rw [if_pos lt] at e1
        have hz : sgn ((t.2.1 : Int) - (u.2.1 : Int)) = 1 := by unfold sgn; rw [if_pos (by omega)]
        rw [hz] at hc
        refine .inl ?_
        rw [e1]
        simp [b2_1, e, hc]
      · rw [if_neg lt] at e1
        by_cases lt2 : t.2.1 < u.2.1
        · rw [if_pos lt2] at e1
          have hz : sgn ((t.2.1 : Int) - (u.2.1 : Int)) = -1 := by unfold sgn; rw [if_neg (by omega), if_pos (by omega)]
          rw [hz] at hc
          refine .inl ?_
          rw [e1]
          simp [b2_1, e, hc]
        · rw [if_neg lt2] at e1
          have hz : sgn ((t.2.1 : Int) - (u.2.1 : Int)) = 0 := by unfold sgn; rw [if_neg (by omega), if_neg (by omega)]
          rw [hz] at hc
          have hbody : Rf.execs Φ F b2_1 [x, y, .d (.int t.1), .d t.2.2, .d (.int u.1), .d u.2.2, s6] = .nx [x, y, .d (.int t.1), .d t.2.2, .d (.int u.1), .d u.2.2, .d (.int 0)] := by
            simp [b2_1, e, hc]
          rw [hbody, Out.turn_nx]
          have e2 : t.2.1 = u.2.1 := by omega
          have e3 : t.2.2 = u.2.2 := (f1 t (List.mem_cons_self ..)).uniq _ (by rw [e2]; exact f2 u (List.mem_cons_self ..))
          have e4 : tD t = tD u := by unfold tD; rw [e, e3]
          rcases cmp_loop (x := x) (y := y) h.2.2 g.2.2 (fun t ht => f1 t (List.mem_cons_of_mem _ ht)) (fun t ht => f2 t (List.mem_cons_of_mem _ ht)) (fun t ht u hu => ih t (List.mem_cons_of_mem _ ht) u (List.mem_cons_of_mem _ hu)) (.d (.int t.1)) (.d t.2.2) (.d (.int u.1)) (.d u.2.2) (.d (.int 0)) with q | ⟨r2, r3, r4, r5, r6, q, c⟩
          · exact .inl (by rw [q, e1])
          · refine .inr ⟨r2, r3, r4, r5, r6, q, ?_⟩
            rcases c with ⟨c1, w, c2, c3⟩ | ⟨c1, w, c2, c3⟩ | c
            · exact .inl ⟨by simpa using c1, w, by simpa using c2, by rw [e1]; exact c3⟩
            · exact .inr (.inl ⟨by simpa using c1, w, by simpa using c2, by rw [e1]; exact c3⟩)
            · exact .inr (.inr (by simp only [List.map_cons, e4, c]))
    · rw [if_pos e] at e1
      refine .inl ?_
      rw [e1]
      simp [b2_1, e]
theorem idx_tD {a : List T3} {n : Nat} {t : T3} (h : a[n]? = some t) : idxK (.tuple (a.map tD)) (.int (n : Int)) = .ok (tD t) := by
  have e : idxD (.tuple (a.map tD)) (.int (n : Int)) = some (tD t) := by
    show L2.atI _ _ = _
    refine atI_at (by omega) ?_
    rw [List.getElem?_map]
    simp [h]
  rw [idxK, e]; rfl
theorem idx_sg {t : T3} : idxK (tD t) (.int 0) = .ok (.int t.1) := rfl
theorem compare_run {x y : Rf.D} {v w : Int} (hx : Fm x v) (hy : Fm y w) (hd : x.depth ≤ 190) (ih : ∀ d e n m, Fm d n → Fm e m → d.depth + 2 ≤ x.depth → Φ 2 [d, e] = .ok (.int (sgn (n - m)))) :
    Fdef.run ⟨2, 7, b2⟩ Φ F [x, y] = .ok (.int (sgn (v - w))) := by
  by_cases e : x = y
  · subst e
    rw [hx.det _ hy, Int.sub_self]
    have c := eqD_self hx.pl hd
    refine run_ret rfl ?_
    simp [b2, c, sgn]
  · have c := eqD_no hx.pl hy.pl hd e
    obtain ⟨a, rfl, rfl, n1, f1⟩ := hx.inv
    obtain ⟨b, rfl, rfl, n2, f2⟩ := hy.inv
    rw [← cmp_val n1 n2]
    have hl := cmp_loop (Φ := Φ) (F := F) (x := .d (.tuple (a.map tD))) (y := .d (.tuple (b.map tD))) n1 n2 f1 f2 (fun t ht u hu => ih _ _ _ _ (f1 t ht) (f2 u hu) (by
      have := dep_all ht
      simp only [PyData.depth]
      omega)) .un .un .un .un .un
    rcases hl with q | ⟨r2, r3, r4, r5, r6, q, c1⟩
    · refine run_ret rfl ?_
      simp [b2, c, q]
    · rcases c1 with ⟨c1, t, c2, c3⟩ | ⟨c1, t, c2, c3⟩ | c1
      · rw [c3]
        have i1 := idx_tD c2
        refine run_ret rfl ?_
        have l1 : (b.length : Int) < (a.length : Int) := by omega
        simp [b2, c, q, l1, c1, i1, idx_sg]
      · rw [c3]
        have i1 := idx_tD c2
        refine run_ret rfl ?_
        have l1 : ¬ (b.length : Int) < (a.length : Int) := by omega
        simp [b2, c, q, l1, show ¬ b.length < a.length by omega, i1, idx_sg]
      · exact absurd (congrArg PyData.tuple c1) e
theorem compare_ok : ∀ (n : Nat) {x y : Rf.D} {v w : Int}, Fm x v → Fm y w → x.depth ≤ 190 → x.depth ≤ 2 * n → phi TB F n 2 [x, y] = .ok (.int (sgn (v - w)))
  | 0, x, y, v, w, hx, _, _, h => by
    obtain ⟨a, rfl, _⟩ := hx.inv
    simp [PyData.depth] at h
  | n + 1, x, y, v, w, hx, hy, hd, h => (phi_succ rfl).trans (compare_run hx hy hd fun d e p q hp hq hh => compare_ok n hp hq (by omega) (by omega))
theorem sign_run {x : Rf.D} {v : Int} (hx : Fm x v) : Fdef.run ⟨1, 1, b3⟩ Φ F [x] = .ok (.int (sgn v)) := by
  obtain ⟨a, rfl, rfl, n1, f1⟩ := hx.inv
  cases a with
  | nil =>
    refine run_ret rfl ?_
    simp [b3]
    rfl
  | cons t r =>
    have i1 := idx_tD (a := t :: r) (n := 0) rfl
    have i1 : idxK (.tuple (tD t :: r.map tD)) (.int 0) = .ok (tD t) := i1
    have e : sgn (val ((t :: r).map tm)) = t.1 := sgn_cons n1
    rw [e]
    refine run_ret rfl ?_
    have l1 : ¬ ((r.length : Int) + 1 = 0) := by omega
    simp [b3, l1, i1, idx_sg]
end
end My

set_option Elab.async false
set_option linter.all false
set_option maxRecDepth 100000
set_option maxHeartbeats 1000000
namespace My
open PySem PySem.Spec PyProof.Rows L2 Rf
section
variable {Φ : FT} {F : Nat}
/-! ### from_int -/
def OkT (m dd : Nat) (t : T3) : Prop := t.2.1 ≤ m ∧ Fm t.2.2 (t.2.1 : Nat) ∧ t.2.2.depth ≤ dd
structure OI (v : Int) (m dd i : Nat) (acc : List T3) (rest : Int) : Prop where
  nf : Nf (acc.reverse.map tm)
  hd : ∀ t ∈ (acc.reverse.map tm).head?, t.2 + 1 ≤ i ∧ (t.2 + 1 = i → rest % 2 = 0)
  vl : val (acc.reverse.map tm) + rest * 2 ^ i = v
  tm : ∀ t ∈ acc, OkT m dd t
  sm : (i ≤ m ∧ -(2 ^ (m - i)) ≤ rest ∧ rest ≤ 2 ^ (m - i)) ∨ rest = 0
theorem tmap {acc : List T3} {s : Int} {p : Nat} {d : Rf.D} : acc.map tD ++ [.tuple [.int s, d]] = (acc ++ [(s, p, d)]).map tD := by simp [tD]
theorem half_sm {m i : Nat} {rest r2 : Int} (h : (i ≤ m ∧ -(2 ^ (m - i)) ≤ rest ∧ rest ≤ 2 ^ (m - i)) ∨ rest = 0) (h0 : rest ≠ 0) (hr : r2 = rest / 2 ∧ rest % 2 = 0 ∨ (r2 = (rest - 1) / 2 ∧ rest % 4 = 1) ∨ (r2 = (rest + 1) / 2 ∧ rest % 4 = 3)) : (i + 1 ≤ m ∧ -(2 ^ (m - (i + 1))) ≤ r2 ∧ r2 ≤ 2 ^ (m - (i + 1))) ∨ r2 = 0 := by
  rcases h with ⟨h1, h2, h3⟩ | h
  · by_cases e : i = m
    · subst e
      rw [Nat.sub_self, show (2 : Int) ^ 0 = 1 from rfl] at h2 h3
      right
      omega
    · left
      have e2 : m - i = m - (i + 1) + 1 := by omega
      rw [e2, two_add, show (2 : Int) ^ 1 = 2 from rfl] at h2 h3
      generalize (2 : Int) ^ (m - (i + 1)) = x at *
      refine ⟨by omega, ?_, ?_⟩ <;> omega
  · exact absurd h h0
theorem OI.even {v : Int} {m dd i : Nat} {acc : List T3} {rest : Int} (h : OI v m dd i acc rest) (h0 : rest ≠ 0) (he : rest % 2 = 0) : OI v m dd (i + 1) acc (rest / 2) := by
  refine ⟨h.nf, fun t ht => ?_, ?_, h.tm, half_sm h.sm h0 (.inl ⟨rfl, he⟩)⟩
  · have := h.hd t ht; exact ⟨by omega, fun z => by omega⟩
  · have := h.vl
    rw [two_add, show (2 : Int) ^ 1 = 2 from rfl, show (2 : Int) ^ i * 2 = 2 * 2 ^ i from Int.mul_comm .., ← Int.mul_assoc, show rest / 2 * 2 = rest by omega]
    exact this
theorem OI.odd {v : Int} {m dd i : Nat} {acc : List T3} {rest s : Int} {d : Rf.D} (h : OI v m dd i acc rest) (h0 : rest ≠ 0) (ho : rest % 2 = 1) (hs : s = 2 - rest % 4) (hd : OkT m dd (s, i, d)) : OI v m dd (i + 1) (acc ++ [(s, i, d)]) ((rest - s) / 2) := by
  have hs2 : s = 1 ∨ s = -1 := by omega
  refine ⟨?_, fun t ht => ?_, ?_, fun t ht => ?_, half_sm h.sm h0 (by omega)⟩
  · rw [List.reverse_append]
    refine ⟨hs2, fun u hu => ?_, h.nf⟩
    have := h.hd u hu
    by_cases e : u.2 + 1 = i
    · have := this.2 e; omega
    · show u.2 + 2 ≤ i
      have := this.1
      omega
  · rw [List.reverse_append] at ht
    have : t = (s, i) := by simpa [My.tm] using ht.symm
    subst this
    exact ⟨Nat.le_refl _, fun _ => by show (rest - s) / 2 % 2 = 0; omega⟩
  · have := h.vl
    rw [List.reverse_append]
    show s * 2 ^ i + val (acc.reverse.map My.tm) + (rest - s) / 2 * 2 ^ (i + 1) = v
    rw [two_add, show (2 : Int) ^ 1 = 2 from rfl, show (2 : Int) ^ i * 2 = 2 * 2 ^ i from Int.mul_comm .., ← Int.mul_assoc, show (rest - s) / 2 * 2 = rest - s by omega, Int.sub_mul]
    omega
  · rcases List.mem_append.mp ht with ht | ht
    · exact h.tm t ht
    · simp at ht; subst ht; exact hd
def JF (v : Int) (m dd : Nat) (i : Nat) (e : Sl) : Prop := ∃ (acc : List T3) (rest : Int) (s3 : Slot), e = [.d (.int rest), .ol (acc.map tD), .d (.int (i : Nat)), s3] ∧ OI v m dd i acc rest ∧ acc.length ≤ i ∧ i ≤ m + 1
theorem OI.nz {v : Int} {m dd i : Nat} {acc : List T3} {rest : Int} (h : OI v m dd i acc rest) (h0 : rest ≠ 0) : v ≠ 0 := fun z => by
  subst z
  have hv := h.vl
  have nn : ∀ (l : List Tm), Nf l → val l + rest * 2 ^ i = 0 → (∀ t ∈ l.head?, t.2 + 1 ≤ i) → False := fun l nl e hh => by
    have p := two_pos i
    cases l with
    | nil =>
      simp only [val, Int.zero_add] at e
      rcases Int.mul_eq_zero.mp e with e | e
      · exact h0 e
      · omega
    | cons t r =>
      have b := bnd nl
      have le := two_lt (n := t.2) (k := i) (by have := hh t rfl; omega)
      have p2 := two_pos t.2
      have ee : val (t :: r) = -(rest * 2 ^ i) := by omega
      rw [ee] at b
      have r1 : rest ≤ -1 ∨ 1 ≤ rest := by omega
      have big : 2 ^ i ≤ rest * 2 ^ i ∨ rest * 2 ^ i ≤ -(2 ^ i) := by
        rcases r1 with r1 | r1
        · right
          have := Int.mul_le_mul_of_nonneg_right r1 (Int.le_of_lt p)
          omega
        · left
          have := Int.mul_le_mul_of_nonneg_right r1 (Int.le_of_lt p)
          omega
      generalize rest * 2 ^ i = z at *
      generalize (2 : Int) ^ i = x at *
      generalize (2 : Int) ^ t.2 = y at *
      rcases nl.1 with e1 | e1 <;> rw [e1] at b <;> omega
  exact nn _ h.nf hv fun t ht => (h.hd t ht).1
theorem from_run {m dd : Nat} (hm : m ≤ 3000) (hF : 4000 ≤ F) {v : Int} (h1 : -(2 ^ m) ≤ v) (h2 : v ≤ 2 ^ m) (ih : v ≠ 0 → ∀ p : Nat, p ≤ m → ∃ d, Φ 4 [.int (p : Nat)] = .ok d ∧ Fm d (p : Nat) ∧ d.depth ≤ dd) :
    ∃ x, Fdef.run ⟨1, 4, b4⟩ Φ F [.int v] = .ok x ∧ (Fm x v ∧ x.depth ≤ dd + 2) := by
  refine run_of rfl ?_
  simp only [b4, x_cons, x_own, e_lst, es_nil, Res.bind_ok, Out.ofR_ok, List.map_cons, List.map_nil, List.replicate_succ, List.replicate_zero, Nat.reduceSub, List.cons_append, List.nil_append]
  rw [ownK_l (by simp)]
  simp only [Out.seq_nx, x_cons, x_asg, e_con, Out.ofR_ok, List.set_cons_succ, List.set_cons_zero]
  rw [asgK_nm (by simp)]
  simp only [Out.seq_nx, x_whl, List.set_cons_succ, List.set_cons_zero]
  refine Is.whl (fun n e => ∃ i, n + i = m + 2 ∧ JF v m dd i e) (fun n e hh => ?_) F _ (m + 2) ⟨0, rfl, [], v, .un, rfl, ⟨trivial, fun t ht => by simp at ht, by simp [val], fun t ht => by simp at ht, .inl ⟨Nat.zero_le _, h1, h2⟩⟩, Nat.le_refl _, Nat.zero_le _⟩ (by omega)
  obtain ⟨i, hn, acc, rest, s3, rfl, h, hl, hi⟩ := hh
  by_cases h0 : rest = 0
  · subst h0
    refine .inl ⟨by simp [x4_2], ?_⟩
    have hF : Fm (.tuple (acc.map tD).reverse) v := by
      have := Fm.mk acc.reverse h.nf fun t ht => (h.tm t (List.mem_reverse.mp ht)).2.1
      have hv := h.vl
      rw [Int.zero_mul, Int.add_zero] at hv
      rw [hv] at this
      rw [← List.map_reverse]
      exact this
    have hD : (PyData.tuple (acc.map tD).reverse).depth ≤ dd + 2 := by
      have := dep_le (ts := acc.reverse) (n := dd) fun t ht => (h.tm t (List.mem_reverse.mp ht)).2.2
      rw [List.map_reverse] at this
      simp only [PyData.depth]
      omega
    have rv : revD (.list (acc.map tD)) = some (.list (acc.map tD).reverse) := rfl
    simp [rv]
    exact ⟨hF, hD⟩
  · have hv0 := h.nz h0
    have him : i ≤ m := by
      rcases h.sm with q | q
      · exact q.1
      · exact absurd q h0
    have hz : acc.length < line := by unfold line; omega
    refine .inr ⟨by simp [x4_2, h0], ?_⟩
    by_cases hp : rest % 2 = 1
    · obtain ⟨d, c1, c2, c3⟩ := ih hv0 i him
      have ok : OkT m dd (2 - rest % 4, i, d) := ⟨him, c2, c3⟩
      have h' := h.odd h0 hp rfl ok
      have r4 : rest % 4 = 1 ∨ rest % 4 = 3 := by omega
      have hb : Rf.execs Φ F b4_1 [.d (.int rest), .ol (acc.map tD), .d (.int (i : Nat)), s3] = .nx [.d (.int ((rest - (2 - rest % 4)) / 2)), .ol ((acc ++ [(2 - rest % 4, i, d)]).map tD), .d (.int ((i + 1 : Nat) : Int)), .d (.int (2 - rest % 4))] := by
        rw [← tmap]
        rcases r4 with r4 | r4
        · simp [b4_1, hp, r4, c1, hz]
        · simp [b4_1, hp, r4, c1, hz]
      rw [hb, Turn_nx]
      exact ⟨n - 1, by omega, i + 1, by omega, _, _, _, rfl, h', by simp; omega, by omega⟩
    · have he : rest % 2 = 0 := by omega
      have h' := h.even h0 he
      have hb : Rf.execs Φ F b4_1 [.d (.int rest), .ol (acc.map tD), .d (.int (i : Nat)), s3] = .nx [.d (.int (rest / 2)), .ol (acc.map tD), .d (.int ((i + 1 : Nat) : Int)), s3] := by
        simp [b4_1, he]
      rw [hb, Turn_nx]
      exact ⟨n - 1, by omega, i + 1, by omega, _, _, _, rfl, h', by omega, by omega⟩
def lev : Nat → Nat
  | 0 => 0
  | 1 => 0
  | 2 => 1
  | 3 => 2
  | 4 => 4
  | 5 => 16
  | _ => 3000
theorem from_ok (hF : 4000 ≤ F) : ∀ (n : Nat) {v : Int}, n ≤ 6 → (n = 0 → v = 0) → -(2 ^ lev n) ≤ v → v ≤ 2 ^ lev n → ∀ k, ∃ x, phi TB F (n + k + 1) 4 [.int v] = .ok x ∧ Fm x v ∧ x.depth ≤ 2 * n + 1
  | 0, v, _, hz, h1, h2, k => by
    obtain ⟨x, r, hx⟩ := from_run (Φ := phi TB F (0 + k)) (F := F) (m := 0) (dd := 0) (v := v) (by decide) hF h1 h2 fun z => absurd (hz rfl) z
    have hv := hz rfl
    subst hv
    have : x = .tuple [] := by
      have := Fm.mk [] trivial fun t ht => by simp at ht
      exact hx.1.uniq _ this
    refine ⟨x, (phi_succ rfl).trans r, hx.1, ?_⟩
    rw [this]
    decide
  | n + 1, v, hn, _, h1, h2, k => by
    obtain ⟨x, r, hx⟩ := from_run (Φ := phi TB F (n + 1 + k)) (F := F) (m := lev (n + 1)) (dd := 2 * n + 1) (v := v) (by
      match n, hn with
      | 0, _ => decide
      | 1, _ => decide
      | 2, _ => decide
      | 3, _ => decide
      | 4, _ => decide
      | 5, _ => decide) hF h1 h2 fun _ p hp => by
        have key : (n = 0 → p = 0) ∧ (p : Int) ≤ 2 ^ lev n := by
          match n, hn with
          | 0, _ => exact ⟨fun _ => by simpa [lev] using hp, by simp [lev] at hp ⊢; omega⟩
          | 1, _ => exact ⟨fun z => by omega, by simp [lev] at hp ⊢; omega⟩
          | 2, _ => exact ⟨fun z => by omega, by simp [lev] at hp ⊢; omega⟩
          | 3, _ => exact ⟨fun z => by omega, by simp [lev] at hp ⊢; omega⟩
          | 4, _ => exact ⟨fun z => by omega, by simp [lev] at hp ⊢; omega⟩
          | 5, _ => exact ⟨fun z => by omega, by simp [lev] at hp ⊢; omega⟩
        have pos := two_pos (lev n)
        obtain ⟨d, d1, d2, d3⟩ := from_ok hF n (v := (p : Int)) (by omega) (fun z => by rw [key.1 z]; rfl) (by omega) key.2 k
        refine ⟨d, ?_, d2, d3⟩
        rw [show n + 1 + k = n + k + 1 by omega]
        exact d1
    exact ⟨x, (phi_succ rfl).trans r, hx.1, by omega⟩
end
end My

set_option Elab.async false
set_option linter.all false
set_option maxRecDepth 100000
set_option maxHeartbeats 4000000
namespace My
open PySem PySem.Spec PyProof.Rows L2 Rf
/-! ### dicts of numbers -/
abbrev Ct := Nat × Int
def rep (L : List Ct) : List (Rf.D × Rf.D) := L.map fun w => (.int (w.1 : Nat), .int w.2)
def Nd (L : List Ct) : Prop := L.Pairwise fun a b => a.1 ≠ b.1
def get (L : List Ct) (k : Nat) : Int := match L with
  | [] => 0
  | w :: r => if w.1 = k then w.2 else get r k
def has (L : List Ct) (k : Nat) : Bool := match L with
  | [] => false
  | w :: r => if w.1 = k then true else has r k
def put (L : List Ct) (k : Nat) (c : Int) : List Ct := if has L k then L.map fun w => if w.1 = k then (w.1, c) else w else L ++ [(k, c)]
theorem eqv_n {a b : Nat} : PyData.eqv (.int (a : Nat)) (.int (b : Nat)) = decide (a = b) := by
  simp only [PyData.eqv]
  by_cases h : a = b
  · subst h; simp
  · rw [decide_eq_false h, beq_eq_false_iff_ne]; omega
theorem lookD_rep {k : Nat} : ∀ {L : List Ct}, lookD (rep L) (.int (k : Nat)) = if has L k then some (.int (get L k)) else none
  | [] => rfl
  | w :: r => by
    have ih := lookD_rep (k := k) (L := r)
    unfold lookD rep at ih ⊢
    rw [List.map_cons, List.find?_cons, eqv_n]
    by_cases h : w.1 = k
    · rw [decide_eq_true h]; simp [has, get, h]
    · rw [decide_eq_false h]
      simp only [has, get, if_neg h]
      exact ih
theorem get_no {k : Nat} : ∀ {L : List Ct}, has L k = false → get L k = 0
  | [], _ => rfl
  | w :: r, h => by
    simp only [has] at h
    split at h
    · cases h
    · rename_i e
      simp only [get, if_neg e]; exact get_no h
theorem getD_rep {L : List Ct} {k : Nat} : (lookD (rep L) (.int (k : Nat))).getD (.int 0) = .int (get L k) := by
  rw [lookD_rep]
  split
  · rfl
  · rename_i h
    rw [get_no (by simpa using h)]; rfl
theorem putD_rep {L : List Ct} {k : Nat} {c : Int} : putD (rep L) (.int (k : Nat)) (.int c) = rep (put L k c) := by
  unfold putD put
  rw [lookD_rep]
  cases h : has L k with
  | true =>
    simp only [if_true, Option.isSome_some]
    unfold rep
    rw [List.map_map, List.map_map]
    refine List.map_congr_left fun w _ => ?_
    simp only [Function.comp, eqv_n]
    by_cases e : w.1 = k
    · rw [decide_eq_true e, if_pos rfl, if_pos e]
    · rw [decide_eq_false e, if_neg (by decide), if_neg e]
  | false =>
    simp only [Bool.false_eq_true, if_false, Option.isSome_none]
    unfold rep
    rw [List.map_append]
    rfl
theorem has_mem {k : Nat} : ∀ {L : List Ct}, has L k = true ↔ ∃ w ∈ L, w.1 = k
  | [] => by simp [has]
  | w :: r => by
    simp only [has]
    by_cases e : w.1 = k
    · rw [if_pos e]; exact ⟨fun _ => ⟨w, List.mem_cons_self .., e⟩, fun _ => rfl⟩
    · rw [if_neg e, has_mem]
      constructor
      · rintro ⟨u, h1, h2⟩; exact ⟨u, List.mem_cons_of_mem _ h1, h2⟩
      · rintro ⟨u, h1, h2⟩
        rcases List.mem_cons.mp h1 with rfl | h1
        · exact absurd h2 e
        · exact ⟨u, h1, h2⟩
theorem put_keys {L : List Ct} {k : Nat} {c : Int} (h : has L k = true) : (put L k c).map (·.1) = L.map (·.1) := by
  unfold put
  rw [if_pos h, List.map_map]
  refine List.map_congr_left fun w _ => ?_
  simp only [Function.comp]
  split <;> rfl
theorem nd_keys {L : List Ct} : Nd L ↔ (L.map (·.1)).Pairwise (· ≠ ·) := by
  unfold Nd
  rw [List.pairwise_map]
theorem put_nd {L : List Ct} {k : Nat} {c : Int} (h : Nd L) : Nd (put L k c) := by
  cases q : has L k with
  | true => rw [nd_keys, put_keys q, ← nd_keys]; exact h
  | false =>
    unfold put
    rw [q, if_neg (by decide)]
    unfold Nd at h ⊢
    rw [List.pairwise_append]
    refine ⟨h, List.pairwise_singleton .., fun a ha b hb => ?_⟩
    rw [List.mem_singleton] at hb
    subst hb
    intro e
    have : has L k = true := has_mem.mpr ⟨a, ha, e⟩
    rw [q] at this; cases this
theorem put_len {L : List Ct} {k : Nat} {c : Int} : (put L k c).length ≤ L.length + 1 := by
  unfold put
  split
  · rw [List.length_map]; omega
  · rw [List.length_append]; simp
theorem put_mem {L : List Ct} {k : Nat} {c : Int} {w : Ct} (h : w ∈ put L k c) : w = (k, c) ∨ w ∈ L := by
  unfold put at h
  split at h
  · obtain ⟨u, h1, h2⟩ := List.mem_map.mp h
    split at h2
    · rename_i e
      left; rw [← h2, e]
    · right; rw [← h2]; exact h1
  · rcases List.mem_append.mp h with h | h
    · exact .inr h
    · exact .inl (by simpa using h)
theorem keysOk_rep : ∀ {L : List Ct}, keysOk (rep L) = true
  | [] => rfl
  | w :: r => by
    have := keysOk_rep (L := r)
    unfold rep at this ⊢
    simp only [List.map_cons, keysOk, keyD, Option.isSome_some, Bool.true_and]
    exact this
section
variable {Φ : FT} {F n : Nat}
theorem ownK_rep {L : List Ct} {i : Nat} {e : Sl} (h : i < e.length) : ownK i e (.dict (rep L)) = .nx (e.set i (.od (rep L))) := by
  simp only [ownK, ownS, if_pos keysOk_rep, if_pos h]
theorem setd_rep {L : List Ct} {i k : Nat} {c : Int} {e : Sl} (h : L.length < line) : setdK i e (rep L) (.int c) (.int (k : Nat)) = .nx (e.set i (.od (rep (put L k c)))) := by
  rw [setdK_i (by unfold rep; rw [List.length_map]; exact h), putD_rep]
theorem dget_rep {L : List Ct} {k : Nat} : dgetV (rep L) (.int (k : Nat)) (.int 0) = .ok (.int (get L k)) := by
  rw [dgetV_i, getD_rep]
theorem put_has {L : List Ct} {k j : Nat} {c : Int} (h : has L j = true) : has (put L k c) j = true := by
  obtain ⟨w, h1, h2⟩ := has_mem.mp h
  unfold put
  split
  · exact has_mem.mpr ⟨_, List.mem_map.mpr ⟨w, h1, rfl⟩, by split <;> exact h2⟩
  · exact has_mem.mpr ⟨w, List.mem_append.mpr (.inl h1), h2⟩
theorem idx_has {L : List Ct} {k : Nat} (h : has L k = true) : idxK (.dict (rep L)) (.int (k : Nat)) = .ok (.int (get L k)) := by
  have e : idxD (.dict (rep L)) (.int (k : Nat)) = some (.int (get L k)) := by
    show (if (keyD (.int (k : Nat))).isSome then lookD (rep L) (.int (k : Nat)) else none) = _
    rw [if_pos (show (keyD (PyData.int (k : Nat))).isSome = true from rfl), lookD_rep, if_pos h]
  rw [idxK, e]; rfl
end
end My

set_option Elab.async false
set_option linter.all false
set_option maxRecDepth 100000
set_option maxHeartbeats 4000000
namespace My
open PySem PySem.Spec PyProof.Rows L2 Rf
section
variable {Φ : FT} {F n : Nat}
/-! ### powers of two by a modulus -/
def pw (m i : Nat) : Nat := 2 ^ i % m
theorem pw_succ {m i : Nat} : pw m (i + 1) = pw m i * 2 % m := by
  unfold pw
  rw [Nat.pow_succ, Nat.mod_mul_mod]
theorem pw_lt {m i : Nat} (h : 0 < m) : pw m i < m := Nat.mod_lt _ h
theorem pw_shift {m a b : Nat} (h : pw m a = pw m b) : ∀ k, pw m (a + k) = pw m (b + k)
  | 0 => h
  | k + 1 => by
    rw [← Nat.add_assoc, ← Nat.add_assoc, pw_succ, pw_succ, pw_shift h k]
structure IsRow (m L l : Nat) : Prop where
  lt : l < L
  eq : pw m L = pw m l
  ne : ∀ a b, a < b → b < L → pw m a ≠ pw m b
  le : L ≤ m
theorem IsRow.uniq {m L l L' l' : Nat} (h : IsRow m L l) (h' : IsRow m L' l') : L = L' ∧ l = l' := by
  have e : L = L' := by
    rcases Nat.lt_trichotomy L L' with q | q | q
    · exact absurd h.eq.symm (h'.ne l L h.lt q)
    · exact q
    · exact absurd h'.eq.symm (h.ne l' L' h'.lt q)
  subst e
  refine ⟨rfl, ?_⟩
  have q : pw m l = pw m l' := h.eq.symm.trans h'.eq
  rcases Nat.lt_trichotomy l l' with g | g | g
  · exact absurd q (h.ne l l' g h'.lt)
  · exact g
  · exact absurd q.symm (h.ne l' l g h.lt)
theorem few {m i : Nat} (hm : 0 < m) (ne : ∀ a b, a < b → b < i → pw m a ≠ pw m b) : i ≤ m := by
  have nd : ((List.range i).map fun j => ((pw m j : Nat) : Int) + 1).Nodup := by
    unfold List.Nodup
    rw [List.pairwise_map]
    have := List.pairwise_lt_range (n := i)
    refine List.Pairwise.imp_of_mem (fun {a b} ha hb hlt => ?_) this
    have := ne a b hlt (List.mem_range.mp hb)
    omega
  have := nodup_len m nd fun x hx => by
    obtain ⟨j, _, rfl⟩ := List.mem_map.mp hx
    have := pw_lt (m := m) (i := j) hm
    omega
  simpa using this
theorem period {m L l : Nat} (h : IsRow m L l) : ∀ (k E : Nat), E = k → l ≤ E → pw m E = pw m (l + (E - l) % (L - l)) := by
  intro k
  induction k using Nat.strongRecOn with
  | ind k ih =>
    intro E hE hl
    have hlt := h.lt
    by_cases hlt2 : E < L
    · rw [Nat.mod_eq_of_lt (by omega)]
      congr 1
      omega
    · have e1 : pw m E = pw m (E - (L - l)) := by
        have := pw_shift h.eq (E - L)
        rw [show L + (E - L) = E by omega, show l + (E - L) = E - (L - l) by omega] at this
        exact this
      have e2 := ih (E - (L - l)) (by omega) _ rfl (by omega)
      rw [e1, e2]
      congr 2
      rw [show E - l = (E - (L - l) - l) + (L - l) by omega, Nat.add_mod_right]
/-! ### row_of_two -/
abbrev rowL (m L : Nat) : List Rf.D := (List.range L).map fun j => .int (pw m j : Nat)
abbrev seenL (m i : Nat) : List Ct := (List.range i).map fun j => (pw m j, (j : Int))
theorem has_seen {m i k : Nat} : has (seenL m i) k = true ↔ ∃ j, j < i ∧ pw m j = k := by
  rw [has_mem]
  constructor
  · rintro ⟨w, h1, h2⟩
    obtain ⟨j, h3, rfl⟩ := List.mem_map.mp h1
    exact ⟨j, List.mem_range.mp h3, h2⟩
  · rintro ⟨j, h1, h2⟩
    exact ⟨(pw m j, (j : Int)), List.mem_map.mpr ⟨j, List.mem_range.mpr h1, rfl⟩, h2⟩
theorem get_seen {m i : Nat} (ne : ∀ a b, a < b → b < i → pw m a ≠ pw m b) {j : Nat} (hj : j < i) : get (seenL m i) (pw m j) = (j : Int) := by
  have : ∀ (L : List Nat), L.Pairwise (· < ·) → (∀ x ∈ L, x < i) → j ∈ L → get (L.map fun j => (pw m j, (j : Int))) (pw m j) = (j : Int) := by
    intro L
    induction L with
    | nil => intro _ _ h; simp at h
    | cons a r ih =>
      intro hp hb hm
      rw [List.pairwise_cons] at hp
      simp only [List.map_cons, get]
      by_cases e : pw m a = pw m j
      · rw [if_pos e]
        have ha := hb a (List.mem_cons_self ..)
        rcases Nat.lt_trichotomy a j with g | g | g
        · exact absurd e (ne a j g hj)
        · rw [g]
        · exact absurd e.symm (ne j a g ha)
      · rw [if_neg e]
        rcases List.mem_cons.mp hm with rfl | hm
        · exact absurd rfl e
        · exact ih hp.2 (fun x hx => hb x (List.mem_cons_of_mem _ hx)) hm
  exact this _ List.pairwise_lt_range (fun x hx => List.mem_range.mp hx) (List.mem_range.mpr hj)
theorem inD_rep {L : List Ct} {k : Nat} : inD (.int (k : Nat)) (.dict (rep L)) = some (has L k) := by
  show (if (keyD (.int (k : Nat))).isSome then some (lookD (rep L) (.int (k : Nat))).isSome else none) = _
  rw [if_pos (show (keyD (PyData.int (k : Nat))).isSome = true from rfl), lookD_rep]
  cases has L k <;> rfl
theorem notin_rep {L : List Ct} {k : Nat} : cmpK .notin (.int (k : Nat)) (.dict (rep L)) = .ok (.bool (!has L k)) := by
  have e : cmpD .notin (.int (k : Nat)) (.dict (rep L)) = some (!has L k) := by
    show Option.map _ (inD (.int (k : Nat)) (.dict (rep L))) = _
    rw [inD_rep]; rfl
  rw [cmpK, e]; rfl
theorem in_rep {L : List Ct} {k : Nat} : cmpK .isin (.int (k : Nat)) (.dict (rep L)) = .ok (.bool (has L k)) := by
  have e : cmpD .isin (.int (k : Nat)) (.dict (rep L)) = some (has L k) := inD_rep
  rw [cmpK, e]; rfl
theorem put_seen {m i : Nat} (h : has (seenL m i) (pw m i) = false) : put (seenL m i) (pw m i) (i : Int) = seenL m (i + 1) := by
  unfold put
  rw [h, if_neg (by decide)]
  unfold seenL
  rw [List.range_succ, List.map_append]
  rfl
theorem row_snoc {m i : Nat} : rowL m i ++ [.int (pw m i : Nat)] = rowL m (i + 1) := by
  unfold rowL
  rw [List.range_succ, List.map_append]
  rfl
def JR (m : Nat) (i : Nat) (e : Sl) : Prop := e = [.d (.int (m : Nat)), .ol (rowL m i), .od (rep (seenL m i)), .d (.int (pw m i : Nat))] ∧ ∀ a b, a < b → b < i → pw m a ≠ pw m b
theorem row_run {m : Nat} (h1 : 1 ≤ m) (h2 : m ≤ 10000) (hF : 20000 ≤ F) : ∃ x, Fdef.run ⟨1, 4, b11⟩ Φ F [.int (m : Nat)] = .ok x ∧ ∃ L l, IsRow m L l ∧ x = .tuple [.list (rowL m L), .int (l : Nat)] := by
  refine run_of rfl ?_
  have p0 : ((1 : Int) % (m : Nat)) = ((pw m 0 : Nat) : Int) := by
    unfold pw
    rw [Nat.pow_zero]
    exact (Int.natCast_emod 1 m).symm
  have o1 := binK_mod (i := 1) (show (0 : Int) < (m : Nat) by omega)
  rw [p0] at o1
  simp only [b11, x_cons, x_own, e_lst, e_emp, es_nil, Res.bind_ok, Out.ofR_ok, List.map_cons, List.map_nil, List.replicate_succ, List.replicate_zero, Nat.reduceSub, List.cons_append, List.nil_append]
  rw [ownK_l (by simp)]
  simp only [Out.seq_nx, x_cons, x_own, e_emp, Out.ofR_ok, List.set_cons_succ, List.set_cons_zero]
  rw [ownK_e (by simp)]
  simp only [Out.seq_nx, x_cons, x_asg, e_bin, e_con, e_var, List.getElem?_cons_zero, varK_d, Res.bind_ok, o1, Out.ofR_ok, List.set_cons_succ, List.set_cons_zero]
  rw [asgK_nm (by simp)]
  simp only [Out.seq_nx, x_whl, List.set_cons_succ, List.set_cons_zero]
  refine Is.whl (fun n e => ∃ i, n + i = m + 1 ∧ JR m i e) (fun n e hh => ?_) F _ (m + 1) ⟨0, rfl, rfl, fun a b _ h => absurd h (Nat.not_lt_zero _)⟩ (by omega)
  obtain ⟨i, hn, rfl, ne⟩ := hh
  have hi := few (by omega) ne
  have ni := notin_rep (L := seenL m i) (k := pw m i)
  cases hh : has (seenL m i) (pw m i) with
  | true =>
    rw [hh] at ni
    refine .inl ⟨by simp [x11_2, ni], ?_⟩
    obtain ⟨j, j1, j2⟩ := has_seen.mp hh
    have ix := idx_has hh
    rw [← j2, get_seen ne j1, j2] at ix
    simp [ix]
    exact ⟨i, j, ⟨j1, j2.symm, ne, hi⟩, rfl, rfl⟩
  | false =>
    rw [hh] at ni
    refine .inr ⟨by simp [x11_2, ni], ?_⟩
    have hl : (seenL m i).length < line := by unfold line; simp; omega
    have hl2 : (rowL m i).length < line := by unfold line; simp; omega
    have lr : (rowL m i).length = i := by simp
    have sd := fun e => setd_rep (L := seenL m i) (i := 2) (k := pw m i) (c := (i : Int)) (e := e) hl
    rw [put_seen hh] at sd
    have o2 := binK_mod (i := ((pw m i : Nat) : Int) * 2) (show (0 : Int) < (m : Nat) by omega)
    have p2 : ((pw m i : Nat) : Int) * 2 % (m : Nat) = ((pw m (i + 1) : Nat) : Int) := by
      rw [pw_succ, Int.natCast_emod, Int.natCast_mul]; rfl
    rw [p2] at o2
    have hb : Rf.execs Φ F b11_1 [.d (.int (m : Nat)), .ol (rowL m i), .od (rep (seenL m i)), .d (.int (pw m i : Nat))] = .nx [.d (.int (m : Nat)), .ol (rowL m (i + 1)), .od (rep (seenL m (i + 1))), .d (.int (pw m (i + 1) : Nat))] := by
      rw [← row_snoc]
      generalize rowL m i = R at *
      generalize rep (seenL m i) = S1 at *
      generalize rep (seenL m (i + 1)) = S2 at *
      generalize pw m (i + 1) = q at *
      have hi3 : i < line := by unfold line; omega
      simp [b11_1, lr, sd, hl2, hi3, o2, -binK_mod]
    rw [hb, Turn_nx]
    refine ⟨n - 1, by omega, i + 1, by omega, rfl, fun a b hab hb => ?_⟩
    by_cases e : b = i
    · subst e
      intro z
      have : has (seenL m b) (pw m b) = true := has_seen.mpr ⟨a, hab, z⟩
      rw [hh] at this; cases this
    · exact ne a b hab (by omega)
open Classical in
noncomputable def rowN (m : Nat) : Rf.D := if h : ∃ L l, IsRow m L l then .tuple [.list (rowL m h.choose), .int (h.choose_spec.choose : Nat)] else .none
noncomputable def rowD (m : Int) : Rf.D := rowN m.toNat
theorem rowD_of {m L l : Nat} (h : IsRow m L l) : rowD (m : Nat) = .tuple [.list (rowL m L), .int (l : Nat)] := by
  show rowN m = _
  unfold rowN
  have hx : ∃ L l, IsRow m L l := ⟨L, l, h⟩
  rw [dif_pos hx]
  obtain ⟨q1, q2⟩ := hx.choose_spec.choose_spec.uniq h
  rw [q2, q1]
theorem rowD_flat (m : Int) : noDct (rowD m) = true := by
  have rl : ∀ k L, noDcts (rowL k L) = true := fun k L => noDcts_mem fun x hx => by
    obtain ⟨j, _, rfl⟩ := List.mem_map.mp hx
    rfl
  unfold rowD rowN
  split
  · simp only [noDct, noDcts, rl, Bool.and_self]
  · rfl
theorem c_row (hF : 20000 ≤ F) {m : Nat} (h1 : 1 ≤ m) (h2 : m ≤ 10000) : ∃ L l, IsRow m L l ∧ phi TB F (n + 1) 11 [.int (m : Nat)] = .ok (.tuple [.list (rowL m L), .int (l : Nat)]) := by
  obtain ⟨x, h, L, l, hr, rfl⟩ := row_run (Φ := phi TB F n) (F := F) h1 h2 hF
  exact ⟨L, l, hr, (phi_succ rfl).trans h⟩
end
theorem row_law (n : Nat) (m : Int) (x : Rf.D) (h1 : 1 ≤ m) (h2 : m ≤ 10000) (h : phi TB 20000 n 11 [.int m] = .ok x) : x = rowD m := by
  obtain ⟨k, rfl⟩ := Int.eq_ofNat_of_zero_le (show 0 ≤ m by omega)
  cases n with
  | zero => cases h
  | succ n =>
    obtain ⟨L, l, hr, e⟩ := c_row (F := 20000) (n := n) (Nat.le_refl _) (m := k) (by omega) (by omega)
    rw [e] at h
    cases h
    exact (rowD_of hr).symm
end My

set_option Elab.async false
set_option linter.all false
set_option maxRecDepth 100000
set_option maxHeartbeats 4000000
namespace My
open PySem PySem.Spec PyProof.Rows L2 Rf
section
variable {Φ : FT} {F n : Nat}
theorem augK_mul2 {i : Nat} {e : Sl} {x : Int} : augK i .mul e (.int x) (.int 2) = .nx (e.set i (.d (.int (x * 2)))) := by
  simp only [augK, augD, binD]
  rw [if_pos (.inr (by decide))]
theorem two_mono {i j : Nat} (h : i ≤ j) : (2 : Int) ^ i ≤ 2 ^ j := by
  obtain ⟨d, rfl⟩ : ∃ d, j = i + d := ⟨j - i, by omega⟩
  have := two_pos d
  have h2 := two_pos i
  rw [two_add]
  have := Int.mul_le_mul_of_nonneg_left (show (1 : Int) ≤ 2 ^ d by omega) (Int.le_of_lt h2)
  omega
/-! ### power_of_two -/
def K4 (m : Nat) (i : Nat) (e : Sl) : Prop := ∃ s2 : Slot, e = [.d (.int (m : Nat)), .d (.int (2 ^ i)), s2]
theorem two_run {m : Nat} (hm : m ≤ 100000) : ∃ x, Fdef.run ⟨1, 3, b8⟩ Φ F [.int (m : Nat)] = .ok x ∧ x = .int (2 ^ m) := by
  refine run_of (Q := fun x => x = .int (2 ^ m)) rfl ?_
  have hs := srcK_rn (n := m) (by omega)
  simp [b8, hs]
  refine Is.for (fun i e => K4 m i e) ⟨_, rfl⟩ ?_ ?_
  · rintro i x e hx ⟨s2, rfl⟩
    obtain ⟨hi, rfl⟩ := rng_get hx
    have hb : turnB (Rf.execs Φ F b8_1) (.nm 2) (.int (0 + (i : Int))) [.d (.int (m : Nat)), .d (.int (2 ^ i)), s2] = .nx [.d (.int (m : Nat)), .d (.int (2 ^ (i + 1))), .d (.int (0 + (i : Int)))] := by
      rw [two_add]
      simp [turnB, bindT, b8_1, augK_mul2]
    rw [hb, Turn_nx]
    exact ⟨_, rfl⟩
  · rintro e ⟨s2, rfl⟩
    rw [rng_len]
    simp
theorem c_two {m : Nat} (h : m ≤ 100000) : phi TB F (n + 1) 8 [.int (m : Nat)] = .ok (.int (2 ^ m)) := by
  obtain ⟨x, h1, rfl⟩ := two_run (Φ := phi TB F n) (F := F) (m := m) h
  exact (phi_succ rfl).trans h1
theorem c_from (hF : 4000 ≤ F) {p : Int} (h1 : -(2 ^ 3000) ≤ p) (h2 : p ≤ 2 ^ 3000) : ∃ d, phi TB F (n + 7) 4 [.int p] = .ok d ∧ Fm d p ∧ d.depth ≤ 13 := by
  obtain ⟨d, d1, d2, d3⟩ := from_ok (F := F) hF 6 (v := p) (by decide) (fun z => by omega) h1 h2 n
  exact ⟨d, by rw [show n + 7 = 6 + n + 1 by omega]; exact d1, d2, d3⟩
theorem c_fromN (hF : 4000 ≤ F) {p : Nat} (h : p ≤ 1000000) : ∃ d, phi TB F (n + 7) 4 [.int (p : Nat)] = .ok d ∧ Fm d (p : Nat) ∧ d.depth ≤ 13 := by
  have G := two_mono (i := 20) (j := 3000) (by decide)
  have pos := two_pos 3000
  generalize hG : (2 : Int) ^ 3000 = g at G pos
  exact c_from hF (by rw [hG]; omega) (by rw [hG]; omega)
/-! ### to_int -/
theorem head_le : ∀ {r : List Tm} {t : Tm}, Nf (t :: r) → ∀ u ∈ r, u.2 ≤ t.2
  | [], _, _, u, hu => by simp at hu
  | w :: r, t, h, u, hu => by
    have h1 := h.2.1 w rfl
    rcases List.mem_cons.mp hu with rfl | hu
    · omega
    · have := head_le h.2.2 u hu; omega
theorem exp_le {l : List Tm} (h : Nf l) {k : Nat} (hv : 3 * val l < 4 * 2 ^ k ∧ -(4 * 2 ^ k) < 3 * val l) : ∀ t ∈ l, t.2 ≤ k := by
  cases l with
  | nil => intro t ht; simp at ht
  | cons u r =>
    have b := bnd h
    have hu : u.2 ≤ k := by
      refine Nat.le_of_not_lt fun lt => ?_
      have := two_lt lt
      generalize val (u :: r) = v at *
      generalize (2 : Int) ^ u.2 = x at *
      generalize (2 : Int) ^ k = y at *
      rcases h.1 with e | e <;> rw [e] at b <;> omega
    intro t ht
    rcases List.mem_cons.mp ht with rfl | ht
    · exact hu
    · have := head_le h t ht; omega
abbrev tg2 : Tgt := .tp [(.nm 3), (.nm 4)]
theorem to_loop {x : Slot} {most : Rf.D} : ∀ {ts : List T3}, (∀ t ∈ ts, (t.1 = 1 ∨ t.1 = -1) ∧ (∃ c, Φ 2 [t.2.2, most] = .ok (.int c) ∧ ¬ 0 < c) ∧ Φ 9 [t.2.2] = .ok (.int (t.2.1 : Nat)) ∧ Φ 8 [.int (t.2.1 : Nat)] = .ok (.int (2 ^ t.2.1))) → ∀ (acc : Int) (s3 s4 : Slot),
    ∃ r3 r4, forL (Rf.execs Φ F b9_1) tg2 (ts.map tD) [x, .d most, .d (.int acc), s3, s4] = .nx [x, .d most, .d (.int (acc + val (ts.map tm))), r3, r4]
  | [], _, acc, s3, s4 => ⟨s3, s4, by simp only [List.map_nil, forL_nil, val, Int.add_zero]⟩
  | t :: r, h, acc, s3, s4 => by
    obtain ⟨h1, ⟨c, h2, h3⟩, h4, h5⟩ := h t (List.mem_cons_self ..)
    have hb : bindT tg2 (tD t) [x, .d most, .d (.int acc), s3, s4] = some [x, .d most, .d (.int acc), .d (.int t.1), .d t.2.2] := rfl
    have mu : binK .mul (.int t.1) (.int (2 ^ t.2.1)) = .ok (.int (t.1 * 2 ^ t.2.1)) := binK_mull (by rcases h1 with e | e <;> rw [e] <;> decide)
    obtain ⟨r3, r4, ih⟩ := to_loop (x := x) (most := most) (ts := r) (fun u hu => h u (List.mem_cons_of_mem _ hu)) (acc + t.1 * 2 ^ t.2.1) (.d (.int t.1)) (.d t.2.2)
    refine ⟨r3, r4, ?_⟩
    rw [List.map_cons, forL_cons hb]
    have hbody : Rf.execs Φ F b9_1 [x, .d most, .d (.int acc), .d (.int t.1), .d t.2.2] = .nx [x, .d most, .d (.int (acc + t.1 * 2 ^ t.2.1)), .d (.int t.1), .d t.2.2] := by
      simp [b9_1, h2, h3, h4, h5, mu]
    rw [hbody, Out.turn_nx, ih, List.map_cons]
    show Out.nx _ = Out.nx _
    rw [show val (tm t :: r.map tm) = t.1 * 2 ^ t.2.1 + val (r.map tm) from rfl, Int.add_assoc]
theorem to_run {x most : Rf.D} {v : Int} (hx : Fm x v) (h1 : -(2 ^ 64) < v) (h2 : v < 2 ^ 64) (c1 : Φ 4 [.int 64] = .ok most) (c2 : Fm most 64) (c3 : ∀ d (e : Nat), Fm d (e : Nat) → d.depth + 2 ≤ x.depth → Φ 2 [d, most] = .ok (.int (sgn (e - 64)))) (c4 : ∀ d (e : Nat), e ≤ 64 → Fm d (e : Nat) → d.depth + 2 ≤ x.depth → Φ 9 [d] = .ok (.int (e : Nat))) (c5 : ∀ e : Nat, e ≤ 64 → Φ 8 [.int (e : Nat)] = .ok (.int (2 ^ e))) :
    Fdef.run ⟨1, 5, b9⟩ Φ F [x] = .ok (.int v) := by
  obtain ⟨ts, rfl, rfl, nf, fs⟩ := hx.inv
  have he := exp_le nf (k := 64) (by constructor <;> omega)
  have sg : ∀ {l : List Tm}, Nf l → ∀ t ∈ l, t.1 = 1 ∨ t.1 = -1 := by
    intro l
    induction l with
    | nil => intro _ t ht; simp at ht
    | cons u r ih =>
      intro h t ht
      rcases List.mem_cons.mp ht with rfl | ht
      · exact h.1
      · exact ih h.2.2 t ht
  obtain ⟨r3, r4, hl⟩ := to_loop (Φ := Φ) (F := F) (x := .d (.tuple (ts.map tD))) (most := most) (ts := ts) (fun t ht => by
    have hm : tm t ∈ ts.map tm := List.mem_map.mpr ⟨t, ht, rfl⟩
    have e64 := he _ hm
    have dp := dep_all ht
    have dp2 : t.2.2.depth + 2 ≤ (PyData.tuple (ts.map tD)).depth := by simp only [PyData.depth]; omega
    refine ⟨sg nf _ hm, ⟨_, c3 _ _ (fs t ht) dp2, ?_⟩, c4 _ _ e64 (fs t ht) dp2, c5 _ e64⟩
    have e64 : t.2.1 ≤ 64 := e64
    unfold sgn
    rw [if_neg (by omega)]
    split <;> omega) 0 .un .un
  rw [Int.zero_add] at hl
  have c64 := c5 64 (Nat.le_refl _)
  rw [show ((64 : Nat) : Int) = 64 from rfl] at c64
  generalize val (ts.map tm) = w at *
  have hab : ¬ (2 : Int) ^ 64 ≤ (if w < 0 then -w else w) := by split <;> omega
  refine run_ret rfl ?_
  generalize hG : (2 : Int) ^ 64 = G at *
  simp [b9, c1, hl, c64, hab]
theorem to_step (hF : 4000 ≤ F) {q : Nat} {x : Rf.D} {v : Int} (hx : Fm x v) (hd : x.depth ≤ 2 * q) (hd2 : x.depth ≤ 100) (h1 : -(2 ^ 64) < v) (h2 : v < 2 ^ 64) (hq : q = n + 11) (c4 : ∀ d (e : Nat), e ≤ 64 → Fm d (e : Nat) → d.depth + 2 ≤ x.depth → phi TB F q 9 [d] = .ok (.int (e : Nat))) : phi TB F (q + 1) 9 [x] = .ok (.int v) := by
  obtain ⟨most, m1, m2, m3⟩ := c_fromN (F := F) (n := n + 4) hF (p := 64) (by decide)
  have m1 : phi TB F q 4 [.int 64] = .ok most := by rw [hq]; exact m1
  have m2 : Fm most 64 := m2
  have c5 : ∀ e : Nat, e ≤ 64 → phi TB F q 8 [.int (e : Nat)] = .ok (.int (2 ^ e)) := fun e he => by rw [hq]; exact c_two (n := n + 10) (by omega)
  have c3 : ∀ d (e : Nat), Fm d (e : Nat) → d.depth + 2 ≤ x.depth → phi TB F q 2 [d, most] = .ok (.int (sgn (e - 64))) := fun d e hd3 hd4 => compare_ok (F := F) q hd3 m2 (by omega) (by omega)
  exact (phi_succ rfl).trans (to_run hx h1 h2 m1 m2 c3 c4 c5)
theorem to_ok (hF : 4000 ≤ F) : ∀ (N : Nat) {x : Rf.D} {v : Int}, Fm x v → x.depth ≤ 2 * N + 1 → x.depth ≤ 100 → -(2 ^ 64) < v → v < 2 ^ 64 → ∀ q, N + 11 ≤ q → phi TB F (q + 1) 9 [x] = .ok (.int v) := by
  intro N
  induction N with
  | zero =>
    intro x v hx hd hd2 h1 h2 q hq
    refine to_step (n := q - 11) hF hx (by omega) hd2 h1 h2 (by omega) fun d e he hd3 hd4 => ?_
    exfalso
    obtain ⟨ts, rfl, _⟩ := hd3.inv
    simp only [PyData.depth] at hd4
    omega
  | succ N ih =>
    intro x v hx hd hd2 h1 h2 q hq
    refine to_step (n := q - 11) hF hx (by omega) hd2 h1 h2 (by omega) fun d e he hd3 hd4 => ?_
    have G : ((e : Nat) : Int) < 2 ^ 64 := by
      have := two_mono (i := 7) (j := 64) (by decide)
      omega
    have G2 : -(2 ^ 64 : Int) < ((e : Nat) : Int) := by
      have := two_pos 64
      omega
    have := ih hd3 (by omega) (by omega) G2 G (q - 1) (by omega)
    rw [show q - 1 + 1 = q by omega] at this
    exact this
end
end My

set_option Elab.async false
set_option linter.all false
set_option maxRecDepth 100000
set_option maxHeartbeats 1000000
namespace My
open PySem PySem.Spec PyProof.Rows L2 Rf
section
variable {Φ : FT} {F n : Nat}
mutual
theorem pl_nd : ∀ {x : Rf.D}, pl x = true → noDct x = true
  | .int _, _ => rfl
  | .tuple xs, h => by simp only [noDct]; exact pls_nd (by simpa [pl] using h)
  | .none, h => by simp [pl] at h
  | .bool _, h => by simp [pl] at h
  | .str _, h => by simp [pl] at h
  | .list _, h => by simp [pl] at h
  | .dict _, h => by simp [pl] at h
theorem pls_nd : ∀ {x : List Rf.D}, pls x = true → noDcts x = true
  | [], _ => rfl
  | x :: r, h => by
    simp only [pls, Bool.and_eq_true] at h
    simp only [noDcts, pl_nd h.1, pls_nd h.2, Bool.and_self]
end
theorem Fm.nd {x : Rf.D} {v : Int} (h : Fm x v) : noDct x = true := pl_nd h.pl
theorem x_obj {p : Nat} {r : Sl} : Rf.exec Φ F (.obj 0) (.d (.int (p : Nat)) :: r) = .nx (.ob p :: r) := by
  simp only [Rf.exec, List.getElem?_cons_zero]
  rw [if_pos (Int.natCast_nonneg p)]
  rfl
theorem x_chk {e : Sl} (h : Rf.okS e = true) : Rf.exec Φ F .chk e = .nx e := by
  simp only [Rf.exec]
  rw [if_pos h]
theorem e_slf {p : Nat} {r : Sl} : ev Φ (.slf 0) (.ob p :: r) = .ok (.int (p : Nat)) := by
  simp only [ev, List.getElem?_cons_zero]
/-! ### number -/
abbrev tgN : Tgt := .tp [(.nm 4), (.nm 5)]
theorem num_loop {p m : Nat} {x : Rf.D} (hx : noDct x = true) : ∀ {ts : List T3}, (∀ t ∈ ts, (t.1 = 1 ∨ t.1 = -1) ∧ noDct t.2.2 = true ∧ Φ 31 [.int (p : Nat), t.2.2, .int (m : Nat)] = .ok (.int (pw m t.2.1 : Nat))) → ∀ (acc : Int) (s4 s5 : Slot), Rf.okS [s4, s5] = true →
    ∃ r4 r5 acc', Rf.okS [r4, r5] = true ∧ forL (Rf.execs Φ F b32_1) tgN (ts.map tD) [.ob p, .d x, .d (.int (m : Nat)), .d (.int acc), s4, s5] = .nx [.ob p, .d x, .d (.int (m : Nat)), .d (.int acc'), r4, r5] ∧ acc' % (m : Nat) = (acc + val (ts.map tm)) % (m : Nat)
  | [], _, acc, s4, s5, ok => ⟨s4, s5, acc, ok, by simp only [List.map_nil, forL_nil], by simp only [List.map_nil, val, Int.add_zero]⟩
  | t :: r, h, acc, s4, s5, ok => by
    obtain ⟨h1, h2, h3⟩ := h t (List.mem_cons_self ..)
    have hb : bindT tgN (tD t) [.ob p, .d x, .d (.int (m : Nat)), .d (.int acc), s4, s5] = some [.ob p, .d x, .d (.int (m : Nat)), .d (.int acc), .d (.int t.1), .d t.2.2] := rfl
    have mu : binK .mul (.int t.1) (.int (pw m t.2.1 : Nat)) = .ok (.int (t.1 * (pw m t.2.1 : Nat))) := binK_mull (by rcases h1 with e | e <;> rw [e] <;> decide)
    have ok1 : Rf.okS [.ob p, .d x, .d (.int (m : Nat)), .d (.int acc), .d (.int t.1), .d t.2.2] = true := by simp [Rf.okS, noDct, hx, h2]
    have ok2 : Rf.okS [.ob p, .d x, .d (.int (m : Nat)), .d (.int (acc + t.1 * (pw m t.2.1 : Nat))), .d (.int t.1), .d t.2.2] = true := by simp [Rf.okS, noDct, hx, h2]
    obtain ⟨r4, r5, acc', q1, q2, q3⟩ := num_loop hx (ts := r) (fun u hu => h u (List.mem_cons_of_mem _ hu)) (acc + t.1 * (pw m t.2.1 : Nat)) (.d (.int t.1)) (.d t.2.2) (by simp [Rf.okS, noDct, h2])
    refine ⟨r4, r5, acc', q1, ?_, ?_⟩
    · rw [List.map_cons, forL_cons hb]
      have es := e_slf (Φ := Φ) (p := p) (r := [.d x, .d (.int (m : Nat)), .d (.int acc), .d (.int t.1), .d t.2.2])
      have hbody : Rf.execs Φ F b32_1 [.ob p, .d x, .d (.int (m : Nat)), .d (.int acc), .d (.int t.1), .d t.2.2] = .nx [.ob p, .d x, .d (.int (m : Nat)), .d (.int (acc + t.1 * (pw m t.2.1 : Nat))), .d (.int t.1), .d t.2.2] := by
        simp only [b32_1, x_cons, x_chk ok1, Out.seq_nx]
        simp [es, h3, mu, x_chk ok2]
      rw [hbody, Out.turn_nx, q2]
    · rw [q3, List.map_cons]
      show _ = (acc + (t.1 * 2 ^ t.2.1 + val (r.map tm))) % (m : Nat)
      have e1 : (t.1 * ((pw m t.2.1 : Nat) : Int)) % (m : Nat) = (t.1 * 2 ^ t.2.1) % (m : Nat) := by
        unfold pw
        rw [Int.natCast_emod, Int.mul_emod, Int.emod_emod_of_dvd _ (Int.dvd_refl _), ← Int.mul_emod]
        rw [Int.natCast_pow]; rfl
      rw [← Int.add_assoc, Int.add_emod, Int.add_emod acc, e1, ← Int.add_emod acc, ← Int.add_emod]
theorem num_run {p m : Nat} {x : Rf.D} {v : Int} (hm : 0 < m) (hx : Fm x v) (h : ∀ d (e : Nat), Fm d (e : Nat) → d.depth + 2 ≤ x.depth → Φ 31 [.int (p : Nat), d, .int (m : Nat)] = .ok (.int (pw m e : Nat))) :
    Fdef.run ⟨3, 6, b32⟩ Φ F [.int (p : Nat), x, .int (m : Nat)] = .ok (.int (v % (m : Nat))) := by
  have hn := hx.nd
  obtain ⟨ts, rfl, rfl, nf, fs⟩ := hx.inv
  have sg : ∀ {l : List Tm}, Nf l → ∀ t ∈ l, t.1 = 1 ∨ t.1 = -1 := by
    intro l
    induction l with
    | nil => intro _ t ht; simp at ht
    | cons u r ih =>
      intro h t ht
      rcases List.mem_cons.mp ht with rfl | ht
      · exact h.1
      · exact ih h.2.2 t ht
  obtain ⟨r4, r5, acc', q1, q2, q3⟩ := num_loop (Φ := Φ) (F := F) (p := p) (m := m) hn (ts := ts) (fun t ht => by
    have dp := dep_all ht
    exact ⟨sg nf _ (List.mem_map.mpr ⟨t, ht, rfl⟩), (fs t ht).nd, h _ _ (fs t ht) (by simp only [PyData.depth]; omega)⟩) 0 .un .un rfl
  rw [Int.zero_add] at q3
  rw [← q3]
  have ok1 : Rf.okS [.ob p, .d (.tuple (ts.map tD)), .d (.int (m : Nat)), .un, .un, .un] = true := by simp [Rf.okS, noDct] at hn ⊢; exact hn
  have ok2 : Rf.okS [.ob p, .d (.tuple (ts.map tD)), .d (.int (m : Nat)), .d (.int 0), .un, .un] = true := by simp [Rf.okS, noDct] at hn ⊢; exact hn
  have ok3 : Rf.okS [.ob p, .d (.tuple (ts.map tD)), .d (.int (m : Nat)), .d (.int acc'), r4, r5] = true := by
    simp only [Rf.okS, List.all_cons, List.all_nil, Bool.and_true] at q1 ⊢
    rw [q1]
    simp only [noDct] at hn ⊢
    rw [hn]; rfl
  have o1 := binK_mod (i := acc') (show (0 : Int) < (m : Nat) by omega)
  refine run_ret rfl ?_
  show Rf.execs Φ F b32 [.d (.int (p : Nat)), .d (.tuple (ts.map tD)), .d (.int (m : Nat)), .un, .un, .un] = _
  have eo := x_obj (Φ := Φ) (F := F) (p := p) (r := [.d (.tuple (ts.map tD)), .d (.int (m : Nat)), .un, .un, .un])
  simp only [b32, x_cons, eo, Out.seq_nx, x_chk ok1]
  simp [x_chk ok2, q2, x_chk ok3, o1, -binK_mod]
/-! ### power -/
theorem idx_row {m L i : Nat} (h : i < L) : idxK (.list (rowL m L)) (.int (i : Nat)) = .ok (.int (pw m i : Nat)) := by
  have e : idxD (.list (rowL m L)) (.int (i : Nat)) = some (.int (pw m i : Nat)) := by
    show L2.atI _ _ = _
    refine atI_at (by omega) ?_
    rw [List.getElem?_map, show ((i : Nat) : Int).toNat = i from rfl, List.getElem?_range h]
    rfl
  rw [idxK, e]; rfl
abbrev tg3 : Tgt := .tp [(.nm 3), (.nm 4)]
theorem pow_run {p m L l E : Nat} {x lenD : Rf.D} (hm : 0 < m) (hm2 : m ≤ 10000) (hr : IsRow m L l) (hx : Fm x (E : Nat)) (c1 : Φ 30 [.int (p : Nat), .int (m : Nat)] = .ok (.tuple [.list (rowL m L), .int (l : Nat)])) (c2 : Φ 4 [.int (L : Nat)] = .ok lenD) (c3 : Φ 2 [x, lenD] = .ok (.int (sgn ((E : Nat) - (L : Nat)))))
    (c4 : E < L → Φ 9 [x] = .ok (.int (E : Nat))) (c5 : Φ 32 [.int (p : Nat), x, .int ((L - l : Nat) : Int)] = .ok (.int ((E : Nat) % ((L - l : Nat) : Int)))) :
    Fdef.run ⟨3, 6, b31⟩ Φ F [.int (p : Nat), x, .int (m : Nat)] = .ok (.int (pw m E : Nat)) := by
  have hn := hx.nd
  have hlt := hr.lt
  have hle := hr.le
  have rl : noDct (.list (rowL m L)) = true := by
    have : noDcts (rowL m L) = true := noDcts_mem fun x hx => by
      obtain ⟨j, _, rfl⟩ := List.mem_map.mp hx
      rfl
    simp only [noDct, this]
  have ok1 : Rf.okS [.ob p, .d x, .d (.int (m : Nat)), .un, .un, .un] = true := by simp [Rf.okS, noDct, hn]
  have ok2 : Rf.okS [.ob p, .d x, .d (.int (m : Nat)), .d (.list (rowL m L)), .d (.int (l : Nat)), .un] = true := by
    simp only [Rf.okS, List.all_cons, List.all_nil, Bool.and_true, hn, rl]; rfl
  have ok3 : Rf.okS [.ob p, .d x, .d (.int (m : Nat)), .d (.list (rowL m L)), .d (.int (l : Nat)), .d (.int ((L - l : Nat) : Int))] = true := by
    simp only [Rf.okS, List.all_cons, List.all_nil, Bool.and_true, hn, rl]; rfl
  have ln : bltK .len [.list (rowL m L)] = .ok (.int (L : Nat)) := by
    rw [bltK_lenL]; simp
  have sb : binK .sub (.int (L : Nat)) (.int (l : Nat)) = .ok (.int ((L - l : Nat) : Int)) := by
    rw [binK_sub]
    congr 2
    omega
  have eo := x_obj (Φ := Φ) (F := F) (p := p) (r := [.d x, .d (.int (m : Nat)), .un, .un, .un])
  refine run_ret rfl ?_
  show Rf.execs Φ F b31 [.d (.int (p : Nat)), .d x, .d (.int (m : Nat)), .un, .un, .un] = _
  have es1 := e_slf (Φ := Φ) (p := p) (r := [.d x, .d (.int (m : Nat)), .un, .un, .un])
  have es2 := e_slf (Φ := Φ) (p := p) (r := [.d x, .d (.int (m : Nat)), .d (.list (rowL m L)), .d (.int (l : Nat)), .d (.int ((L - l : Nat) : Int))])
  have hbt : asgK tg3 [.ob p, .d x, .d (.int (m : Nat)), .un, .un, .un] (.tuple [.list (rowL m L), .int (l : Nat)]) = .nx [.ob p, .d x, .d (.int (m : Nat)), .d (.list (rowL m L)), .d (.int (l : Nat)), .un] := rfl
  by_cases hE : E < L
  · have c4 := c4 hE
    have ix := idx_row (m := m) hE
    have lt0 : sgn ((E : Nat) - (L : Nat)) < 0 := by unfold sgn; rw [if_neg (by omega), if_pos (by omega)]; decide
    generalize rowL m L = R at *
    simp only [b31, x_cons, eo, Out.seq_nx, x_chk ok1, x_asg, e_call, es_cons, es_nil, es1, e_var, List.getElem?_cons_succ, List.getElem?_cons_zero, varK_d, Res.bind_ok, c1, Out.ofR_ok, hbt, x_chk ok2]
    simp [ln, c2, c3, lt0, c4, ix]
  · have lt0 : ¬ sgn ((E : Nat) - (L : Nat)) < 0 := by unfold sgn; split; decide; split; omega; decide
    have Ppos : (0 : Int) < ((L - l : Nat) : Int) := by omega
    have o1 := binK_mod (i := ((E : Nat) : Int) % ((L - l : Nat) : Int) - (l : Nat)) Ppos
    have e1 : (((E : Nat) : Int) % ((L - l : Nat) : Int) - (l : Nat)) % ((L - l : Nat) : Int) = (((E - l) % (L - l) : Nat) : Int) := by
      rw [Int.natCast_emod, show ((E - l : Nat) : Int) = (E : Int) - (l : Int) by omega, Int.sub_emod, Int.emod_emod_of_dvd _ (Int.dvd_refl _), ← Int.sub_emod]
    rw [e1] at o1
    have lt1 : l + (E - l) % (L - l) < L := by
      have := Nat.mod_lt (E - l) (show 0 < L - l by omega)
      omega
    have ix := idx_row (m := m) lt1
    rw [← period hr E E rfl (by omega)] at ix
    rw [show ((l + (E - l) % (L - l) : Nat) : Int) = (l : Int) + (((E - l) % (L - l) : Nat) : Int) by omega] at ix
    generalize rowL m L = R at *
    generalize ((L - l : Nat) : Int) = P at *
    generalize (((E - l) % (L - l) : Nat) : Int) = q at *
    simp only [b31, x_cons, eo, Out.seq_nx, x_chk ok1, x_asg, e_call, es_cons, es_nil, es1, e_var, List.getElem?_cons_succ, List.getElem?_cons_zero, varK_d, Res.bind_ok, c1, Out.ofR_ok, hbt, x_chk ok2]
    simp [ln, c2, c3, lt0, x_chk ok2, sb, x_chk ok3, es2, c5, o1, ix, -binK_mod, -binK_sub]
    simp [es2, c5, o1, ix, -binK_mod]
end
end My

set_option Elab.async false
set_option linter.all false
set_option maxRecDepth 100000
set_option maxHeartbeats 1000000
namespace My
open PySem PySem.Spec PyProof.Rows L2 Rf
section
variable {Φ : FT} {F n : Nat}
theorem c_R (hF : 20000 ≤ F) {p m L l : Nat} (h1 : 1 ≤ m) (h2 : m ≤ 10000) (hr : IsRow m L l) : phi TB F (n + 2) 30 [.int (p : Nat), .int (m : Nat)] = .ok (.tuple [.list (rowL m L), .int (l : Nat)]) := by
  obtain ⟨L', l', hr', e⟩ := c_row (F := F) (n := n) hF h1 h2
  obtain ⟨rfl, rfl⟩ := hr.uniq hr'
  refine (phi_succ (fn := ⟨2, 2, b30⟩) rfl).trans (run_ret rfl ?_)
  show Rf.execs _ F b30 [.d (.int (p : Nat)), .d (.int (m : Nat))] = _
  have eo := x_obj (Φ := phi TB F (n + 1)) (F := F) (p := p) (r := [.d (.int (m : Nat))])
  have c1 : cmpD .le (.int 1) (.int (m : Nat)) = some true := by show some (decide _) = _; rw [decide_eq_true (by omega)]
  have c2 : chK2 .le (.int (m : Nat)) (.int 10000) = .ok (.bool true) := by show Res.ok (PyData.bool (decide _)) = _; rw [decide_eq_true (by omega)]
  generalize rowL m L = R at *
  simp only [b30, bodyR, x_cons, eo, Out.seq_nx]
  simp [c1, c2, e]
theorem pow_step (hF : 20000 ≤ F) {N q p m : Nat} {x : Rf.D} {E : Nat} (hx : Fm x (E : Nat)) (hd : x.depth ≤ 2 * N + 1) (hd2 : x.depth ≤ 100) (h1 : 1 ≤ m) (h2 : m ≤ 10000) (hq : 2 * N + 21 ≤ q)
    (hnum : ∀ k : Nat, 1 ≤ k → k ≤ 10000 → phi TB F q 32 [.int (p : Nat), x, .int (k : Nat)] = .ok (.int ((E : Nat) % (k : Nat)))) : phi TB F (q + 1) 31 [.int (p : Nat), x, .int (m : Nat)] = .ok (.int (pw m E : Nat)) := by
  obtain ⟨L, l, hr, _⟩ := c_row (F := F) (n := 0) hF h1 h2
  have hle := hr.le
  have hlt := hr.lt
  obtain ⟨lenD, d1, d2, d3⟩ := c_fromN (F := F) (n := q - 7) (by omega) (p := L) (by omega)
  rw [show q - 7 + 7 = q by omega] at d1
  have cR := c_R (F := F) (n := q - 2) hF (p := p) h1 h2 hr
  rw [show q - 2 + 2 = q by omega] at cR
  have c3 := compare_ok (F := F) q hx d2 (by omega) (by omega)
  refine (phi_succ rfl).trans (pow_run (by omega) h2 hr hx cR d1 c3 (fun hE => ?_) (hnum (L - l) (by omega) (by omega)))
  have G := two_mono (i := 20) (j := 64) (by decide)
  have t := to_ok (F := F) (by omega) N hx hd hd2 (by omega) (by omega) (q - 1) (by omega)
  rw [show q - 1 + 1 = q by omega] at t
  exact t
theorem num_ok (hF : 20000 ≤ F) : ∀ (N : Nat) {x : Rf.D} {v : Int}, Fm x v → x.depth ≤ 2 * N + 1 → x.depth ≤ 100 → ∀ (p m q : Nat), 1 ≤ m → m ≤ 10000 → 2 * N + 20 ≤ q → phi TB F (q + 1) 32 [.int (p : Nat), x, .int (m : Nat)] = .ok (.int (v % (m : Nat))) := by
  intro N
  induction N with
  | zero =>
    intro x v hx hd hd2 p m q h1 h2 hq
    refine (phi_succ rfl).trans (num_run (by omega) hx fun d e hd3 hd4 => ?_)
    exfalso
    obtain ⟨ts, rfl, _⟩ := hd3.inv
    simp only [PyData.depth] at hd4
    omega
  | succ N ih =>
    intro x v hx hd hd2 p m q h1 h2 hq
    refine (phi_succ rfl).trans (num_run (by omega) hx fun d e hd3 hd4 => ?_)
    have := pow_step (F := F) hF (N := N) (q := q - 1) (p := p) (m := m) hd3 (by omega) (by omega) h1 h2 (by omega) fun k k1 k2 => by
      have := ih hd3 (by omega) (by omega) p k (q - 2) k1 k2 (by omega)
      rw [show q - 2 + 1 = q - 1 by omega] at this
      exact this
    rw [show q - 1 + 1 = q by omega] at this
    exact this
theorem pow_ok (hF : 20000 ≤ F) {N q p m : Nat} {x : Rf.D} {E : Nat} (hx : Fm x (E : Nat)) (hd : x.depth ≤ 2 * N + 1) (hd2 : x.depth ≤ 100) (h1 : 1 ≤ m) (h2 : m ≤ 10000) (hq : 2 * N + 21 ≤ q) : phi TB F (q + 1) 31 [.int (p : Nat), x, .int (m : Nat)] = .ok (.int (pw m E : Nat)) :=
  pow_step hF hx hd hd2 h1 h2 hq fun k k1 k2 => by
    have := num_ok (F := F) hF N hx hd hd2 p k (q - 1) k1 k2 (by omega)
    rw [show q - 1 + 1 = q by omega] at this
    exact this
/-! ### new objects -/
theorem newK_of {f : Nat} {xs : List Rf.D} {r : Rf.D} (h1 : noDcts xs = true) (h2 : noLst r = true) (h : ∀ p : Nat, Φ f (.int (p : Nat) :: xs) = .ok r) : newK Φ f xs = .ok r := by
  unfold newK
  have hx : ∃ r, noDcts xs = true ∧ noLst r = true ∧ ∀ p : Nat, Φ f (.int (p : Nat) :: xs) = .ok r := ⟨r, h1, h2, h⟩
  have g := (hx.choose_spec.2.2 0).symm.trans (h 0)
  exact (dif_pos hx).trans g
theorem e_onew {f : Nat} {es : List Exp} {e : Sl} : ev Φ (.onew f es) e = (evs Φ es e).bind (newK Φ f) := by
  simp only [ev]
theorem c_wn {p : Nat} {x y : Rf.D} : phi TB F (n + 1) 33 [.int (p : Nat), x, y] = phi TB F n 32 [.int (p : Nat), x, y] := by
  rw [phi_succ (fn := ⟨3, 3, b33⟩) rfl]
  unfold Fdef.run
  rw [if_pos (show [PyData.int (p : Nat), x, y].length = 3 from rfl)]
  have e : Rf.execs (phi TB F n) F b33 [.d (.int (p : Nat)), .d x, .d y] = Out.ofR (phi TB F n 32 [.int (p : Nat), x, y]) [.d (.int (p : Nat)), .d x, .d y] .ret := by
    simp only [b33, x_cons, x_ret, e_call, es_cons, es_nil, e_var, List.getElem?_cons_zero, List.getElem?_cons_succ, varK_d, Res.bind_ok, seq_nil]
  show (match Rf.execs (phi TB F n) F b33 [.d (.int (p : Nat)), .d x, .d y] with | .ret x => Res.ok x | .nx _ => .ok .none | .ex c _ => .ex c | _ => .stuck) = _
  rw [e]
  cases phi TB F n 32 [.int (p : Nat), x, y] <;> rfl
/-! ### check_modulus, remainder, power_remainder, powers_of_two -/
theorem run_nx {fn : Fdef} {Φ : FT} {F : Nat} {args : List Rf.D} {e : Sl} (hl : args.length = fn.np) (h : Rf.execs Φ F fn.body (args.map .d ++ List.replicate (fn.ns - fn.np) .un) = .nx e) : fn.run Φ F args = .ok .none := by
  unfold Fdef.run
  rw [if_pos hl, h]
theorem run_ex {fn : Fdef} {Φ : FT} {F : Nat} {args : List Rf.D} {c : Nat} {e : Sl} (hl : args.length = fn.np) (h : Rf.execs Φ F fn.body (args.map .d ++ List.replicate (fn.ns - fn.np) .un) = .ex c e) : fn.run Φ F args = .ex c := by
  unfold Fdef.run
  rw [if_pos hl, h]
theorem c_check {m : Int} (h1 : 1 ≤ m) (h2 : m ≤ 10000) : phi TB F (n + 1) 10 [.int m] = .ok .none := by
  refine (phi_succ rfl).trans (run_nx (e := [.d (.int m)]) rfl ?_)
  simp [b10, show ¬ m < 1 by omega, show ¬ 10000 < m by omega]
theorem c_bad {m : Int} (h : m < 1 ∨ 10000 < m) : phi TB F (n + 1) 10 [.int m] = .ex 1 := by
  refine (phi_succ rfl).trans (run_ex (e := [.d (.int m)]) rfl ?_)
  by_cases h1 : m < 1
  · simp [b10, h1]
  · simp [b10, h1, show 10000 < m by omega]
theorem x_expr {a : Exp} {e : Sl} : Rf.exec Φ F (.expr a) e = Out.ofR (ev Φ a e) e fun _ => .nx e := by simp only [Rf.exec]
theorem c_rem (hF : 20000 ≤ F) {N m : Nat} {x : Rf.D} {v : Int} (hx : Fm x v) (hd : x.depth ≤ 2 * N + 1) (hd2 : x.depth ≤ 100) (h1 : 1 ≤ m) (h2 : m ≤ 10000) {q : Nat} (hq : 2 * N + 22 ≤ q) : phi TB F (q + 1) 12 [x, .int (m : Nat)] = .ok (.int (v % (m : Nat))) := by
  have ck := c_check (F := F) (n := q - 1) (m := (m : Nat)) (by omega) (by omega)
  rw [show q - 1 + 1 = q by omega] at ck
  have nk : newK (phi TB F q) 33 [x, .int (m : Nat)] = .ok (.int (v % (m : Nat))) := newK_of (by simp only [noDcts, hx.nd, noDct, Bool.and_self]) rfl fun p => by
    have := num_ok (F := F) hF N hx hd hd2 p m (q - 2) h1 h2 (by omega)
    rw [show q = q - 1 + 1 by omega, c_wn]
    rw [show q - 2 + 1 = q - 1 by omega] at this
    exact this
  refine (phi_succ rfl).trans (run_ret rfl ?_)
  simp [b12, x_expr, ck, e_onew, nk]
theorem c_remX {m : Int} {x : Rf.D} (h : m < 1 ∨ 10000 < m) : phi TB F (n + 2) 12 [x, .int m] = .ex 1 := by
  have ck := c_bad (F := F) (n := n) h
  refine (phi_succ rfl).trans (run_ex (e := [.d x, .d (.int m)]) rfl ?_)
  simp [b12, x_expr, ck]
theorem c_signof {x : Rf.D} {v : Int} (h : Fm x v) : phi TB F (n + 1) 3 [x] = .ok (.int (sgn v)) := (phi_succ rfl).trans (sign_run h)
end
end My

set_option Elab.async false
set_option linter.all false
set_option maxRecDepth 100000
set_option maxHeartbeats 1000000
namespace My
open PySem PySem.Spec PyProof.Rows L2 Rf
/-! ### how many terms a number has -/
def sg4 (v : Int) : Int := 2 - v % 4
def wt : Nat → Int → Nat
  | 0, _ => 0
  | k + 1, v => if v % 2 = 0 then wt k (v / 2) else 1 + wt k ((v - sg4 v) / 2)
theorem wt_even {k : Nat} {v : Int} (h : v % 2 = 0) : wt (k + 1) v = wt k (v / 2) := by simp only [wt, if_pos h]
theorem wt_odd {k : Nat} {v : Int} (h : v % 2 = 1) : wt (k + 1) v = 1 + wt k ((v - sg4 v) / 2) := by simp only [wt, if_neg (show ¬ v % 2 = 0 by omega)]
structure WS (k : Nat) (v : Int) : Prop where
  a : wt k (v + 1) ≤ wt k v + 1
  b : wt k v ≤ wt k (v + 1) + 1
  c : v % 2 = 1 → wt k (v + 1) ≤ wt k v
  d : v % 2 = 0 → wt k v ≤ wt k (v + 1)
theorem ws : ∀ (k : Nat) (v : Int), WS k v
  | 0, v => ⟨by simp [wt], by simp [wt], fun _ => by simp [wt], fun _ => by simp [wt]⟩
  | k + 1, v => by
    by_cases h : v % 2 = 0
    · have e1 := wt_even (k := k) h
      have e2 := wt_odd (k := k) (v := v + 1) (by omega)
      have i := ws k (v / 2)
      by_cases h4 : v % 4 = 0
      · have e3 : (v + 1 - sg4 (v + 1)) / 2 = v / 2 := by unfold sg4; omega
        rw [e3] at e2
        exact ⟨by omega, by omega, fun z => by omega, fun _ => by omega⟩
      · have e3 : (v + 1 - sg4 (v + 1)) / 2 = v / 2 + 1 := by unfold sg4; omega
        rw [e3] at e2
        have := i.c (by omega)
        have := i.b
        exact ⟨by omega, by omega, fun z => by omega, fun _ => by omega⟩
    · have e1 := wt_odd (k := k) (v := v) (by omega)
      have e2 := wt_even (k := k) (v := v + 1) (by omega)
      by_cases h4 : v % 4 = 1
      · have e3 : (v - sg4 v) / 2 = (v - 1) / 2 := by unfold sg4; omega
        have e4 : (v + 1) / 2 = (v - 1) / 2 + 1 := by omega
        rw [e3] at e1
        rw [e4] at e2
        have i := ws k ((v - 1) / 2)
        have := i.d (by omega)
        have := i.a
        exact ⟨by omega, by omega, fun _ => by omega, fun z => by omega⟩
      · have e3 : (v - sg4 v) / 2 = (v + 1) / 2 := by unfold sg4; omega
        rw [e3] at e1
        exact ⟨by omega, by omega, fun _ => by omega, fun z => by omega⟩
theorem wt_near (k : Nat) (v : Int) : ∀ c : Nat, wt k (v + c) ≤ wt k v + c ∧ wt k (v - c) ≤ wt k v + c
  | 0 => by simp
  | c + 1 => by
    have ih := wt_near k v c
    have a := (ws k (v + c)).a
    have b := (ws k (v - (c + 1 : Nat))).b
    rw [show v + ((c + 1 : Nat) : Int) = v + c + 1 by omega]
    rw [show v - ((c + 1 : Nat) : Int) + 1 = v - c by omega] at b
    omega
theorem wt_pow : ∀ (p k : Nat) (v : Int), wt k (v + 2 ^ p) ≤ wt k v + 1 ∧ wt k (v - 2 ^ p) ≤ wt k v + 1
  | 0, k, v => by
    have := wt_near k v 1
    simpa using this
  | p + 1, 0, v => by simp [wt]
  | p + 1, k + 1, v => by
    have e : (2 : Int) ^ (p + 1) = 2 * 2 ^ p := by rw [two_add, Int.mul_comm]; rfl
    rw [e]
    by_cases h : v % 2 = 0
    · rw [wt_even h, wt_even (v := v + 2 * 2 ^ p) (by omega), wt_even (v := v - 2 * 2 ^ p) (by omega)]
      have ih := wt_pow p k (v / 2)
      rw [show (v + 2 * 2 ^ p) / 2 = v / 2 + 2 ^ p by omega, show (v - 2 * 2 ^ p) / 2 = v / 2 - 2 ^ p by omega]
      exact ih
    · rw [wt_odd (v := v) (by omega), wt_odd (v := v + 2 * 2 ^ p) (by omega), wt_odd (v := v - 2 * 2 ^ p) (by omega)]
      cases p with
      | succ p =>
        have ih := wt_pow (p + 1) k ((v - sg4 v) / 2)
        have e2 : (2 : Int) ^ (p + 1) = 2 * 2 ^ p := by rw [two_add, Int.mul_comm]; rfl
        rw [e2] at ih ⊢
        generalize (2 : Int) ^ p = x at *
        have s1 : sg4 (v + 2 * (2 * x)) = sg4 v := by unfold sg4; omega
        have s2 : sg4 (v - 2 * (2 * x)) = sg4 v := by unfold sg4; omega
        have dv : (v - sg4 v) % 2 = 0 := by unfold sg4; omega
        rw [s1, s2, show (v + 2 * (2 * x) - sg4 v) / 2 = (v - sg4 v) / 2 + 2 * x by omega, show (v - 2 * (2 * x) - sg4 v) / 2 = (v - sg4 v) / 2 - 2 * x by omega]
        omega
      | zero =>
        rw [show (2 : Int) * 2 ^ 0 = 2 by decide]
        by_cases h4 : v % 4 = 1
        · rw [show (v - sg4 v) / 2 = 2 * ((v - 1) / 4) by unfold sg4; omega, show (v + 2 - sg4 (v + 2)) / 2 = 2 * ((v - 1) / 4 + 1) by unfold sg4; omega, show (v - 2 - sg4 (v - 2)) / 2 = 2 * ((v - 1) / 4) by unfold sg4; omega]
          cases k with
          | zero => simp [wt]
          | succ k =>
            rw [wt_even (v := 2 * ((v - 1) / 4)) (by omega), wt_even (v := 2 * ((v - 1) / 4 + 1)) (by omega)]
            have := (ws k ((v - 1) / 4)).a
            rw [show 2 * ((v - 1) / 4) / 2 = (v - 1) / 4 by omega, show 2 * ((v - 1) / 4 + 1) / 2 = (v - 1) / 4 + 1 by omega]
            omega
        · rw [show (v - sg4 v) / 2 = 2 * ((v + 1) / 4) by unfold sg4; omega, show (v + 2 - sg4 (v + 2)) / 2 = 2 * ((v + 1) / 4) by unfold sg4; omega, show (v - 2 - sg4 (v - 2)) / 2 = 2 * ((v + 1) / 4 - 1) by unfold sg4; omega]
          cases k with
          | zero => simp [wt]
          | succ k =>
            rw [wt_even (v := 2 * ((v + 1) / 4)) (by omega), wt_even (v := 2 * ((v + 1) / 4 - 1)) (by omega)]
            have := (ws k ((v + 1) / 4 - 1)).b
            rw [show (v + 1) / 4 - 1 + 1 = (v + 1) / 4 by omega] at this
            rw [show 2 * ((v + 1) / 4) / 2 = (v + 1) / 4 by omega, show 2 * ((v + 1) / 4 - 1) / 2 = (v + 1) / 4 - 1 by omega]
            omega
/-! the terms of a number -/
def nfl : Nat → Int → Nat → List Tm
  | 0, _, _ => []
  | k + 1, v, p => if v % 2 = 0 then nfl k (v / 2) (p + 1) else nfl k ((v - sg4 v) / 2) (p + 1) ++ [(sg4 v, p)]
theorem val_app : ∀ {a b : List Tm}, val (a ++ b) = val a + val b
  | [], b => by simp [val]
  | t :: a, b => by simp only [List.cons_append, val, val_app]; omega
theorem nf_snoc : ∀ {l : List Tm} {t : Tm}, Nf l → (∀ u ∈ l, t.2 + 2 ≤ u.2) → (t.1 = 1 ∨ t.1 = -1) → Nf (l ++ [t])
  | [], t, _, _, h => ⟨h, fun u hu => by simp at hu, trivial⟩
  | u :: r, t, nf, hu, h => by
    refine ⟨nf.1, fun w hw => ?_, nf_snoc nf.2.2 (fun w hw => hu w (List.mem_cons_of_mem _ hw)) h⟩
    cases r with
    | nil => simp at hw; subst hw; exact hu u (List.mem_cons_self ..)
    | cons a r => exact nf.2.1 w hw
structure NfOk (k : Nat) (v : Int) (p : Nat) : Prop where
  vl : val (nfl k v p) = v * 2 ^ p
  nf : Nf (nfl k v p)
  ge : ∀ t ∈ nfl k v p, p ≤ t.2
  ev : v % 2 = 0 → ∀ t ∈ nfl k v p, p + 1 ≤ t.2
  ln : (nfl k v p).length = wt k v
theorem nfl_ok : ∀ (k : Nat) (v : Int) (p : Nat), -(2 ^ k) ≤ v → v ≤ 2 ^ k → NfOk (k + 1) v p
  | k, v, p, h1, h2 => by
    have e2 : (2 : Int) ^ (p + 1) = 2 * 2 ^ p := by rw [two_add, Int.mul_comm]; rfl
    by_cases h : v % 2 = 0
    · have en : nfl (k + 1) v p = nfl k (v / 2) (p + 1) := by simp only [nfl, if_pos h]
      have ew := wt_even (k := k) h
      cases k with
      | zero =>
        have : v = 0 := by
          have h1 : -1 ≤ v := h1
          have h2 : v ≤ 1 := h2
          omega
        subst this
        exact ⟨by simp [nfl, val], trivial, fun t ht => by simp [nfl] at ht, fun _ t ht => by simp [nfl] at ht, by simp [nfl, wt]⟩
      | succ k =>
        have e3 : (2 : Int) ^ (k + 1) = 2 * 2 ^ k := by rw [two_add, Int.mul_comm]; rfl
        rw [e3] at h1 h2
        have ih := nfl_ok k (v / 2) (p + 1) (by generalize (2 : Int) ^ k = x at *; omega) (by generalize (2 : Int) ^ k = x at *; omega)
        refine ⟨?_, by rw [en]; exact ih.nf, fun t ht => ?_, fun _ t ht => ?_, by rw [en, ih.ln, ew]⟩
        · rw [en, ih.vl, e2, ← Int.mul_assoc, show v / 2 * 2 = v by omega]
        · rw [en] at ht; have := ih.ge t ht; omega
        · rw [en] at ht; exact ih.ge t ht
    · have en : nfl (k + 1) v p = nfl k ((v - sg4 v) / 2) (p + 1) ++ [(sg4 v, p)] := by simp only [nfl, if_neg h]
      have ew := wt_odd (k := k) (v := v) (by omega)
      have s1 : sg4 v = 1 ∨ sg4 v = -1 := by unfold sg4; omega
      have dv : (v - sg4 v) % 2 = 0 := by unfold sg4; omega
      have dv2 : (v - sg4 v) / 2 % 2 = 0 := by unfold sg4; omega
      have fin : NfOk k ((v - sg4 v) / 2) (p + 1) → NfOk (k + 1) v p := fun ih => by
        refine ⟨?_, ?_, fun t ht => ?_, fun z => absurd z h, ?_⟩
        · rw [en, val_app, ih.vl, e2, ← Int.mul_assoc, show (v - sg4 v) / 2 * 2 = v - sg4 v by omega, Int.sub_mul]
          simp only [val]
          omega
        · rw [en]
          exact nf_snoc ih.nf (fun u hu => ih.ev dv2 u hu) s1
        · rw [en] at ht
          rcases List.mem_append.mp ht with ht | ht
          · have := ih.ge t ht; omega
          · simp at ht; subst ht; exact Nat.le_refl _
        · rw [en, List.length_append, ih.ln, ew, List.length_singleton, Nat.add_comm]
      cases k with
      | zero =>
        have : v = 1 ∨ v = -1 := by
          have h1 : -1 ≤ v := h1
          have h2 : v ≤ 1 := h2
          omega
        have e0 : (v - sg4 v) / 2 = 0 := by rcases this with rfl | rfl <;> decide
        rw [e0] at fin
        exact fin ⟨by simp [nfl, val], trivial, fun t ht => by simp [nfl] at ht, fun _ t ht => by simp [nfl] at ht, by simp [nfl, wt]⟩
      | succ k =>
        have e3 : (2 : Int) ^ (k + 1) = 2 * 2 ^ k := by rw [two_add, Int.mul_comm]; rfl
        rw [e3] at h1 h2
        exact fin (nfl_ok k ((v - sg4 v) / 2) (p + 1) (by generalize (2 : Int) ^ k = x at *; omega) (by generalize (2 : Int) ^ k = x at *; omega))
theorem nf_is {l : List Tm} (h : Nf l) {k : Nat} (h1 : -(2 ^ k) ≤ val l) (h2 : val l ≤ 2 ^ k) : l = nfl (k + 1) (val l) 0 := by
  have q := nfl_ok k (val l) 0 h1 h2
  refine val_eq h q.nf ?_
  rw [q.vl]
  simp
/-! ### sizes -/
mutual
def szD : Rf.D → Nat
  | .tuple xs => 1 + szL xs
  | _ => 0
def szL : List Rf.D → Nat
  | [] => 0
  | x :: r => szT x + szL r
def szT : Rf.D → Nat
  | .tuple xs => szS xs
  | _ => 0
def szS : List Rf.D → Nat
  | [] => 0
  | _ :: r => szH r
def szH : List Rf.D → Nat
  | [] => 0
  | x :: _ => szD x
end
theorem szL_map : ∀ {ts : List T3}, szL (ts.map tD) = (ts.map fun t => szD t.2.2).sum
  | [] => rfl
  | t :: r => by
    simp only [List.map_cons, szL, List.sum_cons, szL_map]
    rfl
def SZ : Nat → Nat → Nat
  | 0, _ => 1
  | d + 1, e => 1 + ((nfl 15 (e : Int) 0).map fun t => SZ d t.2).sum
theorem sz_fm : ∀ (d : Nat) {x : Rf.D} {e : Nat}, Fm x (e : Nat) → x.depth ≤ 2 * d + 1 → e ≤ 16384 → szD x = SZ d e := by
  intro d
  induction d with
  | zero =>
    intro x e hx hd _
    obtain ⟨ts, rfl, _⟩ := hx.inv
    cases ts with
    | nil => rfl
    | cons t r =>
      simp only [List.map_cons, PyData.depth, PyData.depthAll, tD] at hd
      omega
  | succ d ih =>
    intro x e hx hd he
    obtain ⟨ts, rfl, hv, nf, fs⟩ := hx.inv
    have hl := nf_is nf (k := 14) (by rw [← hv]; omega) (by rw [← hv]; omega)
    rw [← hv] at hl
    simp only [szD, szL_map, SZ]
    congr 1
    rw [← hl, List.map_map]
    congr 1
    refine List.map_congr_left fun t ht => ?_
    have dp := dep_all ht
    simp only [PyData.depth] at hd
    have hb := exp_le nf (k := 14) (by rw [← hv]; constructor <;> omega) (tm t) (List.mem_map.mpr ⟨t, ht, rfl⟩)
    have hb : t.2.1 ≤ 14 := hb
    exact ih (fs t ht) (by omega) (by omega)
/-! the sizes of the exponents, by the kernel -/
def T15 : List Nat := [1, 2, 3, 5, 4, 5, 7, 8, 6, 7, 9, 10, 10, 11, 12, 13]
end My

set_option Elab.async false
set_option linter.all false
set_option maxRecDepth 100000
set_option maxHeartbeats 1000000
namespace My
open PySem PySem.Spec PyProof.Rows L2 Rf
def TT : List Nat := [1, 2, 3, 5, 4, 5, 8, 7, 6, 7, 8, 9, 8, 9, 7]
theorem tt_all : (List.range 15).all (fun e => SZ 4 e == TT.getD e 0) = true := by decide +kernel
theorem tt_of {e : Nat} (h : e < 15) : SZ 4 e = TT.getD e 0 := by
  have := List.all_eq_true.mp tt_all e (List.mem_range.mpr h)
  simpa using this
def szt : Nat → Nat → Nat → Nat
  | 0, _, _ => 0
  | k + 1, v, p => if v % 2 = 0 then szt k (v / 2) (p + 1) else TT.getD p 0 + szt k ((if v % 4 = 1 then v - 1 else v + 1) / 2) (p + 1)
theorem szt_of : ∀ (k v p : Nat), ((nfl k (v : Int) p).map fun t => TT.getD t.2 0).sum = szt k v p
  | 0, v, p => rfl
  | k + 1, v, p => by
    by_cases h : v % 2 = 0
    · have h' : (v : Int) % 2 = 0 := by omega
      simp only [nfl, szt, if_pos h, if_pos h']
      rw [show (v : Int) / 2 = ((v / 2 : Nat) : Int) by omega]
      exact szt_of k (v / 2) (p + 1)
    · have h' : ¬ (v : Int) % 2 = 0 := by omega
      simp only [nfl, szt, if_neg h, if_neg h', List.map_append, List.sum_append, List.map_cons, List.map_nil, List.sum_cons, List.sum_nil, Nat.add_zero]
      have e : ((v : Int) - sg4 (v : Int)) / 2 = (((if v % 4 = 1 then v - 1 else v + 1) / 2 : Nat) : Int) := by
        unfold sg4
        split <;> omega
      rw [e, szt_of k _ (p + 1), Nat.add_comm]
theorem low_all : (List.range 7).all (fun e => decide (szt 15 e 0 ≤ 7)) = true := by decide +kernel
theorem SZ5 {e : Nat} (h : e ≤ 16384) : SZ 5 e = 1 + szt 15 e 0 := by
  show 1 + ((nfl 15 (e : Int) 0).map fun t => SZ 4 t.2).sum = _
  rw [← szt_of]
  congr 2
  refine List.map_congr_left fun t ht => ?_
  have q := nfl_ok 14 (e : Int) 0 (by omega) (by omega)
  have := exp_le q.nf (k := 14) (by rw [q.vl]; simp; constructor <;> omega) t ht
  exact tt_of (by omega)
theorem sz_low {e : Nat} (h : e ≤ 6) : SZ 5 e ≤ 8 := by
  have := List.all_eq_true.mp low_all e (List.mem_range.mpr (by omega))
  have := of_decide_eq_true this
  rw [SZ5 (by omega)]; omega
theorem len_low : ∀ {b : List Tm} {t : Tm}, Nf (t :: b) → 2 * b.length ≤ t.2
  | [], _, _ => Nat.zero_le _
  | u :: b, t, h => by
    have := len_low h.2.2
    have := h.2.1 u rfl
    simp only [List.length_cons]; omega
end My

set_option Elab.async false
set_option linter.all false
set_option maxRecDepth 100000
set_option maxHeartbeats 1000000
namespace My
open PySem PySem.Spec PyProof.Rows L2 Rf
section
variable {Φ : FT} {F n : Nat}
theorem allInts_map : ∀ {l : List Int}, allInts (l.map .int) = some l
  | [] => rfl
  | x :: r => by simp only [List.map_cons, allInts, allInts_map, Option.map_some]
theorem sum_ints {l : List Int} : bltK .sum [.list (l.map .int)] = .ok (.int l.sum) := by
  have e : bltD .sum [.list (l.map .int)] = some (.int l.sum) := by
    show (allInts (l.map .int)).map (fun l => PyData.int l.sum) = _
    rw [allInts_map]; rfl
  rw [bltK, e]; rfl
theorem max_ints {l : List Int} (h : l ≠ []) : bltK .max [.list (l.map .int)] = .ok (.int (maxI l)) := by
  have e : bltD .max [.list (l.map .int)] = some (.int (maxI l)) := by
    show (if l.map PyData.int = [] then none else (allInts (l.map .int)).map fun l => PyData.int (maxI l)) = _
    rw [if_neg (by simpa using h), allInts_map]; rfl
  rw [bltK, e]; rfl
theorem maxI_le {c : Int} : ∀ {l : List Int}, l ≠ [] → (∀ x ∈ l, x ≤ c) → maxI l ≤ c
  | [], h, _ => absurd rfl h
  | [x], _, h => h x (List.mem_cons_self ..)
  | x :: y :: r, _, h => by
    have h1 := h x (List.mem_cons_self ..)
    have h2 := maxI_le (l := y :: r) (by simp) fun z hz => h z (List.mem_cons_of_mem _ hz)
    show max x (maxI (y :: r)) ≤ c
    omega
theorem maxI_ge : ∀ {l : List Int}, l ≠ [] → (∀ x ∈ l, 0 ≤ x) → 0 ≤ maxI l
  | [], h, _ => absurd rfl h
  | [x], _, h => h x (List.mem_cons_self ..)
  | x :: y :: r, _, h => by
    have h1 := h x (List.mem_cons_self ..)
    show 0 ≤ max x (maxI (y :: r))
    omega
abbrev tgS : Tgt := .tp [(.nm 1), (.nm 2)]
theorem compS {f : Nat} {g : Rf.D → Int} {x : Rf.D} {ts : List T3} (hl : ts.length ≤ 1000000) (h : ∀ t ∈ ts, Φ f [t.2.2] = .ok (.int (g t.2.2))) : compK Φ (.call f [(.var 2)]) tgS [] [.d x, .un, .un] (ts.map tD) = .ok (.list ((ts.map fun t => g t.2.2).map .int)) := by
  have hc : ∀ us : List T3, (∀ t ∈ us, Φ f [t.2.2] = .ok (.int (g t.2.2))) → compL (ev Φ (.call f [(.var 2)])) (evt Φ []) tgS (us.map tD) [.d x, .un, .un] = .ok ((us.map fun t => g t.2.2).map .int) := by
    intro us
    induction us with
    | nil => intro _; simp only [List.map_nil, compL]
    | cons t r ih =>
      intro h
      have hb : bindT tgS (tD t) [.d x, .un, .un] = some [.d x, .d (.int t.1), .d t.2.2] := rfl
      have he : ev Φ (.call f [(.var 2)]) [.d x, .d (.int t.1), .d t.2.2] = .ok (.int (g t.2.2)) := by
        simp [h t (List.mem_cons_self ..)]
      simp only [List.map_cons, compL, hb, et_nil, Res.bind_ok, if_true, he, ih fun u hu => h u (List.mem_cons_of_mem _ hu)]
  have hz : decide ((ts.map tD).length ≤ line) = true := decide_eq_true (by rw [List.length_map]; unfold line; omega)
  have hf : Rf.freeOf [.d x, .un, .un] tgS.ix = true := rfl
  have hw : wipeS [.d x, .un, .un] tgS.ix = [.d x, .un, .un] := rfl
  unfold compK
  rw [hw, hc ts h, hz, hf]
  rfl
theorem natsum {l : List T3} {g : T3 → Nat} : ((l.map fun t => ((g t : Nat) : Int))).sum = ((l.map g).sum : Nat) := by
  induction l with
  | nil => rfl
  | cons t r ih => simp only [List.map_cons, List.sum_cons, ih]; omega
/-- few terms -/
theorem fm_len {ts : List T3} (nf : Nf (ts.map tm)) {k : Nat} (h : ∀ t ∈ ts, t.2.1 ≤ k) : ts.length ≤ k + 1 := by
  cases ts with
  | nil => simp
  | cons t r =>
    have := len_low (b := r.map tm) (t := tm t) nf
    have h2 := h t (List.mem_cons_self ..)
    rw [List.length_map] at this
    have : 2 * r.length ≤ t.2.1 := this
    simp only [List.length_cons]; omega
/-- all exponents within at most k -/
inductive Bd (k : Nat) : Rf.D → Prop
  | mk (ts : List T3) : (∀ t ∈ ts, t.2.1 ≤ k) → Nf (ts.map tm) → (∀ t ∈ ts, Bd k t.2.2) → Bd k (.tuple (ts.map tD))
theorem size_ok {k : Nat} (hk : k ≤ 100000) {x : Rf.D} (hx : Bd k x) : ∀ N, x.depth ≤ 2 * N + 1 → ∀ q, N ≤ q → phi TB F (q + 1) 0 [x] = .ok (.int (szD x : Nat)) := by
  induction hx with
  | mk ts h1 h2 h3 ih =>
    intro N hd q hq
    have hl := fm_len h2 h1
    have cs := compS (Φ := phi TB F q) (f := 0) (g := fun d => ((szD d : Nat) : Int)) (x := .tuple (ts.map tD)) (ts := ts) (by omega) fun t ht => by
      have dp := dep_all ht
      simp only [PyData.depth] at hd
      have := ih t ht (N - 1) (by omega) (q - 1) (by omega)
      rw [show q - 1 + 1 = q by omega] at this
      exact this
    have sm := sum_ints (l := ts.map fun t => ((szD t.2.2 : Nat) : Int))
    rw [natsum (g := fun t => szD t.2.2)] at sm
    have e : ((szD (.tuple (ts.map tD)) : Nat) : Int) = 1 + (((ts.map fun t => szD t.2.2).sum : Nat) : Int) := by
      simp only [szD, szL_map]; omega
    rw [e]
    refine (phi_succ rfl).trans (run_ret rfl ?_)
    have cs : compK (phi TB F q) x0_1 tgS [] [.d (.tuple (ts.map tD)), .un, .un] (ts.map tD) = _ := cs
    simp only [List.map_map, Function.comp_def] at cs sm
    simp [b0, cs, sm]
theorem height_ok {k : Nat} (hk : k ≤ 100000) {x : Rf.D} (hx : Bd k x) : ∀ N, x.depth ≤ 2 * N + 1 → ∀ q, N ≤ q → ∃ h : Int, 0 ≤ h ∧ 2 * h + 1 ≤ x.depth ∧ phi TB F (q + 1) 1 [x] = .ok (.int h) := by
  induction hx with
  | mk ts h1 h2 h3 ih =>
    intro N hd q hq
    cases hts : ts with
    | nil =>
      refine ⟨0, by omega, by simp [PyData.depth, PyData.depthAll], (phi_succ rfl).trans (run_ret rfl ?_)⟩
      simp [b1]
    | cons t0 r0 =>
      rw [← hts]
      have hne : ts ≠ [] := by rw [hts]; simp
      have hl := fm_len h2 h1
      have ex : ∀ t ∈ ts, ∃ h : Int, 0 ≤ h ∧ 2 * h + 1 ≤ t.2.2.depth ∧ phi TB F q 1 [t.2.2] = .ok (.int h) := fun t ht => by
        have dp := dep_all ht
        simp only [PyData.depth] at hd
        have := ih t ht (N - 1) (by omega) (q - 1) (by omega)
        rw [show q - 1 + 1 = q by omega] at this
        exact this
      let g : Rf.D → Int := fun d => match phi TB F q 1 [d] with
        | .ok (.int h) => h
        | _ => 0
      have hg : ∀ t ∈ ts, 0 ≤ g t.2.2 ∧ 2 * g t.2.2 + 1 ≤ t.2.2.depth ∧ phi TB F q 1 [t.2.2] = .ok (.int (g t.2.2)) := fun t ht => by
        obtain ⟨h, a, b, c⟩ := ex t ht
        have e : g t.2.2 = h := by
          show (match phi TB F q 1 [t.2.2] with | .ok (.int h) => h | _ => 0) = h
          rw [c]
        rw [e]
        exact ⟨a, b, c⟩
      have cs : compK (phi TB F q) x1_1 tgS [] [.d (.tuple (ts.map tD)), .un, .un] (ts.map tD) = _ := compS (Φ := phi TB F q) (f := 1) (g := g) (x := .tuple (ts.map tD)) (ts := ts) (by omega) fun t ht => (hg t ht).2.2
      have hne2 : (ts.map fun t => g t.2.2) ≠ [] := by simpa using hne
      have mx := max_ints hne2
      have m1 : 0 ≤ maxI (ts.map fun t => g t.2.2) := maxI_ge hne2 fun x hx => by
        obtain ⟨t, ht, rfl⟩ := List.mem_map.mp hx
        exact (hg t ht).1
      have m2 : maxI (ts.map fun t => g t.2.2) ≤ (((PyData.tuple (ts.map tD)).depth : Int) - 3) / 2 := maxI_le hne2 fun x hx => by
        obtain ⟨t, ht, rfl⟩ := List.mem_map.mp hx
        have := (hg t ht).2.1
        have dp := dep_all ht
        simp only [PyData.depth]
        omega
      refine ⟨1 + maxI (ts.map fun t => g t.2.2), by omega, by omega, (phi_succ rfl).trans (run_ret rfl ?_)⟩
      have hlen : ¬ ((ts.length : Int) = 0) := by
        have := List.length_pos_iff.mpr hne
        omega
      generalize hL : (ts.map fun t => g t.2.2) = L at *
      simp [b1, hne, hlen, cs, mx]
end
end My

set_option Elab.async false
set_option linter.all false
set_option maxRecDepth 100000
set_option maxHeartbeats 1000000
namespace My
open PySem PySem.Spec PyProof.Rows L2 Rf
section
variable {Φ : FT} {F n : Nat}
theorem bd_of {x : Rf.D} {v : Int} (h : Fm x v) : -(2 ^ 3000) ≤ v → v ≤ 2 ^ 3000 → Bd 3000 x := by
  induction h with
  | mk ts h1 h2 ih =>
    intro a b
    have hb := exp_le h1 (k := 3000) (by have := two_pos 3000; constructor <;> omega)
    have hb2 : ∀ t ∈ ts, t.2.1 ≤ 3000 := fun t ht => hb (tm t) (List.mem_map.mpr ⟨t, ht, rfl⟩)
    refine .mk ts hb2 h1 fun t ht => ih t ht ?_ ?_
    · have := two_pos 3000
      generalize (2 : Int) ^ 3000 = g at *
      omega
    · have := two_mono (i := 20) (j := 3000) (by decide)
      have := hb2 t ht
      generalize (2 : Int) ^ 3000 = g at *
      omega
theorem c_allowed {x : Rf.D} {v : Int} (h : Fm x v) (h1 : -(2 ^ 3000) ≤ v) (h2 : v ≤ 2 ^ 3000) (hd : x.depth ≤ 13) (hs : szD x ≤ 300) : phi TB F (n + 9) 6 [x] = .ok x := by
  have bd := bd_of h h1 h2
  have s1 := size_ok (F := F) (by decide) bd 6 (by omega) (n + 6) (by omega)
  obtain ⟨c, c0, c1, c2⟩ := height_ok (F := F) (by decide) bd 6 (by omega) (n + 6) (by omega)
  have e5 : phi TB F (n + 8) 5 [x] = .ok (.bool true) := by
    refine (phi_succ rfl).trans (run_ret rfl ?_)
    have q1 : ((szD x : Nat) : Int) ≤ 300 := by omega
    have q2 : c ≤ 40 := by omega
    simp [b5, s1, c2, q1, q2]
  refine (phi_succ rfl).trans (run_ret rfl ?_)
  simp [b6, e5]
theorem bits_ok {v : Int} (h1 : -(2 ^ 2899) ≤ v) (h2 : v ≤ 2 ^ 2899) : Builtin.Int.intBits v ≤ 2900 := by
  unfold Builtin.Int.intBits
  split
  · omega
  · rename_i z
    have z : v ≠ 0 := by simpa using z
    have a : v.natAbs < 2 ^ (2899 + 1) := by
      have e : (2 : Nat) ^ (2899 + 1) = 2 * 2 ^ 2899 := by rw [Nat.pow_succ, Nat.mul_comm]
      have p : ((2 ^ 2899 : Nat) : Int) = 2 ^ 2899 := by rw [Int.natCast_pow]; rfl
      rw [← p] at h1 h2
      have q : 0 < 2 ^ 2899 := Nat.pow_pos (by decide)
      rw [e]
      generalize 2 ^ 2899 = g at *
      omega
    have := (Nat.log2_lt (by omega)).mpr a
    omega
theorem m_bits {v : Int} : mthK .bits (.int v) [] = .ok (.int (Builtin.Int.intBits v : Nat)) := rfl
theorem c_of {x : Rf.D} {v : Int} (hf : phi TB F (n + 9) 4 [.int v] = .ok x) (h : Fm x v) (h1 : -(2 ^ 2899) ≤ v) (h2 : v ≤ 2 ^ 2899) (hd : x.depth ≤ 13) (hs : szD x ≤ 300) : phi TB F (n + 10) 7 [.int v] = .ok x := by
  have b := bits_ok h1 h2
  have m := two_mono (i := 2899) (j := 3000) (by decide)
  have al := c_allowed (F := F) (n := n) h (by generalize (2 : Int) ^ 3000 = g at *; generalize (2 : Int) ^ 2899 = g2 at *; omega) (by generalize (2 : Int) ^ 3000 = g at *; generalize (2 : Int) ^ 2899 = g2 at *; omega) hd hs
  refine (phi_succ rfl).trans (run_ret rfl ?_)
  simp [b7, m_bits, hf, al, show ¬ (2900 : Int) < (Builtin.Int.intBits v : Nat) by omega]
theorem c_ofS (hF : 4000 ≤ F) {v : Int} (h1 : -64 ≤ v) (h2 : v ≤ 64) : ∃ x, phi TB F (n + 10) 7 [.int v] = .ok x ∧ Fm x v ∧ x.depth ≤ 13 := by
  have m := two_mono (i := 20) (j := 3000) (by decide)
  have m2 := two_mono (i := 20) (j := 2899) (by decide)
  obtain ⟨x, x1, x2, x3⟩ := c_from (F := F) (n := n + 2) hF (p := v) (by generalize (2 : Int) ^ 3000 = g at *; omega) (by generalize (2 : Int) ^ 3000 = g at *; omega)
  refine ⟨x, c_of x1 x2 (by generalize (2 : Int) ^ 2899 = g at *; omega) (by generalize (2 : Int) ^ 2899 = g at *; omega) x3 ?_, x2, x3⟩
  obtain ⟨ts, rfl, hv, nf, fs⟩ := x2.inv
  rw [hv] at h1 h2
  have c6 : (2 : Int) ^ 6 = 64 := rfl
  have hb := exp_le nf (k := 6) (by rw [c6]; constructor <;> omega)
  have hb : ∀ t ∈ ts, t.2.1 ≤ 6 := fun t ht => hb (tm t) (List.mem_map.mpr ⟨t, ht, rfl⟩)
  have hl := fm_len nf hb
  have e : ∀ us : List T3, (∀ t ∈ us, szD t.2.2 ≤ 8) → (us.map fun t => szD t.2.2).sum ≤ 8 * us.length := by
    intro us
    induction us with
    | nil => intro _; simp
    | cons t r ih =>
      intro h
      have a := h t (List.mem_cons_self ..)
      have b := ih fun u hu => h u (List.mem_cons_of_mem _ hu)
      simp only [List.map_cons, List.sum_cons, List.length_cons]
      omega
  have e2 := e ts fun t ht => by
    have dp := dep_all ht
    simp only [PyData.depth] at x3
    have := hb t ht
    rw [sz_fm 5 (fs t ht) (by omega) (by omega)]
    exact sz_low this
  simp only [szD, szL_map]
  omega
end
end My

set_option Elab.async false
set_option linter.all false
set_option maxRecDepth 100000
set_option maxHeartbeats 2000000
namespace My
open PySem PySem.Spec PyProof.Rows L2 Rf
section
variable {Φ : FT} {F n : Nat}
/-! ### states -/
abbrev S3 := Int × Int × Int
abbrev R4 := Int × Int × Int × Int
abbrev T9 := R4 × R4 × R4
def stD (s : S3) : Rf.D := .tuple [.int s.1, .int s.2.1, .int s.2.2]
def rwD (r : R4) : Rf.D := .tuple [.int r.1, .int r.2.1, .int r.2.2.1, .int r.2.2.2]
def tbD (T : T9) : Rf.D := .tuple [rwD T.1, rwD T.2.1, rwD T.2.2]
def rowv (r : R4) (s : S3) (m : Int) : Int := (r.1 * s.1 + r.2.1 * s.2.1 + r.2.2.1 * s.2.2 + r.2.2.2) % m
def step (T : T9) (m : Int) (s : S3) : S3 := (rowv T.1 s m, rowv T.2.1 s m, rowv T.2.2 s m)
def red (m : Int) (s : S3) : S3 := (s.1 % m, s.2.1 % m, s.2.2 % m)
def sq (T : T9) (m : Int) (s : S3) : Nat → S3
  | 0 => red m s
  | i + 1 => step T m (sq T m s i)
structure In (m : Int) (s : S3) : Prop where
  a0 : 0 ≤ s.1
  a1 : s.1 < m
  b0 : 0 ≤ s.2.1
  b1 : s.2.1 < m
  c0 : 0 ≤ s.2.2
  c1 : s.2.2 < m
theorem sq_in {T : T9} {m : Int} {s : S3} (h : 0 < m) : ∀ i, In m (sq T m s i)
  | 0 => ⟨Int.emod_nonneg _ (by omega), Int.emod_lt_of_pos _ h, Int.emod_nonneg _ (by omega), Int.emod_lt_of_pos _ h, Int.emod_nonneg _ (by omega), Int.emod_lt_of_pos _ h⟩
  | i + 1 => ⟨Int.emod_nonneg _ (by omega), Int.emod_lt_of_pos _ h, Int.emod_nonneg _ (by omega), Int.emod_lt_of_pos _ h, Int.emod_nonneg _ (by omega), Int.emod_lt_of_pos _ h⟩
theorem sq_shift {T : T9} {m : Int} {s : S3} {a b : Nat} (h : sq T m s a = sq T m s b) : ∀ k, sq T m s (a + k) = sq T m s (b + k)
  | 0 => h
  | k + 1 => by
    show step T m (sq T m s (a + k)) = step T m (sq T m s (b + k))
    rw [sq_shift h k]
def enc (s : S3) : Int := s.1 * 144 + s.2.1 * 12 + s.2.2 + 1
theorem enc_inj {m : Int} (hm : m ≤ 12) {s t : S3} (h : In m s) (g : In m t) (e : enc s = enc t) : s = t := by
  have h1 := h.a0; have h2 := h.a1; have h3 := h.b0; have h4 := h.b1; have h5 := h.c0; have h6 := h.c1
  have g1 := g.a0; have g2 := g.a1; have g3 := g.b0; have g4 := g.b1; have g5 := g.c0; have g6 := g.c1
  unfold enc at e
  obtain ⟨a, b, c⟩ := s
  obtain ⟨a', b', c'⟩ := t
  simp only at *
  have e1 : a = a' := by omega
  have e2 : b = b' := by omega
  have e3 : c = c' := by omega
  rw [e1, e2, e3]
theorem sq_few {T : T9} {m : Int} {s : S3} (h : 0 < m) (hm : m ≤ 12) {i : Nat} (ne : ∀ a b, a < b → b < i → sq T m s a ≠ sq T m s b) : i ≤ 1728 := by
  have nd : ((List.range i).map fun j => enc (sq T m s j)).Nodup := by
    unfold List.Nodup
    rw [List.pairwise_map]
    have := List.pairwise_lt_range (n := i)
    refine List.Pairwise.imp_of_mem (fun {a b} ha hb hlt e => ?_) this
    exact ne a b hlt (List.mem_range.mp hb) (enc_inj hm (sq_in h a) (sq_in h b) e)
  have := nodup_len 1728 nd fun x hx => by
    obtain ⟨j, _, rfl⟩ := List.mem_map.mp hx
    have q := sq_in (T := T) (s := s) h j
    have h1 := q.a0; have h2 := q.a1; have h3 := q.b0; have h4 := q.b1; have h5 := q.c0; have h6 := q.c1
    unfold enc
    omega
  simpa using this
structure Cyc (f : Nat → S3) (L l : Nat) : Prop where
  lt : l < L
  eq : f L = f l
  ne : ∀ a b, a < b → b < L → f a ≠ f b
  le : L ≤ 1728
theorem Cyc.uniq {f : Nat → S3} {L l L' l' : Nat} (h : Cyc f L l) (h' : Cyc f L' l') : L = L' ∧ l = l' := by
  have e : L = L' := by
    rcases Nat.lt_trichotomy L L' with q | q | q
    · exact absurd h.eq.symm (h'.ne l L h.lt q)
    · exact q
    · exact absurd h'.eq.symm (h.ne l' L' h'.lt q)
  subst e
  refine ⟨rfl, ?_⟩
  have q : f l = f l' := h.eq.symm.trans h'.eq
  rcases Nat.lt_trichotomy l l' with g | g | g
  · exact absurd q (h.ne l l' g h'.lt)
  · exact g
  · exact absurd q.symm (h.ne l' l g h.lt)
theorem Cyc.period {T : T9} {m : Int} {s : S3} {L l : Nat} (h : Cyc (sq T m s) L l) : ∀ (k E : Nat), E = k → l ≤ E → sq T m s E = sq T m s (l + (E - l) % (L - l)) := by
  intro k
  induction k using Nat.strongRecOn with
  | ind k ih =>
    intro E hE hl
    have hlt := h.lt
    by_cases hlt2 : E < L
    · rw [Nat.mod_eq_of_lt (by omega)]
      congr 1
      omega
    · have e1 : sq T m s E = sq T m s (E - (L - l)) := by
        have := sq_shift h.eq (E - L)
        rw [show L + (E - L) = E by omega, show l + (E - L) = E - (L - l) by omega] at this
        exact this
      have e2 := ih (E - (L - l)) (by omega) _ rfl (by omega)
      rw [e1, e2]
      congr 2
      rw [show E - l = (E - (L - l) - l) + (L - l) by omega, Nat.add_mod_right]
/-! ### the dict of the states -/
def sd (f : Nat → S3) (i : Nat) : List (Rf.D × Rf.D) := (List.range i).map fun j => (stD (f j), .int (j : Int))
def sl (f : Nat → S3) (i : Nat) : List Rf.D := (List.range i).map fun j => stD (f j)
theorem sl_len {f : Nat → S3} {i : Nat} : (sl f i).length = i := by simp [sl]
theorem sd_len {f : Nat → S3} {i : Nat} : (sd f i).length = i := by simp [sd]
theorem sl_snoc {f : Nat → S3} {i : Nat} : sl f i ++ [stD (f i)] = sl f (i + 1) := by
  unfold sl
  rw [List.range_succ, List.map_append]
  rfl
theorem eqv_st {s t : S3} : PyData.eqv (stD s) (stD t) = decide (s = t) := by
  obtain ⟨a, b, c⟩ := s
  obtain ⟨a', b', c'⟩ := t
  simp only [stD, PyData.eqv, PyData.eqvAll, Bool.and_true, Prod.mk.injEq, Bool.decide_and]
  rfl
theorem tkey_st {s : S3} : (tkeyD (stD s)).isSome = true := rfl
theorem look_sd {f : Nat → S3} {s : S3} {i : Nat} : lookD (sd f i) (stD s) = ((List.range i).find? fun j => decide (f j = s)).map fun j => .int (j : Int) := by
  unfold lookD sd
  rw [List.find?_map, Option.map_map]
  have : ((fun p : Rf.D × Rf.D => PyData.eqv p.1 (stD s)) ∘ fun j : Nat => (stD (f j), PyData.int (j : Int))) = fun j => decide (f j = s) := by
    funext j
    exact eqv_st
  rw [this]
  rfl
theorem look_hit {f : Nat → S3} {i j : Nat} (ne : ∀ a b, a < b → b < i → f a ≠ f b) (hj : j < i) : lookD (sd f i) (stD (f j)) = some (.int (j : Int)) := by
  rw [look_sd]
  have : (List.range i).find? (fun k => decide (f k = f j)) = some j := by
    rw [List.find?_range_eq_some]
    refine ⟨by simp, List.mem_range.mpr hj, fun k hk => ?_⟩
    simp [ne k j hk hj]
  rw [this]; rfl
theorem look_no {f : Nat → S3} {s : S3} {i : Nat} (ne : ∀ j, j < i → f j ≠ s) : lookD (sd f i) (stD s) = none := by
  rw [look_sd]
  have : (List.range i).find? (fun k => decide (f k = s)) = none := by
    rw [List.find?_range_eq_none]
    intro k hk
    simp [ne k hk]
  rw [this]; rfl
theorem put_sd {f : Nat → S3} {i : Nat} (h : lookD (sd f i) (stD (f i)) = none) : putD (sd f i) (stD (f i)) (.int (i : Int)) = sd f (i + 1) := by
  unfold putD
  rw [h]
  simp only [Option.isSome_none, Bool.false_eq_true, if_false]
  unfold sd
  rw [List.range_succ, List.map_append]
  rfl
theorem idx_sl {f : Nat → S3} {L i : Nat} (h : i < L) : idxK (.list (sl f L)) (.int (i : Nat)) = .ok (stD (f i)) := by
  have e : idxD (.list (sl f L)) (.int (i : Nat)) = some (stD (f i)) := by
    show L2.atI _ _ = _
    refine atI_at (by omega) ?_
    unfold sl
    rw [List.getElem?_map, show ((i : Nat) : Int).toNat = i from rfl, List.getElem?_range h]
    rfl
  rw [idxK, e]; rfl
/-! ### turned -/
theorem i40 {r : R4} : idxK (rwD r) (.int 0) = .ok (.int r.1) := rfl
theorem i41 {r : R4} : idxK (rwD r) (.int 1) = .ok (.int r.2.1) := rfl
theorem i42 {r : R4} : idxK (rwD r) (.int 2) = .ok (.int r.2.2.1) := rfl
theorem i43 {r : R4} : idxK (rwD r) (.int 3) = .ok (.int r.2.2.2) := rfl
theorem i30 {s : S3} : idxK (stD s) (.int 0) = .ok (.int s.1) := rfl
theorem i31 {s : S3} : idxK (stD s) (.int 1) = .ok (.int s.2.1) := rfl
theorem i32 {s : S3} : idxK (stD s) (.int 2) = .ok (.int s.2.2) := rfl
theorem turned_run {T : T9} {m : Int} {s : S3} (h1 : 1 ≤ m) (h2 : m ≤ 12) (hs : In m s) : Fdef.run ⟨3, 7, b15⟩ Φ F [tbD T, stD s, .int m] = .ok (stD (step T m s)) := by
  have g1 := hs.a0; have g2 := hs.a1; have g3 := hs.b0; have g4 := hs.b1; have g5 := hs.c0; have g6 := hs.c1
  have hE : ∀ r : R4, ev Φ x15_1 [.d (tbD T), .d (stD s), .d (.int m), .d (.int s.1), .d (.int s.2.1), .d (.int s.2.2), .d (rwD r)] = .ok (.int (rowv r s m)) := fun r => by
    have m1 : binK .mul (.int r.1) (.int s.1) = .ok (.int (r.1 * s.1)) := binK_mulr (by omega)
    have m2 : binK .mul (.int r.2.1) (.int s.2.1) = .ok (.int (r.2.1 * s.2.1)) := binK_mulr (by omega)
    have m3 : binK .mul (.int r.2.2.1) (.int s.2.2) = .ok (.int (r.2.2.1 * s.2.2)) := binK_mulr (by omega)
    have o := binK_mod (i := r.1 * s.1 + r.2.1 * s.2.1 + r.2.2.1 * s.2.2 + r.2.2.2) (show (0 : Int) < m by omega)
    simp [x15_1, i40, i41, i42, i43, m1, m2, m3, o, -binK_mod]
    rfl
  have hc : compK Φ x15_1 (.nm 6) [] [.d (tbD T), .d (stD s), .d (.int m), .d (.int s.1), .d (.int s.2.1), .d (.int s.2.2), .un] [rwD T.1, rwD T.2.1, rwD T.2.2] = .ok (.list [.int (rowv T.1 s m), .int (rowv T.2.1 s m), .int (rowv T.2.2 s m)]) := by
    have hz : decide (([rwD T.1, rwD T.2.1, rwD T.2.2] : List Rf.D).length ≤ line) = true := decide_eq_true (by unfold line; simp)
    have hf : Rf.freeOf [.d (tbD T), .d (stD s), .d (.int m), .d (.int s.1), .d (.int s.2.1), .d (.int s.2.2), .un] (Tgt.nm 6).ix = true := rfl
    have hw : wipeS [.d (tbD T), .d (stD s), .d (.int m), .d (.int s.1), .d (.int s.2.1), .d (.int s.2.2), .un] (Tgt.nm 6).ix = [.d (tbD T), .d (stD s), .d (.int m), .d (.int s.1), .d (.int s.2.1), .d (.int s.2.2), .un] := rfl
    have hb : ∀ r : R4, bindT (.nm 6) (rwD r) [.d (tbD T), .d (stD s), .d (.int m), .d (.int s.1), .d (.int s.2.1), .d (.int s.2.2), .un] = some [.d (tbD T), .d (stD s), .d (.int m), .d (.int s.1), .d (.int s.2.1), .d (.int s.2.2), .d (rwD r)] := fun r => rfl
    unfold compK
    rw [hw, hz, hf]
    simp only [compL, hb, et_nil, Res.bind_ok, if_true, hE]
    rfl
  have hbt : asgK (.tp [(.nm 3), (.nm 4), (.nm 5)]) [.d (tbD T), .d (stD s), .d (.int m), .un, .un, .un, .un] (stD s) = .nx [.d (tbD T), .d (stD s), .d (.int m), .d (.int s.1), .d (.int s.2.1), .d (.int s.2.2), .un] := rfl
  have hsr : srcK .tup [tbD T] = .ok [rwD T.1, rwD T.2.1, rwD T.2.2] := rfl
  refine run_ret rfl ?_
  show Rf.execs Φ F b15 [.d (tbD T), .d (stD s), .d (.int m), .un, .un, .un, .un] = _
  simp [b15, hbt, hsr, hc]
  rfl
theorem c_turned {T : T9} {m : Int} {s : S3} (h1 : 1 ≤ m) (h2 : m ≤ 12) (hs : In m s) : phi TB F (n + 1) 15 [tbD T, stD s, .int m] = .ok (stD (step T m s)) := (phi_succ rfl).trans (turned_run h1 h2 hs)
/-! ### states_of -/
theorem red_comp {e : Sl} {m : Int} {s : S3} (h1 : 1 ≤ m) {A B : Slot} {s3 s4 s5 : Slot} (f3 : isOwn s3 = false) : compK Φ x16_1 (.nm 6) [] [A, B, .d (.int m), s3, s4, s5, .un] [.int s.1, .int s.2.1, .int s.2.2] = .ok (.list [.int (s.1 % m), .int (s.2.1 % m), .int (s.2.2 % m)]) := by
  have hb : ∀ x : Int, bindT (.nm 6) (.int x) [A, B, .d (.int m), s3, s4, s5, .un] = some [A, B, .d (.int m), s3, s4, s5, .d (.int x)] := fun x => rfl
  have hE : ∀ x : Int, ev Φ x16_1 [A, B, .d (.int m), s3, s4, s5, .d (.int x)] = .ok (.int (x % m)) := fun x => by
    have o := binK_mod (i := x) (show (0 : Int) < m by omega)
    simp [x16_1, o, -binK_mod]
  have hz : decide (([.int s.1, .int s.2.1, .int s.2.2] : List Rf.D).length ≤ line) = true := decide_eq_true (by unfold line; simp)
  have hf : Rf.freeOf [A, B, .d (.int m), s3, s4, s5, .un] (Tgt.nm 6).ix = true := rfl
  have hw : wipeS [A, B, .d (.int m), s3, s4, s5, .un] (Tgt.nm 6).ix = [A, B, .d (.int m), s3, s4, s5, .un] := rfl
  unfold compK
  rw [hw, hz, hf]
  simp only [compL, hb, et_nil, Res.bind_ok, if_true, hE]
  rfl
def JS (T : T9) (m : Int) (s : S3) (i : Nat) (e : Sl) : Prop := e = [.d (tbD T), .d (stD s), .d (.int m), .d (stD (sq T m s i)), .ot (sd (sq T m s) i), .ol (sl (sq T m s) i), .un] ∧ ∀ a b, a < b → b < i → sq T m s a ≠ sq T m s b
theorem states_run {T : T9} {m : Int} {s : S3} (h1 : 1 ≤ m) (h2 : m ≤ 12) (hF : 2000 ≤ F) (hc : ∀ t, In m t → Φ 15 [tbD T, stD t, .int m] = .ok (stD (step T m t))) : ∃ x, Fdef.run ⟨3, 7, b16⟩ Φ F [tbD T, stD s, .int m] = .ok x ∧ ∃ L l, Cyc (sq T m s) L l ∧ x = .tuple [.list (sl (sq T m s) L), .int (l : Nat)] := by
  refine run_of rfl ?_
  have hsr : srcK .tup [stD s] = .ok [.int s.1, .int s.2.1, .int s.2.2] := rfl
  have hcm := red_comp (Φ := Φ) (e := []) (s := s) h1 (A := .d (tbD T)) (B := .d (stD s)) (s3 := .un) (s4 := .un) (s5 := .un) rfl
  have e0 : PyData.tuple [.int (s.1 % m), .int (s.2.1 % m), .int (s.2.2 % m)] = stD (sq T m s 0) := rfl
  show Is _ (Rf.execs Φ F b16 [.d (tbD T), .d (stD s), .d (.int m), .un, .un, .un, .un])
  simp only [b16, x_cons, x_asg, e_blt, es_cons, es_nil, e_comp, e_var, List.getElem?_cons_succ, List.getElem?_cons_zero, varK_d, Res.bind_ok, hsr, hcm, bltK_tupL, Out.ofR_ok, e0]
  rw [asgK_nm (by simp)]
  simp only [Out.seq_nx, x_cons, List.set_cons_succ, List.set_cons_zero]
  rw [x_towe (by simp)]
  simp only [Out.seq_nx, x_cons, x_own, e_lst, es_nil, Res.bind_ok, Out.ofR_ok, List.set_cons_succ, List.set_cons_zero]
  rw [ownK_l (by simp)]
  simp only [Out.seq_nx, x_cons, x_whl, List.set_cons_succ, List.set_cons_zero]
  refine Is.whl (fun n e => ∃ i, n + i = 1729 ∧ JS T m s i e) (fun n e hh => ?_) F _ 1729 ⟨0, rfl, rfl, fun a b _ h => absurd h (Nat.not_lt_zero _)⟩ (by omega)
  obtain ⟨i, hn, rfl, ne⟩ := hh
  have hi := sq_few (by omega) h2 ne
  by_cases hh : ∃ j, j < i ∧ sq T m s j = sq T m s i
  · obtain ⟨j, j1, j2⟩ := hh
    have lk := look_hit ne j1
    rw [j2] at lk
    have v1 : tniV (sd (sq T m s) i) (stD (sq T m s i)) = .ok (.bool false) := by
      unfold tniV; rw [if_pos tkey_st, lk]; rfl
    have v2 : tgetV (sd (sq T m s) i) (stD (sq T m s i)) = .ok (.int (j : Int)) := by
      unfold tgetV; rw [if_pos tkey_st, lk]; rfl
    refine .inl ⟨by simp [x16_3, v1], ?_⟩
    simp [v2]
    exact ⟨i, j, ⟨j1, j2.symm, ne, hi⟩, rfl, rfl⟩
  · have lk := look_no (f := sq T m s) (i := i) (s := sq T m s i) fun j hj e => hh ⟨j, hj, e⟩
    have v1 : tniV (sd (sq T m s) i) (stD (sq T m s i)) = .ok (.bool true) := by
      unfold tniV; rw [if_pos tkey_st, lk]; rfl
    refine .inr ⟨by simp [x16_3, v1], ?_⟩
    have ts := fun e => tsetK_ok (i := 4) (e := e) (kvs := sd (sq T m s) i) (x := .int (i : Int)) (k := stD (sq T m s i)) tkey_st (by rw [sd_len]; unfold line; omega)
    rw [put_sd lk] at ts
    have hl2 : (sl (sq T m s) i).length < line := by rw [sl_len]; unfold line; omega
    have hl3 : i < line := by unfold line; omega
    have hct := hc (sq T m s i) (sq_in (by omega) i)
    have hb : Rf.execs Φ F b16_2 [.d (tbD T), .d (stD s), .d (.int m), .d (stD (sq T m s i)), .ot (sd (sq T m s) i), .ol (sl (sq T m s) i), .un] = .nx [.d (tbD T), .d (stD s), .d (.int m), .d (stD (sq T m s (i + 1))), .ot (sd (sq T m s) (i + 1)), .ol (sl (sq T m s) (i + 1)), .un] := by
      simp [b16_2, sl_len, ts, hl3, sl_snoc, hct]
      rfl
    rw [hb, Turn_nx]
    refine ⟨n - 1, by omega, i + 1, by omega, rfl, fun a b hab hb => ?_⟩
    rcases Nat.lt_or_eq_of_le (Nat.le_of_lt_succ hb) with h | h
    · exact ne a b hab h
    · subst h
      exact fun e => hh ⟨a, hab, e⟩
theorem c_states {T : T9} {m : Int} (s : S3) (h1 : 1 ≤ m) (h2 : m ≤ 12) (hF : 2000 ≤ F) : ∃ L l, Cyc (sq T m s) L l ∧ ∀ n, phi TB F (n + 2) 16 [tbD T, stD s, .int m] = .ok (.tuple [.list (sl (sq T m s) L), .int (l : Nat)]) := by
  obtain ⟨x, hx, L, l, hc, rfl⟩ := states_run (Φ := phi TB F 1) (F := F) (s := s) h1 h2 hF fun t ht => c_turned (T := T) h1 h2 ht
  refine ⟨L, l, hc, fun n => ?_⟩
  obtain ⟨x, hx, L', l', hc', rfl⟩ := states_run (Φ := phi TB F (n + 1)) (F := F) (s := s) h1 h2 hF fun t ht => c_turned (T := T) h1 h2 ht
  obtain ⟨rfl, rfl⟩ := hc.uniq hc'
  exact (phi_succ rfl).trans hx
end
end My

set_option Elab.async false
set_option linter.all false
set_option maxRecDepth 100000
set_option maxHeartbeats 2000000
namespace My
open PySem PySem.Spec PyProof.Rows L2 Rf
section
variable {Φ : FT} {F n : Nat}
theorem c_chk {m : Int} (h1 : 1 ≤ m) (h2 : m ≤ 12) : phi TB F (n + 1) 13 [.int m] = .ok .none := by
  refine (phi_succ rfl).trans (run_nx (e := [.d (.int m)]) rfl ?_)
  simp [b13, show ¬ m < 1 by omega, show ¬ 12 < m by omega]
theorem c_chkX {m : Int} (h : m < 1 ∨ 12 < m) : phi TB F (n + 1) 13 [.int m] = .ex 1 := by
  refine (phi_succ rfl).trans (run_ex (e := [.d (.int m)]) rfl ?_)
  by_cases h1 : m < 1
  · simp [b13, h1]
  · simp [b13, h1, show 12 < m by omega]
theorem c_times {x : Rf.D} {v : Int} (hx : Fm x v) (h : 0 ≤ v) : phi TB F (n + 2) 14 [x] = .ok .none := by
  have sg := c_signof (F := F) (n := n) hx
  have s0 : ¬ sgn v < 0 := by unfold sgn; split; decide; split; omega; decide
  refine (phi_succ rfl).trans (run_nx (e := [.d x]) rfl ?_)
  simp [b14, sg, s0]
theorem c_timesX {x : Rf.D} {v : Int} (hx : Fm x v) (h : v < 0) : phi TB F (n + 2) 14 [x] = .ex 1 := by
  have sg := c_signof (F := F) (n := n) hx
  have s0 : sgn v < 0 := by unfold sgn; rw [if_neg (by omega), if_pos h]; decide
  refine (phi_succ rfl).trans (run_ex (e := [.d x]) rfl ?_)
  simp [b14, sg, s0]
theorem c_cycle {T : T9} {m : Int} {s : S3} (h1 : 1 ≤ m) (h2 : m ≤ 12) (hF : 2000 ≤ F) {L l : Nat} (hc : Cyc (sq T m s) L l) : phi TB F (n + 3) 17 [tbD T, stD s, .int m] = .ok (.tuple [.int (l : Nat), .int ((L - l : Nat) : Int)]) := by
  obtain ⟨L', l', hc', hs⟩ := c_states (F := F) (T := T) s h1 h2 hF
  obtain ⟨rfl, rfl⟩ := hc.uniq hc'
  have hlt := hc.lt
  have st := hs n
  have ck := c_chk (F := F) (n := n + 1) h1 h2
  have ln : bltK .len [.list (sl (sq T m s) L)] = .ok (.int (L : Nat)) := by rw [bltK_lenL, sl_len]
  have sb : binK .sub (.int (L : Nat)) (.int (l : Nat)) = .ok (.int ((L - l : Nat) : Int)) := by
    rw [binK_sub]
    congr 2
    omega
  have hbt : asgK (.tp [(.nm 3), (.nm 4)]) [.d (tbD T), .d (stD s), .d (.int m), .un, .un] (.tuple [.list (sl (sq T m s) L), .int (l : Nat)]) = .nx [.d (tbD T), .d (stD s), .d (.int m), .d (.list (sl (sq T m s) L)), .d (.int (l : Nat))] := rfl
  refine (phi_succ rfl).trans (run_ret rfl ?_)
  show Rf.execs _ F b17 [.d (tbD T), .d (stD s), .d (.int m), .un, .un] = _
  simp [b17, x_expr, ck, st, hbt, ln, sb, -binK_sub, -bltK_lenL]
theorem c_cycleX {m : Int} {x y : Rf.D} (h : m < 1 ∨ 12 < m) : phi TB F (n + 2) 17 [x, y, .int m] = .ex 1 := by
  have ck := c_chkX (F := F) (n := n) h
  refine (phi_succ rfl).trans (run_ex (e := [.d x, .d y, .d (.int m), .un, .un]) rfl ?_)
  simp [b17, x_expr, ck]
theorem c_joinX {m : Int} {x y : Rf.D} (h : m < 1 ∨ 12 < m) : phi TB F (n + 2) 20 [x, y, .int m] = .ex 1 := by
  have ck := c_chkX (F := F) (n := n) h
  refine (phi_succ rfl).trans (run_ex (e := [.d x, .d y, .d (.int m), .un, .un, .un, .un, .un, .un]) rfl ?_)
  simp [b20, x_expr, ck]
theorem c_tableX {m : Int} {x y : Rf.D} {v : Int} (hx : Fm y v) (h : m < 1 ∨ 12 < m ∨ v < 0) : phi TB F (n + 3) 21 [x, y, .int m] = .ex 1 := by
  refine (phi_succ rfl).trans (run_ex (e := [.d x, .d y, .d (.int m), .un, .un, .un, .un, .un, .un]) rfl ?_)
  by_cases hm : m < 1 ∨ 12 < m
  · have ck := c_chkX (F := F) (n := n + 1) hm
    simp [b21, x_expr, ck]
  · have ck := c_chk (F := F) (n := n + 1) (m := m) (by omega) (by omega)
    have ct := c_timesX (F := F) (n := n) hx (by omega)
    simp [b21, x_expr, ck, ct]
theorem c_behindX {m : Int} {x s y : Rf.D} {v : Int} (hx : Fm y v) (h : m < 1 ∨ 12 < m ∨ v < 0) : phi TB F (n + 3) 19 [x, s, y, .int m] = .ex 1 := by
  refine (phi_succ rfl).trans (run_ex (e := [.d x, .d s, .d y, .d (.int m)]) rfl ?_)
  by_cases hm : m < 1 ∨ 12 < m
  · have ck := c_chkX (F := F) (n := n + 1) hm
    simp [b19, x_expr, ck]
  · have ck := c_chk (F := F) (n := n + 1) (m := m) (by omega) (by omega)
    have ct := c_timesX (F := F) (n := n) hx (by omega)
    simp [b19, x_expr, ck, ct]
/-! ### state_at -/
theorem c_at {T : T9} {m : Int} {s : S3} (h1 : 1 ≤ m) (h2 : m ≤ 12) (hF : 20000 ≤ F) {x : Rf.D} {E : Nat} (hx : Fm x (E : Nat)) (hd : x.depth ≤ 13) : phi TB F (n + 41) 18 [tbD T, stD s, x, .int m] = .ok (stD (sq T m s E)) := by
  obtain ⟨L, l, hc, hs⟩ := c_states (F := F) (T := T) s h1 h2 (by omega)
  have hlt := hc.lt
  have hle := hc.le
  have st := hs (n + 38)
  obtain ⟨lenD, d1, d2, d3⟩ := c_fromN (F := F) (n := n + 33) (by omega) (p := L) (by omega)
  have c3 := compare_ok (F := F) (n + 40) hx d2 (by omega) (by omega)
  have ln : bltK .len [.list (sl (sq T m s) L)] = .ok (.int (L : Nat)) := by rw [bltK_lenL, sl_len]
  have sb : binK .sub (.int (L : Nat)) (.int (l : Nat)) = .ok (.int ((L - l : Nat) : Int)) := by
    rw [binK_sub]
    congr 2
    omega
  have hbt : asgK (.tp [(.nm 4), (.nm 5)]) [.d (tbD T), .d (stD s), .d x, .d (.int m), .un, .un, .un] (.tuple [.list (sl (sq T m s) L), .int (l : Nat)]) = .nx [.d (tbD T), .d (stD s), .d x, .d (.int m), .d (.list (sl (sq T m s) L)), .d (.int (l : Nat)), .un] := rfl
  refine (phi_succ rfl).trans (run_ret rfl ?_)
  show Rf.execs _ F b18 [.d (tbD T), .d (stD s), .d x, .d (.int m), .un, .un, .un] = _
  have st : phi TB F (n + 40) 16 [tbD T, stD s, .int m] = .ok (.tuple [.list (sl (sq T m s) L), .int (l : Nat)]) := st
  have d1 : phi TB F (n + 40) 4 [.int (L : Nat)] = .ok lenD := d1
  by_cases hE : E < L
  · have G := two_mono (i := 20) (j := 64) (by decide)
    have t := to_ok (F := F) (by omega) 6 hx (by omega) (by omega) (by omega) (by omega) (n + 39) (by omega)
    have t : phi TB F (n + 40) 9 [x] = .ok (.int (E : Nat)) := t
    have ix := idx_sl (f := sq T m s) hE
    have lt0 : sgn ((E : Nat) - (L : Nat)) < 0 := by unfold sgn; rw [if_neg (by omega), if_pos (by omega)]; decide
    generalize sl (sq T m s) L = R at *
    simp [b18, st, hbt, ln, d1, c3, lt0, t, ix, -bltK_lenL]
  · have lt0 : ¬ sgn ((E : Nat) - (L : Nat)) < 0 := by unfold sgn; split; decide; split; omega; decide
    have Ppos : (0 : Int) < ((L - l : Nat) : Int) := by omega
    have o1 := binK_mod (i := ((E : Nat) : Int) % ((L - l : Nat) : Int) - (l : Nat)) Ppos
    have e1 : (((E : Nat) : Int) % ((L - l : Nat) : Int) - (l : Nat)) % ((L - l : Nat) : Int) = (((E - l) % (L - l) : Nat) : Int) := by
      rw [Int.natCast_emod, show ((E - l : Nat) : Int) = (E : Int) - (l : Int) by omega, Int.sub_emod, Int.emod_emod_of_dvd _ (Int.dvd_refl _), ← Int.sub_emod]
    rw [e1] at o1
    have lt1 : l + (E - l) % (L - l) < L := by
      have := Nat.mod_lt (E - l) (show 0 < L - l by omega)
      omega
    have ix := idx_sl (f := sq T m s) lt1
    rw [← hc.period E E rfl (by omega)] at ix
    rw [show ((l + (E - l) % (L - l) : Nat) : Int) = (l : Int) + (((E - l) % (L - l) : Nat) : Int) by omega] at ix
    have cr := c_rem (F := F) hF (N := 6) hx (by omega) (by omega) (m := L - l) (by omega) (by omega) (q := n + 39) (by omega)
    have cr : phi TB F (n + 40) 12 [x, .int ((L - l : Nat) : Int)] = .ok (.int (((E : Nat) : Int) % ((L - l : Nat) : Int))) := cr
    generalize sl (sq T m s) L = R at *
    generalize ((L - l : Nat) : Int) = P at *
    generalize (((E - l) % (L - l) : Nat) : Int) = q at *
    generalize ((E : Nat) : Int) % P = r at *
    simp [b18, st, hbt, ln, d1, c3, lt0, sb, cr, -bltK_lenL, -binK_sub, -binK_mod]
    have sb2 : binK .sub (.int r) (.int (l : Nat)) = .ok (.int (r - (l : Nat))) := binK_sub
    simp [cr, sb2, o1, ix, -binK_sub, -binK_mod]
theorem c_behind {T : T9} {m : Int} {s : S3} (h1 : 1 ≤ m) (h2 : m ≤ 12) (hF : 20000 ≤ F) {x : Rf.D} {E : Nat} (hx : Fm x (E : Nat)) (hd : x.depth ≤ 13) : phi TB F (n + 42) 19 [tbD T, stD s, x, .int m] = .ok (stD (sq T m s E)) := by
  have ck := c_chk (F := F) (n := n + 40) h1 h2
  have ct := c_times (F := F) (n := n + 39) hx (by omega)
  have ca := c_at (F := F) (n := n) (T := T) (s := s) h1 h2 hF hx hd
  refine (phi_succ rfl).trans (run_ret rfl ?_)
  simp [b19, x_expr, ck, ct, ca]
end
end My

set_option Elab.async false
set_option linter.all false
set_option maxRecDepth 100000
set_option maxHeartbeats 2000000
namespace My
open PySem PySem.Spec PyProof.Rows L2 Rf
section
variable {Φ : FT} {F n : Nat}
abbrev il (l : List Int) : List Rf.D := l.map .int
def Sm (l : List Int) : Prop := ∀ x ∈ l, 0 ≤ x ∧ x < 1000
theorem Sm.snoc {l : List Int} (h : Sm l) (y : Int) : Sm (l ++ [y % 1000]) := fun x hx => by
  rcases List.mem_append.mp hx with hx | hx
  · exact h x hx
  · simp at hx; omega
theorem il_snoc {l : List Int} {x : Int} : il l ++ [.int x] = il (l ++ [x]) := by simp
theorem pickI {l : List Int} {z : Int} (h0 : 0 ≤ z) (h1 : z < l.length) : ∃ y ∈ l, idxK (.list (l.map .int)) (.int z) = .ok (.int y) := by
  have hi : z.toNat < l.length := by omega
  refine ⟨l[z.toNat], List.getElem_mem hi, ?_⟩
  have e : idxD (.list (l.map .int)) (.int z) = some (.int l[z.toNat]) := by
    show L2.atI _ _ = _
    exact atI_at h0 (get_ints hi)
  rw [idxK, e]; rfl
theorem c_cell {ns : List Int} {k : Nat} : ∃ c : Int, phi TB F (n + 1) 22 [.list (il ns), .int (k : Nat)] = .ok (.int c) := by
  by_cases h : (k : Int) < (ns.length : Nat)
  · obtain ⟨y, hy, e⟩ := pickI (l := ns) (z := (k : Nat)) (by omega) h
    refine ⟨y, (phi_succ rfl).trans (run_ret rfl ?_)⟩
    simp [b22, show k < ns.length by omega, e]
  · refine ⟨0, (phi_succ rfl).trans (run_ret rfl ?_)⟩
    simp [b22, show ¬ k < ns.length by omega]
theorem seq_as {o : Out} {f g : Sl → Out} : (o.seq f).seq g = o.seq fun e => (f e).seq g := by cases o <;> rfl
def K1 (c k : Int) (i : Nat) (e : Sl) : Prop := ∃ (l : List Int) (r : Int) (s5 : Slot), e = [.d (.int c), .d (.int k), .d (.int 24), .ol (il l), .d (.int r), s5, .un, .un] ∧ l.length = i ∧ Sm l
def K2 (c k : Int) (i : Nat) (e : Sl) : Prop := ∃ (l : List Int) (r : Int) (s5 s7 : Slot), e = [.d (.int c), .d (.int k), .d (.int 24), .ol (il l), .un, s5, .d (.int r), s7] ∧ l.length = i ∧ Sm l ∧ 0 ≤ r ∧ r < 2147483647
theorem c_numbers {c : Int} {k : Nat} : ∃ l : List Int, phi TB F (n + 1) 23 [.int c, .int (k : Nat), .int 24] = .ok (.list (il l)) ∧ l.length = 24 ∧ Sm l := by
  have : ∃ x, Fdef.run ⟨3, 8, b23⟩ (phi TB F n) F [.int c, .int (k : Nat), .int 24] = .ok x ∧ ∃ l, x = .list (il l) ∧ l.length = 24 ∧ Sm l := by
    refine run_of rfl ?_
    have r1 : srcK .rng [.int 24] = .ok (rngD 0 24) := srcK_rn (n := 24) (by decide)
    simp only [b23, x_cons, x_own, e_lst, es_nil, Res.bind_ok, Out.ofR_ok, List.map_cons, List.map_nil, List.replicate_succ, List.replicate_zero, Nat.reduceSub, List.cons_append, List.nil_append]
    rw [ownK_l (by simp)]
    by_cases hb : (1000000000000000000 : Int) ≤ c
    · simp [hb, r1]
      rw [seq_as]
      refine Is.for (fun j e => K1 c k j e) ⟨[], c, _, rfl, rfl, fun x h => by simp at h⟩ ?_ ?_
      · rintro j x e hx ⟨l, r, s5, rfl, g1, g2⟩
        obtain ⟨hj, rfl⟩ := rng_get hx
        have hz : l.length < line := by unfold line; omega
        simp [turnB, bindT, b23_1, hz]
        exact ⟨l ++ [r % 1000], _, _, by rw [il_snoc], by simp [g1], g2.snoc r⟩
      · rintro e ⟨l, r, s5, rfl, g1, g2⟩
        simp
        exact ⟨l, rfl, by rw [g1, rng_len], g2⟩
    · simp [hb, r1]
      refine Is.for (fun j e => K2 c k j e) ⟨[], _, _, _, rfl, rfl, fun x h => by simp at h, Int.emod_nonneg _ (by decide), Int.emod_lt_of_pos _ (by decide)⟩ ?_ ?_
      · rintro j x e hx ⟨l, r, s5, s7, rfl, g1, g2, g3, g4⟩
        obtain ⟨hj, rfl⟩ := rng_get hx
        have hz : l.length < line := by unfold line; omega
        have m0 : 0 ≤ (r * 16807 + (0 + (j : Int)) * 7919 + 13) % 2147483647 := Int.emod_nonneg _ (by decide)
        have m1 : (r * 16807 + (0 + (j : Int)) * 7919 + 13) % 2147483647 < 2147483647 := Int.emod_lt_of_pos _ (by decide)
        simp only [Int.zero_add] at m0 m1
        simp [turnB, bindT, b23_2, hz]
        generalize (r * 16807 + (j : Int) * 7919 + 13) % 2147483647 = m at *
        have mm : binK .mul (.int m) (.int m) = .ok (.int (m * m)) := binK_mul (.inl (by omega))
        simp [mm, hz]
        exact ⟨l ++ [_], _, _, _, by rw [il_snoc], by simp [g1], g2.snoc _, m0, m1⟩
      · rintro e ⟨l, r, s5, s7, rfl, g1, g2, g3, g4⟩
        simp
        exact ⟨l, rfl, by rw [g1, rng_len], g2⟩
  obtain ⟨x, h, l, rfl, h2⟩ := this
  exact ⟨l, (phi_succ rfl).trans h, h2⟩
/-! ### entries, tables -/
theorem c_entry {l : List Int} (hl : l.length = 24) (hs : Sm l) (k : Nat) : ∃ y : Int, phi TB F (n + 1) 24 [.list (il l), .int (k : Nat)] = .ok (.int y) := by
  have : ∃ x, Fdef.run ⟨2, 3, b24⟩ (phi TB F n) F [.list (il l), .int (k : Nat)] = .ok x ∧ ∃ y : Int, x = .int y := by
    refine run_of rfl ?_
    have m0 : 0 ≤ (k : Int) % 24 := Int.emod_nonneg _ (by decide)
    have m1 : (k : Int) % 24 < 24 := Int.emod_lt_of_pos _ (by decide)
    obtain ⟨p, hp, ep⟩ := pickI (l := l) (z := (k : Int) % 24) m0 (by omega)
    have sp := hs p hp
    by_cases h : p % 11 = 5
    · have mu := binK_mul (i := p - 500) (j := 100000000000000000) (.inl (by omega))
      simp [b24, hl, ep, h, mu]
    · obtain ⟨q, hq, eq⟩ := pickI (l := [p % 61 - 30, p % 7 - 3, 0]) (z := p / 61 % 3) (Int.emod_nonneg _ (by decide)) (Int.emod_lt_of_pos _ (by decide))
      simp only [List.map_cons, List.map_nil] at eq
      simp [b24, hl, ep, h, eq]
  obtain ⟨x, h, y, rfl⟩ := this
  exact ⟨y, (phi_succ rfl).trans h⟩
theorem c_entries {l : List Int} (hl : l.length = 24) (hs : Sm l) : ∃ g : Nat → Int, ∀ k, phi TB F (n + 1) 24 [.list (il l), .int (k : Nat)] = .ok (.int (g k)) :=
  ⟨fun k => (c_entry (F := F) (n := n) hl hs k).choose, fun k => (c_entry (F := F) (n := n) hl hs k).choose_spec⟩
def KT (l : List Int) (f : Int) (i : Nat) (e : Sl) : Prop := ∃ (rows : List R4) (s4 s5 : Slot), e = [.d (.list (il l)), .d (.int 0), .d (.int f), .ol (rows.map rwD), s4, s5, .un] ∧ rows.length = i ∧ isOwn s4 = false ∧ isOwn s5 = false
theorem c_table {l : List Int} (hl : l.length = 24) (hs : Sm l) : ∃ T : T9, phi TB F (n + 2) 25 [.list (il l), .int 0] = .ok (tbD T) := by
  obtain ⟨g, hg⟩ := c_entries (F := F) (n := n) hl hs
  have : ∃ x, Fdef.run ⟨2, 7, b25⟩ (phi TB F (n + 1)) F [.list (il l), .int 0] = .ok x ∧ ∃ T : T9, x = tbD T := by
    refine run_of rfl ?_
    have r1 : srcK .rng [.int 3] = .ok (rngD 0 3) := srcK_rn (n := 3) (by decide)
    obtain ⟨p, hp, ep⟩ := pickI (l := l) (z := 0) (by omega) (by omega)
    obtain ⟨f, hf, ef⟩ := pickI (l := [1, 1, 1, 2, 3, 6]) (z := p % 6) (Int.emod_nonneg _ (by decide)) (Int.emod_lt_of_pos _ (by decide))
    have hf2 : f.natAbs < 18446744073709551616 := by
      simp only [List.mem_cons, List.not_mem_nil, or_false] at hf
      omega
    simp only [List.map_cons, List.map_nil] at ef
    simp [b25, hl, ep, ef, r1]
    refine Is.for (fun j e => KT l f j e) ⟨[], _, _, rfl, rfl, rfl, rfl⟩ ?_ ?_
    · rintro j x e hx ⟨rows, s4, s5, rfl, g1, f4, f5⟩
      obtain ⟨hj, rfl⟩ := rng_get hx
      rw [Int.zero_add]
      have hE : ∀ k : Nat, ev (phi TB F (n + 1)) x25_1 [.d (.list (il l)), .d (.int 0), .d (.int f), .ol (rows.map rwD), .d (.int (j : Nat)), s5, .d (.int (k : Nat))] = .ok (.int (f * g (4 * j + k))) := fun k => by
        have q := hg (4 * j + k)
        rw [Int.natCast_add, Int.natCast_mul] at q
        have mu := binK_mul (i := f) (j := g (4 * j + k)) (.inl hf2)
        simp [x25_1, q, mu]
        rw [show (4 : Int) = ((4 : Nat) : Int) from rfl, q]
        simp [mu]
      have hc : compK (phi TB F (n + 1)) x25_1 (.nm 6) [] [.d (.list (il l)), .d (.int 0), .d (.int f), .ol (rows.map rwD), .d (.int (j : Nat)), s5, .un] (rngD 0 3) = .ok (.list [.int (f * g (4 * j + 0)), .int (f * g (4 * j + 1)), .int (f * g (4 * j + 2))]) := by
        have hz : decide ((rngD 0 3).length ≤ line) = true := decide_eq_true (by unfold line; simp)
        have hff : Rf.freeOf [.d (.list (il l)), .d (.int 0), .d (.int f), .ol (rows.map rwD), .d (.int (j : Nat)), s5, .un] (Tgt.nm 6).ix = true := rfl
        have hw : wipeS [.d (.list (il l)), .d (.int 0), .d (.int f), .ol (rows.map rwD), .d (.int (j : Nat)), s5, .un] (Tgt.nm 6).ix = [.d (.list (il l)), .d (.int 0), .d (.int f), .ol (rows.map rwD), .d (.int (j : Nat)), s5, .un] := rfl
        have hr : rngD 0 3 = [.int ((0 : Nat) : Int), .int ((1 : Nat) : Int), .int ((2 : Nat) : Int)] := rfl
        have hb : ∀ k : Nat, bindT (.nm 6) (.int (k : Nat)) [.d (.list (il l)), .d (.int 0), .d (.int f), .ol (rows.map rwD), .d (.int (j : Nat)), s5, .un] = some [.d (.list (il l)), .d (.int 0), .d (.int f), .ol (rows.map rwD), .d (.int (j : Nat)), s5, .d (.int (k : Nat))] := fun k => rfl
        unfold compK
        rw [hw, hz, hff]
        rw [hr]
        simp only [compL, hb, et_nil, Res.bind_ok, if_true, hE]
        rfl
      have hz : rows.length < line := by unfold line; omega
      have q3 := hg (4 * j + 3)
      rw [Int.natCast_add, Int.natCast_mul] at q3
      have q3 : phi TB F (n + 1) 24 [.list (il l), .int (4 * (j : Int) + 3)] = .ok (.int (g (4 * j + 3))) := q3
      have ad : binK .add (.list [.int (f * g (4 * j + 0)), .int (f * g (4 * j + 1)), .int (f * g (4 * j + 2))]) (.list [.int (g (4 * j + 3))]) = .ok (.list [.int (f * g (4 * j + 0)), .int (f * g (4 * j + 1)), .int (f * g (4 * j + 2)), .int (g (4 * j + 3))]) := binK_lst (by simp)
      have hb : turnB (Rf.execs (phi TB F (n + 1)) F b25_2) (.nm 4) (.int (j : Nat)) [.d (.list (il l)), .d (.int 0), .d (.int f), .ol (rows.map rwD), s4, s5, .un] = .nx [.d (.list (il l)), .d (.int 0), .d (.int f), .ol (rows.map rwD ++ [rwD (f * g (4 * j + 0), f * g (4 * j + 1), f * g (4 * j + 2), g (4 * j + 3))]), .d (.int (j : Nat)), .d (.list [.int (f * g (4 * j + 0)), .int (f * g (4 * j + 1)), .int (f * g (4 * j + 2))]), .un] := by
        simp only [turnB, bindT, List.length_cons, List.length_nil, Nat.reduceAdd, Nat.reduceLT, if_true, List.set_cons_succ, List.set_cons_zero]
        simp [b25_2, r1, hc, q3, ad, hz]
        rfl
      rw [hb, Turn_nx]
      exact ⟨rows ++ [_], _, _, by rw [List.map_append]; rfl, by simp [g1], rfl, rfl⟩
    · rintro e ⟨rows, s4, s5, rfl, g1, f4, f5⟩
      rw [rng_len] at g1
      obtain ⟨a, b, c, rfl⟩ : ∃ a b c, rows = [a, b, c] := by
        match rows, g1 with
        | [a, b, c], _ => exact ⟨a, b, c, rfl⟩
      simp
      exact ⟨a.1, a.2.1, a.2.2.1, a.2.2.2, b.1, b.2.1, b.2.2.1, b.2.2.2, c.1, c.2.1, c.2.2.1, c.2.2.2, rfl⟩
  obtain ⟨x, h, T, rfl⟩ := this
  exact ⟨T, (phi_succ rfl).trans h⟩
/-! ### _law_turned -/
theorem mul_in {x m s : Int} (h0 : 0 ≤ s) (h1 : s < m) (h2 : m ≤ 12) : binK .mul (.int x) (.int s) = .ok (.int (x * s)) := binK_mulr (by omega)
theorem row_tot {r : R4} {s : S3} {m : Int} : (r.2.2.2 + r.1 * s.1 + r.2.1 * s.2.1 + r.2.2.1 * s.2.2) % m = rowv r s m := by
  unfold rowv
  generalize r.1 * s.1 = a
  generalize r.2.1 * s.2.1 = b
  generalize r.2.2.1 * s.2.2 = c
  congr 1
  omega
theorem lturn {T : T9} {m : Int} {s : S3} (h1 : 1 ≤ m) (h2 : m ≤ 12) (hs : In m s) {r : R4} {out : List Rf.D} (ho : out.length ≤ 3) {s4 s5 s6 : Slot} : turnB (Rf.execs Φ F b26_2) (.nm 4) (rwD r) [.d (tbD T), .d (stD s), .d (.int m), .ol out, s4, s5, s6] = .nx [.d (tbD T), .d (stD s), .d (.int m), .ol (out ++ [.int (rowv r s m)]), .d (rwD r), .d (.int (r.2.2.2 + r.1 * s.1 + r.2.1 * s.2.1 + r.2.2.1 * s.2.2)), .d (.int 2)] := by
  have r1 : srcK .rng [.int 3] = .ok [.int 0, .int 1, .int 2] := srcK_rn (n := 3) (by decide)
  have m1 := mul_in (x := r.1) hs.a0 hs.a1 h2
  have m2 := mul_in (x := r.2.1) hs.b0 hs.b1 h2
  have m3 := mul_in (x := r.2.2.1) hs.c0 hs.c1 h2
  have o := binK_mod (i := r.2.2.2 + r.1 * s.1 + r.2.1 * s.2.1 + r.2.2.1 * s.2.2) (show (0 : Int) < m by omega)
  rw [row_tot] at o
  have hz : out.length < line := by unfold line; omega
  have hb : ∀ (x : Int) (t a b : Int) (s6 : Slot) (k : Int), idxK (rwD r) (.int k) = .ok (.int a) → idxK (stD s) (.int k) = .ok (.int b) → binK .mul (.int a) (.int b) = .ok (.int (a * b)) → turnB (Rf.execs Φ F b26_1) (.nm 6) (.int k) [.d (tbD T), .d (stD s), .d (.int m), .ol out, .d (rwD r), .d (.int t), s6] = .nx [.d (tbD T), .d (stD s), .d (.int m), .ol out, .d (rwD r), .d (.int (t + a * b)), .d (.int k)] := fun x t a b s6 k i1 i2 i3 => by
    simp only [turnB, bindT, List.length_cons, List.length_nil, Nat.reduceAdd, Nat.reduceLT, if_true, List.set_cons_succ, List.set_cons_zero]
    simp [b26_1, i1, i2, i3]
  have hl : ∀ t : Int, forL (Rf.execs Φ F b26_1) (.nm 6) [.int 0, .int 1, .int 2] [.d (tbD T), .d (stD s), .d (.int m), .ol out, .d (rwD r), .d (.int t), s6] = .nx [.d (tbD T), .d (stD s), .d (.int m), .ol out, .d (rwD r), .d (.int (t + r.1 * s.1 + r.2.1 * s.2.1 + r.2.2.1 * s.2.2)), .d (.int 2)] := fun t => by
    have q1 := hb 0 t r.1 s.1 s6 0 i40 i30 m1
    have q2 := hb 0 (t + r.1 * s.1) r.2.1 s.2.1 (.d (.int 0)) 1 i41 i31 m2
    have q3 := hb 0 (t + r.1 * s.1 + r.2.1 * s.2.1) r.2.2.1 s.2.2 (.d (.int 1)) 2 i42 i32 m3
    simp only [turnB, bindT, List.length_cons, List.length_nil, Nat.reduceAdd, Nat.reduceLT, if_true, List.set_cons_succ, List.set_cons_zero] at q1 q2 q3
    simp only [forL, bindT, List.length_cons, List.length_nil, Nat.reduceAdd, Nat.reduceLT, if_true, List.set_cons_succ, List.set_cons_zero, q1, q2, q3, Out.turn_nx]
  simp only [turnB, bindT, List.length_cons, List.length_nil, Nat.reduceAdd, Nat.reduceLT, if_true, List.set_cons_succ, List.set_cons_zero]
  simp [b26_2, i43, r1, hl, o, hz, -binK_mod]
theorem c_lturned {T : T9} {m : Int} {s : S3} (h1 : 1 ≤ m) (h2 : m ≤ 12) (hs : In m s) : phi TB F (n + 1) 26 [tbD T, stD s, .int m] = .ok (stD (step T m s)) := by
  refine (phi_succ rfl).trans (run_ret rfl ?_)
  have hsr : srcK .tup [tbD T] = .ok [rwD T.1, rwD T.2.1, rwD T.2.2] := rfl
  have q1 := lturn (Φ := phi TB F n) (F := F) (T := T) h1 h2 hs (r := T.1) (out := []) (by simp) (s4 := .un) (s5 := .un) (s6 := .un)
  have q2 := fun s5 s6 => lturn (Φ := phi TB F n) (F := F) (T := T) h1 h2 hs (r := T.2.1) (out := [.int (rowv T.1 s m)]) (by simp) (s4 := .un) (s5 := s5) (s6 := s6)
  have q3 := fun s5 s6 => lturn (Φ := phi TB F n) (F := F) (T := T) h1 h2 hs (r := T.2.2) (out := [.int (rowv T.1 s m), .int (rowv T.2.1 s m)]) (by simp) (s4 := .un) (s5 := s5) (s6 := s6)
  simp only [turnB, bindT, List.length_cons, List.length_nil, Nat.reduceAdd, Nat.reduceLT, if_true, List.set_cons_succ, List.set_cons_zero] at q1 q2 q3
  show Rf.execs (phi TB F n) F b26 [.d (tbD T), .d (stD s), .d (.int m), .un, .un, .un, .un] = _
  simp only [b26, x_cons, x_own, e_lst, es_nil, Res.bind_ok, Out.ofR_ok]
  rw [ownK_l (by simp)]
  simp only [Out.seq_nx, x_cons, x_for, es_cons, es_nil, e_var, List.set_cons_succ, List.set_cons_zero, List.getElem?_cons_zero, varK_d, Res.bind_ok, hsr, Out.ofR_ok]
  simp only [forL, bindT, List.length_cons, List.length_nil, Nat.reduceAdd, Nat.reduceLT, if_true, List.set_cons_succ, List.set_cons_zero, q1, q2, q3, Out.turn_nx, List.nil_append, List.cons_append]
  simp only [x_nil, Out.seq_nx, x_cons, x_ret, e_blt, es_cons, es_nil, e_vw, List.getElem?_cons_succ, List.getElem?_cons_zero, vwK_l, Res.bind_ok, bltK_tupL, Out.ofR_ok, Out.seq_ret]
  rfl
end
end My

set_option Elab.async false
set_option linter.all false
set_option maxRecDepth 100000
set_option maxHeartbeats 2000000
namespace My
open PySem PySem.Spec PyProof.Rows L2 Rf
section
variable {Φ : FT} {F n : Nat}
/-! ### _law_cycle -/
def JL (T : T9) (m : Int) (s : S3) (i : Nat) (e : Sl) : Prop := ∃ s5 s6 : Slot, e = [.d (tbD T), .d (stD s), .d (.int m), .ol (sl (sq T m s) (i + 1)), .ot (sd (sq T m s) (i + 1)), s5, s6, .un] ∧ ∀ a b, a < b → b < i + 1 → sq T m s a ≠ sq T m s b
theorem last_sl {f : Nat → S3} {i : Nat} : idxK (.list (sl f (i + 1))) (.int (-1)) = .ok (stD (f i)) := by
  have e : idxD (.list (sl f (i + 1))) (.int (-1)) = some (stD (f i)) := by
    show L2.atI _ _ = _
    unfold L2.atI L2.ixN
    rw [sl_len, if_neg (by decide), if_pos (by omega)]
    show (sl f (i + 1))[(-1 + ((i + 1 : Nat) : Int)).toNat]? = _
    rw [show (-1 + ((i + 1 : Nat) : Int)).toNat = i by omega]
    unfold sl
    rw [List.getElem?_map, List.getElem?_range (by omega)]
    rfl
  rw [idxK, e]; rfl
theorem lred {m : Int} {s : S3} (h1 : 1 ≤ m) {A B : Slot} : compK Φ x27_1 (.nm 7) [] [A, B, .d (.int m), .un, .un, .un, .un, .un] [.int s.1, .int s.2.1, .int s.2.2] = .ok (.list [.int (s.1 % m), .int (s.2.1 % m), .int (s.2.2 % m)]) := by
  have hb : ∀ x : Int, bindT (.nm 7) (.int x) [A, B, .d (.int m), .un, .un, .un, .un, .un] = some [A, B, .d (.int m), .un, .un, .un, .un, .d (.int x)] := fun x => rfl
  have hE : ∀ x : Int, ev Φ x27_1 [A, B, .d (.int m), .un, .un, .un, .un, .d (.int x)] = .ok (.int (x % m)) := fun x => by
    have o := binK_mod (i := x) (show (0 : Int) < m by omega)
    simp [x27_1, o, -binK_mod]
  have hz : decide (([.int s.1, .int s.2.1, .int s.2.2] : List Rf.D).length ≤ line) = true := decide_eq_true (by unfold line; simp)
  have hf : Rf.freeOf [A, B, .d (.int m), .un, .un, .un, .un, .un] (Tgt.nm 7).ix = true := rfl
  have hw : wipeS [A, B, .d (.int m), .un, .un, .un, .un, .un] (Tgt.nm 7).ix = [A, B, .d (.int m), .un, .un, .un, .un, .un] := rfl
  unfold compK
  rw [hw, hz, hf]
  simp only [compL, hb, et_nil, Res.bind_ok, if_true, hE]
  rfl
theorem srcK_r12 : srcK .rng [.int 1, .int 1730] = .ok (rngD 1 1729) := rfl
theorem c_lcycle {T : T9} {m : Int} (s : S3) (h1 : 1 ≤ m) (h2 : m ≤ 12) {L l : Nat} (hc : Cyc (sq T m s) L l) : phi TB F (n + 2) 27 [tbD T, stD s, .int m] = .ok (.tuple [.list (sl (sq T m s) L), .int (l : Nat), .int ((L - l : Nat) : Int)]) := by
  have : ∃ x, Fdef.run ⟨3, 8, b27⟩ (phi TB F (n + 1)) F [tbD T, stD s, .int m] = .ok x ∧ x = .tuple [.list (sl (sq T m s) L), .int (l : Nat), .int ((L - l : Nat) : Int)] := by
    refine run_of rfl ?_
    have hsr : srcK .tup [stD s] = .ok [.int s.1, .int s.2.1, .int s.2.2] := rfl
    have hcm := lred (Φ := phi TB F (n + 1)) (s := s) h1 (A := .d (tbD T)) (B := .d (stD s))
    have e0 : PyData.tuple [.int (s.1 % m), .int (s.2.1 % m), .int (s.2.2 % m)] = stD (sq T m s 0) := rfl
    show Is _ (Rf.execs (phi TB F (n + 1)) F b27 [.d (tbD T), .d (stD s), .d (.int m), .un, .un, .un, .un, .un])
    simp only [b27, x_cons, x_own, e_lst, e_blt, es_cons, es_nil, e_comp, e_var, List.getElem?_cons_succ, List.getElem?_cons_zero, varK_d, Res.bind_ok, hsr, hcm, bltK_tupL, Out.ofR_ok, e0]
    rw [ownK_l (by simp)]
    have i0 : idxK (.list [stD (sq T m s 0)]) (.int 0) = .ok (stD (sq T m s 0)) := rfl
    simp only [Out.seq_nx, x_cons, x_towp, e_idx, e_vw, e_con, List.set_cons_succ, List.set_cons_zero, List.getElem?_cons_succ, List.getElem?_cons_zero, vwK_l, Res.bind_ok, i0, Out.ofR_ok]
    rw [towpK_ok tkey_st (by simp)]
    simp only [Out.seq_nx, x_cons, x_for, es_cons, es_nil, e_con, Res.bind_ok, srcK_r12, Out.ofR_ok, List.set_cons_succ, List.set_cons_zero]
    refine Is.for (fun i e => JL T m s i e) ⟨_, _, rfl, fun a b hab hb => by omega⟩ ?_ ?_
    · rintro i x e hx ⟨s5, s6, rfl, ne⟩
      obtain ⟨hj, rfl⟩ := rng_get hx
      have hi := sq_few (by omega) h2 ne
      have ls := last_sl (f := sq T m s) (i := i)
      have ct := c_lturned (F := F) (n := n) (T := T) h1 h2 (sq_in (T := T) (s := s) (by omega) i)
      have st : step T m (sq T m s i) = sq T m s (i + 1) := rfl
      rw [st] at ct
      simp only [turnB, bindT, List.length_cons, List.length_nil, Nat.reduceAdd, Nat.reduceLT, if_true, List.set_cons_succ, List.set_cons_zero]
      by_cases hh : ∃ j, j < i + 1 ∧ sq T m s j = sq T m s (i + 1)
      · obtain ⟨j, j1, j2⟩ := hh
        have lk := look_hit ne j1
        rw [j2] at lk
        have v1 : tinV (sd (sq T m s) (i + 1)) (stD (sq T m s (i + 1))) = .ok (.bool true) := by
          unfold tinV; rw [if_pos tkey_st, lk]; rfl
        have v2 : tgetV (sd (sq T m s) (i + 1)) (stD (sq T m s (i + 1))) = .ok (.int (j : Int)) := by
          unfold tgetV; rw [if_pos tkey_st, lk]; rfl
        obtain ⟨rfl, rfl⟩ := hc.uniq ⟨j1, j2.symm, ne, hi⟩
        have sb : binK .sub (.int (1 + (i : Int))) (.int (l : Nat)) = .ok (.int ((i + 1 - l : Nat) : Int)) := by
          rw [binK_sub]
          congr 2
          omega
        simp [b27_2, ls, ct, v1, v2, sb, -binK_sub]
        exact rfl
      · have lk := look_no (f := sq T m s) (i := i + 1) (s := sq T m s (i + 1)) fun j hj e => hh ⟨j, hj, e⟩
        have v1 : tinV (sd (sq T m s) (i + 1)) (stD (sq T m s (i + 1))) = .ok (.bool false) := by
          unfold tinV; rw [if_pos tkey_st, lk]; rfl
        have ts := fun e => tsetK_ok (i := 4) (e := e) (kvs := sd (sq T m s) (i + 1)) (x := .int (1 + (i : Int))) (k := stD (sq T m s (i + 1))) tkey_st (by rw [sd_len]; unfold line; omega)
        have pe : putD (sd (sq T m s) (i + 1)) (stD (sq T m s (i + 1))) (.int (1 + (i : Int))) = sd (sq T m s) (i + 1 + 1) := by
          rw [← put_sd lk, show (1 + (i : Int)) = ((i + 1 : Nat) : Int) by omega]
        rw [pe] at ts
        have hl2 : (sl (sq T m s) (i + 1)).length < line := by rw [sl_len]; unfold line; omega
        have hb : Rf.execs (phi TB F (n + 1)) F b27_2 [.d (tbD T), .d (stD s), .d (.int m), .ol (sl (sq T m s) (i + 1)), .ot (sd (sq T m s) (i + 1)), .d (.int (1 + (i : Int))), s6, .un] = .nx [.d (tbD T), .d (stD s), .d (.int m), .ol (sl (sq T m s) (i + 1 + 1)), .ot (sd (sq T m s) (i + 1 + 1)), .d (.int (1 + (i : Int))), .d (stD (sq T m s (i + 1))), .un] := by
          simp [b27_2, ls, ct, v1, ts, hl2, sl_snoc]
        rw [hb, Turn_nx]
        refine ⟨_, _, rfl, fun a b hab hb => ?_⟩
        rcases Nat.lt_or_eq_of_le (Nat.le_of_lt_succ hb) with h | h
        · exact ne a b hab h
        · subst h
          exact fun e => hh ⟨a, hab, e⟩
    · rintro e ⟨s5, s6, rfl, ne⟩
      rw [rng_len] at ne
      have := sq_few (by omega) h2 ne
      omega
  obtain ⟨x, h, rfl⟩ := this
  exact (phi_succ rfl).trans h
/-! ### _law_refused -/
theorem x_tri {i : Nat} {body : List Stm} {ok : List Nat} {r : List (Nat × Rf.D)} {e e2 : Sl} {c : Nat} {x : Rf.D} (h : Rf.execs Φ F body e = .ex c e2) (hr : r.lookup c = some x) (hl : i < e2.length) : Rf.exec Φ F (.tri i body ok r) e = .ret x := by
  simp only [Rf.exec, h, hr, if_pos hl]
def T0 : T9 := ((1, 0, 0, 0), (0, 1, 0, 0), (0, 0, 1, 1))
theorem c_refused (hF : 20000 ≤ F) {d : Nat} {m t : Int} (hd : d ≤ 3) (h : (m < 1 ∨ 12 < m) ∨ ((d = 1 ∨ d = 3) ∧ t < 0)) (t1 : -64 ≤ t) (t2 : t ≤ 64) : phi TB F (n + 13) 28 [.int (d : Nat), .int m, .int t] = .ok (.bool true) := by
  obtain ⟨x, x1, x2, x3⟩ := c_ofS (F := F) (n := n + 2) (by omega) t1 t2
  have x1 : phi TB F (n + 12) 7 [.int t] = .ok x := x1
  have hc : d = 0 ∨ d = 1 ∨ d = 2 ∨ d = 3 := by omega
  refine (phi_succ rfl).trans (run_ret rfl ?_)
  have eT : PyData.tuple [.tuple [.int 1, .int 0, .int 0, .int 0], .tuple [.int 0, .int 1, .int 0, .int 0], .tuple [.int 0, .int 0, .int 1, .int 1]] = tbD T0 := rfl
  simp only [b28, x_cons, List.map_cons, List.map_nil, List.replicate_succ, List.replicate_zero, Nat.reduceSub, List.cons_append, List.nil_append, x_asg, e_tup, es_cons, es_nil, e_con, Res.bind_ok, Out.ofR_ok, eT]
  rw [asgK_nm (by simp)]
  simp only [Out.seq_nx, x_cons, List.set_cons_succ, List.set_cons_zero]
  rcases hc with rfl | rfl | rfl | rfl
  · have q := c_cycleX (F := F) (n := n + 10) (m := m) (x := tbD T0) (y := .tuple [.int 0, .int 0, .int 0]) (by omega)
    rw [x_tri (e2 := [.d (.int 0), .d (.int m), .d (.int t), .d (tbD T0), .un]) (c := 1) (x := .bool true) ?_ rfl (by simp)]
    · rfl
    · simp [x_expr, q]
  · have q := c_behindX (F := F) (n := n + 9) (m := m) (x := tbD T0) (s := .tuple [.int 0, .int 0, .int 0]) x2 (by omega)
    have q : phi TB F (n + 12) 19 [tbD T0, .tuple [.int 0, .int 0, .int 0], x, .int m] = .ex 1 := q
    rw [x_tri (e2 := [.d (.int 1), .d (.int m), .d (.int t), .d (tbD T0), .un]) (c := 1) (x := .bool true) ?_ rfl (by simp)]
    · rfl
    · simp [x_expr, x1, q]
  · have q := c_joinX (F := F) (n := n + 10) (m := m) (x := tbD T0) (y := tbD T0) (by omega)
    rw [x_tri (e2 := [.d (.int 2), .d (.int m), .d (.int t), .d (tbD T0), .un]) (c := 1) (x := .bool true) ?_ rfl (by simp)]
    · rfl
    · simp [x_expr, q]
  · have q := c_tableX (F := F) (n := n + 9) (m := m) (x := tbD T0) x2 (by omega)
    have q : phi TB F (n + 12) 21 [tbD T0, x, .int m] = .ex 1 := q
    rw [x_tri (e2 := [.d (.int 3), .d (.int m), .d (.int t), .d (tbD T0), .un]) (c := 1) (x := .bool true) ?_ rfl (by simp)]
    · rfl
    · simp [x_expr, x1, q]
end
end My

set_option Elab.async false
set_option linter.all false
set_option maxRecDepth 100000
set_option maxHeartbeats 2000000
namespace My
open PySem PySem.Spec PyProof.Rows L2 Rf
section
variable {F n : Nat}
theorem neD_self {x : Rf.D} (h : pl x = true) (d : x.depth ≤ 190) : cmpK .ne x x = .ok (.bool false) := by
  have e : cmpD .ne x x = some false := by
    show (if eqOk x x then some (!PyData.eqv x x) else none) = _
    rw [if_pos (eqOk_pl h h d), PySem.SeqAt.eqv_refl _ (pl_lay h)]; rfl
  rw [cmpK, e]; rfl
theorem start_comp {l : List Int} {g : Nat → Int} (hg : ∀ k, phi TB F (n + 1) 24 [.list (il l), .int (k : Nat)] = .ok (.int (g k))) {A B s3 s4 s5 s6 s7 s8 s9 s10 s11 s12 : Slot} : compK (phi TB F (n + 1)) x29_1 (.nm 13) [] [A, B, .d (.list (il l)), s3, s4, s5, s6, s7, s8, s9, s10, s11, s12, .un] (rngD 0 3) = .ok (.list [.int (g 12), .int (g 13), .int (g 14)]) := by
  have hE : ∀ k : Nat, ev (phi TB F (n + 1)) x29_1 [A, B, .d (.list (il l)), s3, s4, s5, s6, s7, s8, s9, s10, s11, s12, .d (.int (k : Nat))] = .ok (.int (g (12 + k))) := fun k => by
    have q := hg (12 + k)
    rw [Int.natCast_add] at q
    have q : phi TB F (n + 1) 24 [.list (il l), .int (12 + (k : Int))] = .ok (.int (g (12 + k))) := q
    simp [x29_1, q]
  have hz : decide ((rngD 0 3).length ≤ line) = true := decide_eq_true (by unfold line; simp)
  have hf : Rf.freeOf [A, B, .d (.list (il l)), s3, s4, s5, s6, s7, s8, s9, s10, s11, s12, .un] (Tgt.nm 13).ix = true := rfl
  have hw : wipeS [A, B, .d (.list (il l)), s3, s4, s5, s6, s7, s8, s9, s10, s11, s12, .un] (Tgt.nm 13).ix = [A, B, .d (.list (il l)), s3, s4, s5, s6, s7, s8, s9, s10, s11, s12, .un] := rfl
  have hr : rngD 0 3 = [.int ((0 : Nat) : Int), .int ((1 : Nat) : Int), .int ((2 : Nat) : Int)] := rfl
  have hb : ∀ k : Nat, bindT (.nm 13) (.int (k : Nat)) [A, B, .d (.list (il l)), s3, s4, s5, s6, s7, s8, s9, s10, s11, s12, .un] = some [A, B, .d (.list (il l)), s3, s4, s5, s6, s7, s8, s9, s10, s11, s12, .d (.int (k : Nat))] := fun k => rfl
  unfold compK
  rw [hw, hz, hf, hr]
  simp only [compL, hb, et_nil, Res.bind_ok, if_true, hE]
  rfl
def KL (ns : List Int) (i : Nat) (e : Sl) : Prop := ∃ s1 s2 s3 s4 s5 s6 s7 s8 s9 s10 s11 s12 : Slot, e = [.d (.list (il ns)), s1, s2, s3, s4, s5, s6, s7, s8, s9, s10, s11, s12, .un]
theorem law_turn {ns : List Int} (hF : 20000 ≤ F) {i : Nat} {s1 s2 s3 s4 s5 s6 s7 s8 s9 s10 s11 s12 : Slot} : ∃ t2 t3 t4 t5 t6 t7 t8 t9 t10 t11 : Slot, turnB (Rf.execs (phi TB F (n + 60)) F b29_2) (.nm 1) (.int (i : Nat)) [.d (.list (il ns)), s1, s2, s3, s4, s5, s6, s7, s8, s9, s10, s11, s12, .un] = .nx [.d (.list (il ns)), .d (.int (i : Nat)), t2, t3, t4, t5, t6, t7, t8, t9, t10, t11, s12, .un] := by
  obtain ⟨c, c1⟩ := c_cell (F := F) (n := n + 59) (ns := ns) (k := i)
  obtain ⟨l, l1, l2, l3⟩ := c_numbers (F := F) (n := n + 59) (c := c) (k := i)
  obtain ⟨T, hT⟩ := c_table (F := F) (n := n + 58) l2 l3
  obtain ⟨g, hg⟩ := c_entries (F := F) (n := n + 59) l2 l3
  have hcm := fun A B s3 s4 s5 s6 s7 s8 s9 s10 s11 s12 => start_comp (F := F) (n := n + 59) hg (A := A) (B := B) (s3 := s3) (s4 := s4) (s5 := s5) (s6 := s6) (s7 := s7) (s8 := s8) (s9 := s9) (s10 := s10) (s11 := s11) (s12 := s12)
  obtain ⟨s, hs⟩ : ∃ s : S3, PyData.tuple [.int (g 12), .int (g 13), .int (g 14)] = stD s := ⟨(g 12, g 13, g 14), rfl⟩
  obtain ⟨y20, h20, e20⟩ := pickI (l := l) (z := 20) (by omega) (by omega)
  obtain ⟨y21, h21, e21⟩ := pickI (l := l) (z := 21) (by omega) (by omega)
  obtain ⟨y22, h22, e22⟩ := pickI (l := l) (z := 22) (by omega) (by omega)
  obtain ⟨w, hw, ew⟩ := pickI (l := [12, 5]) (z := y21 % 2) (Int.emod_nonneg _ (by decide)) (Int.emod_lt_of_pos _ (by decide))
  simp only [List.map_cons, List.map_nil] at ew
  have hw2 : w = 12 ∨ w = 5 := by simpa using hw
  have om2 : binK .mod (.int y21) (.int 2) = .ok (.int (y21 % 2)) := binK_mod (by decide)
  have om3 : binK .mod (.int y22) (.int 61) = .ok (.int (y22 % 61)) := binK_mod (by decide)
  have om := binK_mod (i := y20) (show (0 : Int) < w by omega)
  obtain ⟨m, hm, m1, m2⟩ : ∃ m : Int, 1 + y20 % w = m ∧ 1 ≤ m ∧ m ≤ 12 := ⟨_, rfl, by have := Int.emod_nonneg y20 (show w ≠ 0 by omega); omega, by have := Int.emod_lt_of_pos y20 (show 0 < w by omega); omega⟩
  obtain ⟨L, q, hc, hst⟩ := c_states (F := F) (T := T) s m1 m2 (by omega)
  have hlt := hc.lt
  have cl := c_lcycle (F := F) (n := n + 58) s m1 m2 hc
  have cc := c_cycle (F := F) (n := n + 57) m1 m2 (by omega) hc
  obtain ⟨E, hE⟩ := Int.eq_ofNat_of_zero_le (show 0 ≤ y22 % 61 by omega)
  have hE2 : E ≤ 60 := by omega
  obtain ⟨x, x1, x2, x3⟩ := c_ofS (F := F) (n := n + 50) (by omega) (v := (E : Nat)) (by omega) (by omega)
  have cb := c_behind (F := F) (n := n + 18) (T := T) (s := s) m1 m2 hF x2 x3
  have cf : cmpK .ne (.tuple [.int (q : Nat), .int ((L - q : Nat) : Int)]) (.tuple [.int (q : Nat), .int ((L - q : Nat) : Int)]) = .ok (.bool false) := by
    have hp : pl (.tuple [.int (q : Nat), .int ((L - q : Nat) : Int)]) = true := rfl
    exact neD_self hp (by simp [PyData.depth, PyData.depthAll])
  have cg : ∀ t : S3, cmpK .ne (stD t) (stD t) = .ok (.bool false) := fun t => neD_self (by rfl) (by simp [stD, PyData.depth, PyData.depthAll])
  have ci : isiD 3 (stD (sq T m s E)) = some true := rfl
  have ln : bltK .len [.list (sl (sq T m s) L)] = .ok (.int (L : Nat)) := by rw [bltK_lenL, sl_len]
  have hbt : ∀ A B C D E s9 s10 s11 s12 : Slot, asgK (.tp [(.nm 6), (.nm 7), (.nm 8)]) [.d (.list (il ns)), A, B, C, D, E, s6, s7, s8, s9, s10, s11, s12, .un] (.tuple [.list (sl (sq T m s) L), .int (q : Nat), .int ((L - q : Nat) : Int)]) = .nx [.d (.list (il ns)), A, B, C, D, E, .d (.list (sl (sq T m s) L)), .d (.int (q : Nat)), .d (.int ((L - q : Nat) : Int)), s9, s10, s11, s12, .un] := fun A B C D E s9 s10 s11 s12 => rfl
  have r1 : srcK .rng [.int 3] = .ok (rngD 0 3) := srcK_rn (n := 3) (by decide)
  have l1 : phi TB F (n + 60) 23 [.int c, .int (i : Nat), .int 24] = .ok (.list (il l)) := l1
  have hT : phi TB F (n + 60) 25 [.list (il l), .int 0] = .ok (tbD T) := hT
  have x1 : phi TB F (n + 60) 7 [.int (E : Nat)] = .ok x := x1
  have cl : phi TB F (n + 60) 27 [tbD T, stD s, .int m] = .ok (.tuple [.list (sl (sq T m s) L), .int (q : Nat), .int ((L - q : Nat) : Int)]) := cl
  have cc : phi TB F (n + 60) 17 [tbD T, stD s, .int m] = .ok (.tuple [.int (q : Nat), .int ((L - q : Nat) : Int)]) := cc
  have cb : phi TB F (n + 60) 19 [tbD T, stD s, x, .int m] = .ok (stD (sq T m s E)) := cb
  have hcm : ∀ A B s3 s4 s5 s6 s7 s8 s9 s10 s11 s12, compK (phi TB F (n + 60)) x29_1 (.nm 13) [] [A, B, .d (.list (il l)), s3, s4, s5, s6, s7, s8, s9, s10, s11, s12, .un] (rngD 0 3) = .ok (.list [.int (g 12), .int (g 13), .int (g 14)]) := hcm
  by_cases hEL : E < L
  · have ix := idx_sl (f := sq T m s) hEL
    refine ⟨.d (.list (il l)), .d (tbD T), .d (stD s), .d (.int m), .d (.list (sl (sq T m s) L)), .d (.int (q : Nat)), .d (.int ((L - q : Nat) : Int)), .d (.int (E : Nat)), .d (.int (E : Nat)), .d (stD (sq T m s E)), ?_⟩
    generalize sl (sq T m s) L = R at *
    simp only [turnB, bindT, List.length_cons, List.length_nil, Nat.reduceAdd, Nat.reduceLT, if_true, List.set_cons_succ, List.set_cons_zero]
    simp [b29_2, c1, l1, hT, r1, hcm, hs, e20, e21, e22, ew, om, om2, om3, hm, cl, hbt, cc, cf, hE, ln, show ¬ (L : Int) ≤ (E : Nat) by omega, show ¬ L ≤ E by omega, x1, cb, ci, ix, cg, -bltK_lenL, -binK_mod]
  · have lt1 : q + (E - q) % (L - q) < L := by
      have := Nat.mod_lt (E - q) (show 0 < L - q by omega)
      omega
    have ix := idx_sl (f := sq T m s) lt1
    rw [← hc.period E E rfl (by omega)] at ix
    have Ppos : (0 : Int) < ((L - q : Nat) : Int) := by omega
    have o1 := binK_mod (i := (E : Int) - (q : Int)) Ppos
    have e1 : ((E : Int) - (q : Int)) % ((L - q : Nat) : Int) = (((E - q) % (L - q) : Nat) : Int) := by
      rw [Int.natCast_emod, show ((E - q : Nat) : Int) = (E : Int) - (q : Int) by omega]
    rw [e1] at o1
    rw [show ((q + (E - q) % (L - q) : Nat) : Int) = (q : Int) + (((E - q) % (L - q) : Nat) : Int) by omega] at ix
    refine ⟨.d (.list (il l)), .d (tbD T), .d (stD s), .d (.int m), .d (.list (sl (sq T m s) L)), .d (.int (q : Nat)), .d (.int ((L - q : Nat) : Int)), .d (.int (E : Nat)), .d (.int ((q : Int) + (((E - q) % (L - q) : Nat) : Int))), .d (stD (sq T m s E)), ?_⟩
    generalize sl (sq T m s) L = R at *
    generalize (((E - q) % (L - q) : Nat) : Int) = z at *
    generalize ((L - q : Nat) : Int) = P at *
    simp only [turnB, bindT, List.length_cons, List.length_nil, Nat.reduceAdd, Nat.reduceLT, if_true, List.set_cons_succ, List.set_cons_zero]
    simp [b29_2, c1, l1, hT, r1, hcm, hs, e20, e21, e22, ew, om, om2, om3, hm, cl, hbt, cc, cf, hE, ln, show (L : Int) ≤ (E : Nat) by omega, show L ≤ E by omega, o1, x1, cb, ci, ix, cg, -bltK_lenL, -binK_mod]
end
end My

set_option Elab.async false
set_option linter.all false
set_option maxRecDepth 100000
set_option maxHeartbeats 2000000
namespace My
open PySem PySem.Spec PyProof.Rows L2 Rf
section
variable {F n : Nat}
def KD (ns : List Int) (i : Nat) (e : Sl) : Prop := ∃ s1 s2 s3 s4 s5 s6 s7 s8 s9 s10 s11 s12 : Slot, e = [.d (.list (il ns)), s1, s2, s3, s4, s5, s6, s7, s8, s9, s10, s11, s12, .un]
def KE (ns : List Int) (m : Int) (i : Nat) (e : Sl) : Prop := ∃ s1 s2 s3 s4 s6 s7 s8 s9 s10 s11 s12 : Slot, e = [.d (.list (il ns)), s1, s2, s3, s4, .d (.int m), s6, s7, s8, s9, s10, s11, s12, .un]
theorem law_run (ns : List Int) (hn : ns.length ≤ 63) : Fdef.run ⟨1, 14, b29⟩ (phi TB 20000 60) 20000 [.list (il ns)] = .ok (.bool true) := by
  have : ∃ x, Fdef.run ⟨1, 14, b29⟩ (phi TB 20000 60) 20000 [.list (il ns)] = .ok x ∧ x = .bool true := by
    refine run_of rfl ?_
    obtain ⟨t, ht, ht2⟩ : ∃ t : Nat, (bltK .min [.int (ns.length : Nat), .int 5]).bind (fun y => bltK .max [.int 1, y]) = .ok (.int (t : Nat)) ∧ t ≤ 5 := by
      rw [bltK_min, Res.bind_ok, bltK_max]
      by_cases h : (5 : Int) < (ns.length : Nat)
      · exact ⟨5, by rw [if_pos h]; rfl, by omega⟩
      · rw [if_neg h]
        by_cases h2 : ((ns.length : Nat) : Int) > 1
        · exact ⟨ns.length, by rw [if_pos h2], by omega⟩
        · exact ⟨1, by rw [if_neg h2]; rfl, by omega⟩
    have r1 := srcK_rn (n := t) (by omega)
    have r3 : srcK .rng [.int 4] = .ok (rngD 0 4) := srcK_rn (n := 4) (by decide)
    have rf : ∀ (d : Nat) (m t : Int), d ≤ 3 → ((m < 1 ∨ 12 < m) ∨ ((d = 1 ∨ d = 3) ∧ t < 0)) → -64 ≤ t → t ≤ 64 → phi TB 20000 60 28 [.int (d : Nat), .int m, .int t] = .ok (.bool true) := fun d m t h1 h2 h3 h4 => c_refused (F := 20000) (n := 47) (by decide) h1 h2 h3 h4
    obtain ⟨w, hw1, hw2⟩ : ∃ w : Int, bltK .min [.int (ns.length : Nat), .int 5] = .ok (.int w) ∧ bltK .max [.int 1, .int w] = .ok (.int (t : Nat)) := by
      rw [bltK_min, Res.bind_ok] at ht
      exact ⟨_, bltK_min, ht⟩
    simp [b29, hw1, hw2, r1, -bltK_min, -bltK_max]
    refine Is.for (fun i e => KL ns i e) ⟨_, _, _, _, _, _, _, _, _, _, _, _, rfl⟩ ?_ ?_
    · rintro i x e hx ⟨s1, s2, s3, s4, s5, s6, s7, s8, s9, s10, s11, s12, rfl⟩
      obtain ⟨hi, rfl⟩ := rng_get hx
      rw [Int.zero_add]
      obtain ⟨t2, t3, t4, t5, t6, t7, t8, t9, t10, t11, ht⟩ := law_turn (F := 20000) (n := 0) (ns := ns) (by decide) (i := i) (s1 := s1) (s2 := s2) (s3 := s3) (s4 := s4) (s5 := s5) (s6 := s6) (s7 := s7) (s8 := s8) (s9 := s9) (s10 := s10) (s11 := s11) (s12 := s12)
      rw [Nat.zero_add] at ht
      rw [ht, Turn_nx]
      exact ⟨_, _, _, _, _, _, _, _, _, _, _, _, rfl⟩
    · rintro e ⟨s1, s2, s3, s4, s5, s6, s7, s8, s9, s10, s11, s12, rfl⟩
      have sr : srcK .tup [.tuple [.int 0, .int 13, .int (-5)]] = .ok [.int 0, .int 13, .int (-5)] := rfl
      simp [sr]
      refine Is.for (fun i e => KD ns i e) ⟨_, _, _, _, _, _, _, _, _, _, _, _, rfl⟩ ?_ ?_
      · rintro i x e hx ⟨s1, s2, s3, s4, s5, s6, s7, s8, s9, s10, s11, s12, rfl⟩
        obtain ⟨m, rfl, hm⟩ : ∃ m : Int, x = .int m ∧ (m < 1 ∨ 12 < m) := by
          match i, hx with
          | 0, hx => exact ⟨0, (Option.some.inj hx).symm, by omega⟩
          | 1, hx => exact ⟨13, (Option.some.inj hx).symm, by omega⟩
          | 2, hx => exact ⟨-5, (Option.some.inj hx).symm, by omega⟩
          | i + 3, hx => simp at hx
        simp [turnB, bindT, b29_4, r3]
        refine Is.forE (fun i e => KE ns m i e) ⟨_, _, _, _, _, _, _, _, _, _, _, rfl⟩ ?_ ?_
        · rintro d x e hx ⟨s1, s2, s3, s4, s6, s7, s8, s9, s10, s11, s12, rfl⟩
          obtain ⟨hd, rfl⟩ := rng_get hx
          rw [Int.zero_add]
          have q := rf d m 3 (by omega) (.inl hm) (by omega) (by omega)
          simp [turnB, bindT, b29_3, q]
          exact ⟨_, _, _, _, _, _, _, _, _, _, _, rfl⟩
        · rintro e ⟨s1, s2, s3, s4, s6, s7, s8, s9, s10, s11, s12, rfl⟩
          rw [Turn_nx]
          exact ⟨_, _, _, _, _, _, _, _, _, _, _, _, rfl⟩
      · rintro e ⟨s1, s2, s3, s4, s5, s6, s7, s8, s9, s10, s11, s12, rfl⟩
        have a1 : phi TB 20000 60 28 [.int 1, .int 5, .int (-1)] = .ok (.bool true) := rf 1 5 (-1) (by omega) (.inr ⟨.inl rfl, by decide⟩) (by omega) (by omega)
        have a3 : phi TB 20000 60 28 [.int 3, .int 5, .int (-9)] = .ok (.bool true) := rf 3 5 (-9) (by omega) (.inr ⟨.inr rfl, by decide⟩) (by omega) (by omega)
        simp [a1, a3]
  obtain ⟨x, h, rfl⟩ := this
  exact h
theorem pure_gen (ns : List Int) (hl : ns.length ≤ 63) {m : Nat} (h : m = 60) : phi TB 20000 (m + 1) 29 [.list (il ns)] = .ok (.bool true) := by
  have e : phi TB 20000 (m + 1) 29 [.list (il ns)] = Fdef.run ⟨1, 14, b29⟩ (phi TB 20000 m) 20000 [.list (il ns)] := phi_succ rfl
  rw [e, h]
  exact law_run ns hl
theorem pure_law (ns : List Int) (hl : ns.length ≤ 63) : phi TB 20000 (60 + 1) 29 [.list (ns.map .int)] = .ok (.bool true) := pure_gen ns hl rfl
end
end My

set_option maxRecDepth 100000
set_option maxHeartbeats 2000000
namespace My
open PySem PySem.Spec PyProof.Rows L2 Rf
theorem all_mk {l : PySem.W.OpenLaw} {w : World} {K : PySem.W.Frag} {h : Heap} {mg : Str → Option Value} {fa f0 f1 f2 f3 f4 f5 f6 f7 f8 f9 f10 f11 f12 f13 f14 f15 f16 f17 f18 f19 f20 f21 f22 f23 f24 f25 f26 f27 f28 f29 : Addr} (X : K.In h) (G : h.Ns mainGlobals mg) (hfa : mg "law" = some (.ref fa))
    {od0 an0 od1 an1 od2 an2 od3 an3 od4 an4 od5 an5 od6 an6 od7 an7 od8 an8 od9 an9 od10 an10 od11 an11 od12 an12 od13 an13 od14 an14 od15 an15 od16 an16 od17 an17 od18 an18 od19 an19 od20 an20 od21 an21 od22 an22 od23 an23 od24 an24 od25 an25 od26 an26 od27 an27 od28 an28 od29 an29 : Option Addr} {sl0 sl1 sl2 sl3 sl4 sl5 sl6 sl7 sl8 sl9 sl10 sl11 sl12 sl13 sl14 sl15 sl16 sl17 sl18 sl19 sl20 sl21 sl22 sl23 sl24 sl25 sl26 sl27 sl28 sl29 : Array (Option Value)} {oc0 kV0 dc0 pm0 cd0 ct0 oc1 kV1 dc1 pm1 cd1 ct1 oc2 kV2 dc2 pm2 cd2 ct2 oc3 kV3 dc3 pm3 cd3 ct3 oc4 kV4 dc4 pm4 cd4 ct4 oc5 kV5 dc5 pm5 cd5 ct5 oc6 kV6 dc6 pm6 cd6 ct6 oc7 kV7 dc7 pm7 cd7 ct7 oc8 kV8 dc8 pm8 cd8 ct8 oc9 kV9 dc9 pm9 cd9 ct9 oc10 kV10 dc10 pm10 cd10 ct10 oc11 kV11 dc11 pm11 cd11 ct11 oc12 kV12 dc12 pm12 cd12 ct12 oc13 kV13 dc13 pm13 cd13 ct13 oc14 kV14 dc14 pm14 cd14 ct14 oc15 kV15 dc15 pm15 cd15 ct15 oc16 kV16 dc16 pm16 cd16 ct16 oc17 kV17 dc17 pm17 cd17 ct17 oc18 kV18 dc18 pm18 cd18 ct18 oc19 kV19 dc19 pm19 cd19 ct19 oc20 kV20 dc20 pm20 cd20 ct20 oc21 kV21 dc21 pm21 cd21 ct21 oc22 kV22 dc22 pm22 cd22 ct22 oc23 kV23 dc23 pm23 cd23 ct23 oc24 kV24 dc24 pm24 cd24 ct24 oc25 kV25 dc25 pm25 cd25 ct25 oc26 kV26 dc26 pm26 cd26 ct26 oc27 kV27 dc27 pm27 cd27 ct27 oc28 kV28 dc28 pm28 cd28 ct28 oc29 kV29 dc29 pm29 cd29 ct29 : Value}
    (a0 : PySem.W.nsIn K mainGlobals "size_of" = some (some (.ref f0))) (l0 : K.lookup f0 = some ⟨oc0, od0, .func (PySem.W.fnOf "size_of" "size_of" (defArgs s0) (defBody s0) (defScope s0) .none kV0 dc0 pm0 an0 cd0 ct0), sl0⟩) (c0 : PySem.W.codeIn K cd0 "size_of" = true) (k0 : PySem.W.keepIn K (.ref f0) = true)
    (a1 : PySem.W.nsIn K mainGlobals "height_of" = some (some (.ref f1))) (l1 : K.lookup f1 = some ⟨oc1, od1, .func (PySem.W.fnOf "height_of" "height_of" (defArgs s1) (defBody s1) (defScope s1) .none kV1 dc1 pm1 an1 cd1 ct1), sl1⟩) (c1 : PySem.W.codeIn K cd1 "height_of" = true) (k1 : PySem.W.keepIn K (.ref f1) = true)
    (a2 : PySem.W.nsIn K mainGlobals "compare" = some (some (.ref f2))) (l2 : K.lookup f2 = some ⟨oc2, od2, .func (PySem.W.fnOf "compare" "compare" (defArgs s2) (defBody s2) (defScope s2) .none kV2 dc2 pm2 an2 cd2 ct2), sl2⟩) (c2 : PySem.W.codeIn K cd2 "compare" = true) (k2 : PySem.W.keepIn K (.ref f2) = true)
    (a3 : PySem.W.nsIn K mainGlobals "sign_of" = some (some (.ref f3))) (l3 : K.lookup f3 = some ⟨oc3, od3, .func (PySem.W.fnOf "sign_of" "sign_of" (defArgs s3) (defBody s3) (defScope s3) .none kV3 dc3 pm3 an3 cd3 ct3), sl3⟩) (c3 : PySem.W.codeIn K cd3 "sign_of" = true) (k3 : PySem.W.keepIn K (.ref f3) = true)
    (a4 : PySem.W.nsIn K mainGlobals "from_int" = some (some (.ref f4))) (l4 : K.lookup f4 = some ⟨oc4, od4, .func (PySem.W.fnOf "from_int" "from_int" (defArgs s4) (defBody s4) (defScope s4) .none kV4 dc4 pm4 an4 cd4 ct4), sl4⟩) (c4 : PySem.W.codeIn K cd4 "from_int" = true) (k4 : PySem.W.keepIn K (.ref f4) = true)
    (a5 : PySem.W.nsIn K mainGlobals "is_allowed" = some (some (.ref f5))) (l5 : K.lookup f5 = some ⟨oc5, od5, .func (PySem.W.fnOf "is_allowed" "is_allowed" (defArgs s5) (defBody s5) (defScope s5) .none kV5 dc5 pm5 an5 cd5 ct5), sl5⟩) (c5 : PySem.W.codeIn K cd5 "is_allowed" = true) (k5 : PySem.W.keepIn K (.ref f5) = true)
    (a6 : PySem.W.nsIn K mainGlobals "allowed" = some (some (.ref f6))) (l6 : K.lookup f6 = some ⟨oc6, od6, .func (PySem.W.fnOf "allowed" "allowed" (defArgs s6) (defBody s6) (defScope s6) .none kV6 dc6 pm6 an6 cd6 ct6), sl6⟩) (c6 : PySem.W.codeIn K cd6 "allowed" = true) (k6 : PySem.W.keepIn K (.ref f6) = true)
    (a7 : PySem.W.nsIn K mainGlobals "of_int" = some (some (.ref f7))) (l7 : K.lookup f7 = some ⟨oc7, od7, .func (PySem.W.fnOf "of_int" "of_int" (defArgs s7) (defBody s7) (defScope s7) .none kV7 dc7 pm7 an7 cd7 ct7), sl7⟩) (c7 : PySem.W.codeIn K cd7 "of_int" = true) (k7 : PySem.W.keepIn K (.ref f7) = true)
    (a8 : PySem.W.nsIn K mainGlobals "power_of_two" = some (some (.ref f8))) (l8 : K.lookup f8 = some ⟨oc8, od8, .func (PySem.W.fnOf "power_of_two" "power_of_two" (defArgs s8) (defBody s8) (defScope s8) .none kV8 dc8 pm8 an8 cd8 ct8), sl8⟩) (c8 : PySem.W.codeIn K cd8 "power_of_two" = true) (k8 : PySem.W.keepIn K (.ref f8) = true)
    (a9 : PySem.W.nsIn K mainGlobals "to_int" = some (some (.ref f9))) (l9 : K.lookup f9 = some ⟨oc9, od9, .func (PySem.W.fnOf "to_int" "to_int" (defArgs s9) (defBody s9) (defScope s9) .none kV9 dc9 pm9 an9 cd9 ct9), sl9⟩) (c9 : PySem.W.codeIn K cd9 "to_int" = true) (k9 : PySem.W.keepIn K (.ref f9) = true)
    (a10 : PySem.W.nsIn K mainGlobals "check_modulus_remainders" = some (some (.ref f10))) (l10 : K.lookup f10 = some ⟨oc10, od10, .func (PySem.W.fnOf "check_modulus" "check_modulus" (defArgs s10) (defBody s10) (defScope s10) .none kV10 dc10 pm10 an10 cd10 ct10), sl10⟩) (c10 : PySem.W.codeIn K cd10 "check_modulus" = true) (k10 : PySem.W.keepIn K (.ref f10) = true)
    (a11 : PySem.W.nsIn K mainGlobals "row_of_two" = some (some (.ref f11))) (l11 : K.lookup f11 = some ⟨oc11, od11, .func (PySem.W.fnOf "row_of_two" "row_of_two" (defArgs s11) (defBody s11) (defScope s11) .none kV11 dc11 pm11 an11 cd11 ct11), sl11⟩) (c11 : PySem.W.codeIn K cd11 "row_of_two" = true) (k11 : PySem.W.keepIn K (.ref f11) = true)
    (a12 : PySem.W.nsIn K mainGlobals "remainder" = some (some (.ref f12))) (l12 : K.lookup f12 = some ⟨oc12, od12, .func (PySem.W.fnOf "remainder" "remainder" (defArgs s12) (defBody s12) (defScope s12) .none kV12 dc12 pm12 an12 cd12 ct12), sl12⟩) (c12 : PySem.W.codeIn K cd12 "remainder" = true) (k12 : PySem.W.keepIn K (.ref f12) = true)
    (a13 : PySem.W.nsIn K mainGlobals "check_modulus_turns" = some (some (.ref f13))) (l13 : K.lookup f13 = some ⟨oc13, od13, .func (PySem.W.fnOf "check_modulus" "check_modulus" (defArgs s13) (defBody s13) (defScope s13) .none kV13 dc13 pm13 an13 cd13 ct13), sl13⟩) (c13 : PySem.W.codeIn K cd13 "check_modulus" = true) (k13 : PySem.W.keepIn K (.ref f13) = true)
    (a14 : PySem.W.nsIn K mainGlobals "check_times" = some (some (.ref f14))) (l14 : K.lookup f14 = some ⟨oc14, od14, .func (PySem.W.fnOf "check_times" "check_times" (defArgs s14) (defBody s14) (defScope s14) .none kV14 dc14 pm14 an14 cd14 ct14), sl14⟩) (c14 : PySem.W.codeIn K cd14 "check_times" = true) (k14 : PySem.W.keepIn K (.ref f14) = true)
    (a15 : PySem.W.nsIn K mainGlobals "turned" = some (some (.ref f15))) (l15 : K.lookup f15 = some ⟨oc15, od15, .func (PySem.W.fnOf "turned" "turned" (defArgs s15) (defBody s15) (defScope s15) .none kV15 dc15 pm15 an15 cd15 ct15), sl15⟩) (c15 : PySem.W.codeIn K cd15 "turned" = true) (k15 : PySem.W.keepIn K (.ref f15) = true)
    (a16 : PySem.W.nsIn K mainGlobals "states_of" = some (some (.ref f16))) (l16 : K.lookup f16 = some ⟨oc16, od16, .func (PySem.W.fnOf "states_of" "states_of" (defArgs s16) (defBody s16) (defScope s16) .none kV16 dc16 pm16 an16 cd16 ct16), sl16⟩) (c16 : PySem.W.codeIn K cd16 "states_of" = true) (k16 : PySem.W.keepIn K (.ref f16) = true)
    (a17 : PySem.W.nsIn K mainGlobals "cycle_of" = some (some (.ref f17))) (l17 : K.lookup f17 = some ⟨oc17, od17, .func (PySem.W.fnOf "cycle_of" "cycle_of" (defArgs s17) (defBody s17) (defScope s17) .none kV17 dc17 pm17 an17 cd17 ct17), sl17⟩) (c17 : PySem.W.codeIn K cd17 "cycle_of" = true) (k17 : PySem.W.keepIn K (.ref f17) = true)
    (a18 : PySem.W.nsIn K mainGlobals "state_at" = some (some (.ref f18))) (l18 : K.lookup f18 = some ⟨oc18, od18, .func (PySem.W.fnOf "state_at" "state_at" (defArgs s18) (defBody s18) (defScope s18) .none kV18 dc18 pm18 an18 cd18 ct18), sl18⟩) (c18 : PySem.W.codeIn K cd18 "state_at" = true) (k18 : PySem.W.keepIn K (.ref f18) = true)
    (a19 : PySem.W.nsIn K mainGlobals "state_behind" = some (some (.ref f19))) (l19 : K.lookup f19 = some ⟨oc19, od19, .func (PySem.W.fnOf "state_behind" "state_behind" (defArgs s19) (defBody s19) (defScope s19) .none kV19 dc19 pm19 an19 cd19 ct19), sl19⟩) (c19 : PySem.W.codeIn K cd19 "state_behind" = true) (k19 : PySem.W.keepIn K (.ref f19) = true)
    (a20 : PySem.W.nsIn K mainGlobals "joined" = some (some (.ref f20))) (l20 : K.lookup f20 = some ⟨oc20, od20, .func (PySem.W.fnOf "joined" "joined" (defArgs s20) (defBody s20) (defScope s20) .none kV20 dc20 pm20 an20 cd20 ct20), sl20⟩) (c20 : PySem.W.codeIn K cd20 "joined" = true) (k20 : PySem.W.keepIn K (.ref f20) = true)
    (a21 : PySem.W.nsIn K mainGlobals "table_behind" = some (some (.ref f21))) (l21 : K.lookup f21 = some ⟨oc21, od21, .func (PySem.W.fnOf "table_behind" "table_behind" (defArgs s21) (defBody s21) (defScope s21) .none kV21 dc21 pm21 an21 cd21 ct21), sl21⟩) (c21 : PySem.W.codeIn K cd21 "table_behind" = true) (k21 : PySem.W.keepIn K (.ref f21) = true)
    (a22 : PySem.W.nsIn K mainGlobals "_law_cell" = some (some (.ref f22))) (l22 : K.lookup f22 = some ⟨oc22, od22, .func (PySem.W.fnOf "_law_cell" "_law_cell" (defArgs s22) (defBody s22) (defScope s22) .none kV22 dc22 pm22 an22 cd22 ct22), sl22⟩) (c22 : PySem.W.codeIn K cd22 "_law_cell" = true) (k22 : PySem.W.keepIn K (.ref f22) = true)
    (a23 : PySem.W.nsIn K mainGlobals "_law_numbers" = some (some (.ref f23))) (l23 : K.lookup f23 = some ⟨oc23, od23, .func (PySem.W.fnOf "_law_numbers" "_law_numbers" (defArgs s23) (defBody s23) (defScope s23) .none kV23 dc23 pm23 an23 cd23 ct23), sl23⟩) (c23 : PySem.W.codeIn K cd23 "_law_numbers" = true) (k23 : PySem.W.keepIn K (.ref f23) = true)
    (a24 : PySem.W.nsIn K mainGlobals "_law_entry" = some (some (.ref f24))) (l24 : K.lookup f24 = some ⟨oc24, od24, .func (PySem.W.fnOf "_law_entry" "_law_entry" (defArgs s24) (defBody s24) (defScope s24) .none kV24 dc24 pm24 an24 cd24 ct24), sl24⟩) (c24 : PySem.W.codeIn K cd24 "_law_entry" = true) (k24 : PySem.W.keepIn K (.ref f24) = true)
    (a25 : PySem.W.nsIn K mainGlobals "_law_table" = some (some (.ref f25))) (l25 : K.lookup f25 = some ⟨oc25, od25, .func (PySem.W.fnOf "_law_table" "_law_table" (defArgs s25) (defBody s25) (defScope s25) .none kV25 dc25 pm25 an25 cd25 ct25), sl25⟩) (c25 : PySem.W.codeIn K cd25 "_law_table" = true) (k25 : PySem.W.keepIn K (.ref f25) = true)
    (a26 : PySem.W.nsIn K mainGlobals "_law_turned" = some (some (.ref f26))) (l26 : K.lookup f26 = some ⟨oc26, od26, .func (PySem.W.fnOf "_law_turned" "_law_turned" (defArgs s26) (defBody s26) (defScope s26) .none kV26 dc26 pm26 an26 cd26 ct26), sl26⟩) (c26 : PySem.W.codeIn K cd26 "_law_turned" = true) (k26 : PySem.W.keepIn K (.ref f26) = true)
    (a27 : PySem.W.nsIn K mainGlobals "_law_cycle" = some (some (.ref f27))) (l27 : K.lookup f27 = some ⟨oc27, od27, .func (PySem.W.fnOf "_law_cycle" "_law_cycle" (defArgs s27) (defBody s27) (defScope s27) .none kV27 dc27 pm27 an27 cd27 ct27), sl27⟩) (c27 : PySem.W.codeIn K cd27 "_law_cycle" = true) (k27 : PySem.W.keepIn K (.ref f27) = true)
    (a28 : PySem.W.nsIn K mainGlobals "_law_refused" = some (some (.ref f28))) (l28 : K.lookup f28 = some ⟨oc28, od28, .func (PySem.W.fnOf "_law_refused" "_law_refused" (defArgs s28) (defBody s28) (defScope s28) .none kV28 dc28 pm28 an28 cd28 ct28), sl28⟩) (c28 : PySem.W.codeIn K cd28 "_law_refused" = true) (k28 : PySem.W.keepIn K (.ref f28) = true)
    (a29 : PySem.W.nsIn K mainGlobals "law" = some (some (.ref f29))) (l29 : K.lookup f29 = some ⟨oc29, od29, .func (PySem.W.fnOf "law" "law" (defArgs s29) (defBody s29) (defScope s29) .none kV29 dc29 pm29 an29 cd29 ct29), sl29⟩) (c29 : PySem.W.codeIn K cd29 "law" = true) (k29 : PySem.W.keepIn K (.ref f29) = true)
    (z_abs : PySem.W.nsIn K mainGlobals "abs" = some none)
    (z_int : PySem.W.nsIn K mainGlobals "int" = some none)
    (z_isinstance : PySem.W.nsIn K mainGlobals "isinstance" = some none)
    (z_len : PySem.W.nsIn K mainGlobals "len" = some none)
    (z_max : PySem.W.nsIn K mainGlobals "max" = some none)
    (z_min : PySem.W.nsIn K mainGlobals "min" = some none)
    (z_range : PySem.W.nsIn K mainGlobals "range" = some none)
    (z_sum : PySem.W.nsIn K mainGlobals "sum" = some none)
    (z_tuple : PySem.W.nsIn K mainGlobals "tuple" = some none)
    (z_zip : PySem.W.nsIn K mainGlobals "zip" = some none)
    {Cl fI : Addr} {odI anI : Option Addr} {slI : Array (Option Value)} {ocI kVI dcI pmI cdI ctI : Value} {f30 f31 f32 : Addr} {od30 an30 od31 an31 od32 an32 : Option Addr} {sl30 sl31 sl32 : Array (Option Value)} {oc30 kV30 dc30 pm30 cd30 ct30 oc31 kV31 dc31 pm31 cd31 ct31 oc32 kV32 dc32 pm32 cd32 ct32 : Value}
    (aC : PySem.W.nsIn K mainGlobals "Powers" = some (some (.ref Cl))) (cpg : PySem.W.plainGet K Cl Str.empty = true) (chd : PySem.W.hasDictIn K Cl = true) (cpo : PySem.W.plainOver K Cl = true) (csa : PySem.W.findIn K (.ref Cl) "__setattr__" = some (some (.builtin "object.__setattr__"))) (cmk : PySem.W.makesIn K Cl = true) (ckc : PySem.W.keepIn K (.ref Cl) = true) (cnA : PySem.W.findIn K (.ref Cl) "rows" = some none)
    (aI : PySem.W.findIn K (.ref Cl) "__init__" = some (some (.ref fI))) (iI : PySem.W.isFn K (.ref fI) = true) (lI : K.lookup fI = some ⟨ocI, odI, .func (PySem.W.fnOf "__init__" "Powers.__init__" (defArgs sI) (defBody sI) (defScope sI) .none kVI dcI pmI anI cdI ctI), slI⟩) (cI : PySem.W.codeIn K cdI "Powers.__init__" = true) (kI : PySem.W.keepIn K (.ref fI) = true)
    (a30 : PySem.W.findIn K (.ref Cl) "row" = some (some (.ref f30))) (i30 : PySem.W.isFn K (.ref f30) = true) (l30 : K.lookup f30 = some ⟨oc30, od30, .func (PySem.W.fnOf "row" "Powers.row" (defArgs s30) (defBody s30) (defScope s30) .none kV30 dc30 pm30 an30 cd30 ct30), sl30⟩) (c30 : PySem.W.codeIn K cd30 "Powers.row" = true) (k30 : PySem.W.keepIn K (.ref f30) = true)
    (a31 : PySem.W.findIn K (.ref Cl) "power" = some (some (.ref f31))) (i31 : PySem.W.isFn K (.ref f31) = true) (l31 : K.lookup f31 = some ⟨oc31, od31, .func (PySem.W.fnOf "power" "Powers.power" (defArgs s31) (defBody s31) (defScope s31) .none kV31 dc31 pm31 an31 cd31 ct31), sl31⟩) (c31 : PySem.W.codeIn K cd31 "Powers.power" = true) (k31 : PySem.W.keepIn K (.ref f31) = true)
    (a32 : PySem.W.findIn K (.ref Cl) "number" = some (some (.ref f32))) (i32 : PySem.W.isFn K (.ref f32) = true) (l32 : K.lookup f32 = some ⟨oc32, od32, .func (PySem.W.fnOf "number" "Powers.number" (defArgs s32) (defBody s32) (defScope s32) .none kV32 dc32 pm32 an32 cd32 ct32), sl32⟩) (c32 : PySem.W.codeIn K cd32 "Powers.number" = true) (k32 : PySem.W.keepIn K (.ref f32) = true)
    {k_MAX_BINARY : Tok} (y_MAX_BINARY : PySem.W.nsIn K mainGlobals "MAX_BINARY" = some (some (.int 64 k_MAX_BINARY)))
    {k_MAX_DIGITS : Tok} (y_MAX_DIGITS : PySem.W.nsIn K mainGlobals "MAX_DIGITS" = some (some (.int 2900 k_MAX_DIGITS)))
    {k_MAX_HEIGHT : Tok} (y_MAX_HEIGHT : PySem.W.nsIn K mainGlobals "MAX_HEIGHT" = some (some (.int 40 k_MAX_HEIGHT)))
    {k_MAX_MODULUS : Tok} (y_MAX_MODULUS : PySem.W.nsIn K mainGlobals "MAX_MODULUS" = some (some (.int 10000 k_MAX_MODULUS)))
    {k_MAX_SIZE : Tok} (y_MAX_SIZE : PySem.W.nsIn K mainGlobals "MAX_SIZE" = some (some (.int 300 k_MAX_SIZE)))
    {k_MAX_TURN_MODULUS : Tok} (y_MAX_TURN_MODULUS : PySem.W.nsIn K mainGlobals "MAX_TURN_MODULUS" = some (some (.int 12 k_MAX_TURN_MODULUS)))
    {A0 : Addr} (xa0 : PySem.W.nsIn K mainGlobals "ReckonError" = some (some (.ref A0))) (xe0 : PySem.W.excIn K A0 [.type "ValueError", .type "Exception", .type "BaseException", .type "object"] "ValueError.__new__" = true) (xk0 : PySem.W.keepIn K (.ref A0) = true) (xb0 : PySem.W.subIn K (.ref A0) (.type "BaseException") = some true) (xt0 : PySem.W.typeIn K (.ref A0) = some (.type "type")) (xd0 : PySem.W.hasDictIn K A0 = true)
    (xg0 : PySem.W.findIn K (.ref A0) "__getattribute__" = some (some (.builtin "BaseException.__getattribute__"))) (xh0 : PySem.W.findIn K (.ref A0) "__getattr__" = some none) (xc0 : PySem.W.findIn K (.ref A0) "__class__" = some (some (.builtin "object.__class__"))) (xm0 : PySem.W.mroIn K A0 (.type "object") = some true)
    {A1 : Addr} (xa1 : PySem.W.nsIn K mainGlobals "NotAllowed" = some (some (.ref A1))) (xe1 : PySem.W.excIn K A1 [.type "ValueError", .type "Exception", .type "BaseException", .type "object"] "ValueError.__new__" = true) (xk1 : PySem.W.keepIn K (.ref A1) = true) (xb1 : PySem.W.subIn K (.ref A1) (.type "BaseException") = some true) (xt1 : PySem.W.typeIn K (.ref A1) = some (.type "type")) (xd1 : PySem.W.hasDictIn K A1 = true)
    (xg1 : PySem.W.findIn K (.ref A1) "__getattribute__" = some (some (.builtin "BaseException.__getattribute__"))) (xh1 : PySem.W.findIn K (.ref A1) "__getattr__" = some none) (xc1 : PySem.W.findIn K (.ref A1) "__class__" = some (some (.builtin "object.__class__"))) (xm1 : PySem.W.mroIn K A1 (.type "object") = some true)
    {A2 : Addr} (xa2 : PySem.W.nsIn K mainGlobals "TooLarge" = some (some (.ref A2))) (xe2 : PySem.W.excIn K A2 [.type "ValueError", .type "Exception", .type "BaseException", .type "object"] "ValueError.__new__" = true) (xk2 : PySem.W.keepIn K (.ref A2) = true) (xb2 : PySem.W.subIn K (.ref A2) (.type "BaseException") = some true) (xt2 : PySem.W.typeIn K (.ref A2) = some (.type "type")) (xd2 : PySem.W.hasDictIn K A2 = true)
    (xg2 : PySem.W.findIn K (.ref A2) "__getattribute__" = some (some (.builtin "BaseException.__getattribute__"))) (xh2 : PySem.W.findIn K (.ref A2) "__getattr__" = some none) (xc2 : PySem.W.findIn K (.ref A2) "__class__" = some (some (.builtin "object.__class__"))) (xm2 : PySem.W.mroIn K A2 (.type "object") = some true)
    {A3 : Addr} (xa3 : PySem.W.nsIn K mainGlobals "Missing" = some (some (.ref A3))) (xe3 : PySem.W.excIn K A3 [.type "ValueError", .type "Exception", .type "BaseException", .type "object"] "ValueError.__new__" = true) (xk3 : PySem.W.keepIn K (.ref A3) = true) (xb3 : PySem.W.subIn K (.ref A3) (.type "BaseException") = some true) (xt3 : PySem.W.typeIn K (.ref A3) = some (.type "type")) (xd3 : PySem.W.hasDictIn K A3 = true)
    (xg3 : PySem.W.findIn K (.ref A3) "__getattribute__" = some (some (.builtin "BaseException.__getattribute__"))) (xh3 : PySem.W.findIn K (.ref A3) "__getattr__" = some none) (xc3 : PySem.W.findIn K (.ref A3) "__class__" = some (some (.builtin "object.__class__"))) (xm3 : PySem.W.mroIn K A3 (.type "object") = some true)
    (xn : PySem.W.specialIn K (.builtin "object.__class__") "__get__" = some (some (.builtin "getset_descriptor.__get__"))) (xo : PySem.W.takesIn K (.builtin "object.__class__") = some true)
    (uk_NotAllowed_Missing : PySem.W.subIn K (.ref A1) (.ref A3) = some false)
    (vk_NotAllowed_Missing : (Value.ref A1 == Value.ref A3) = false)
    (uk_NotAllowed_ReckonError : PySem.W.subIn K (.ref A1) (.ref A0) = some true)
    (uk_NotAllowed_TooLarge : PySem.W.subIn K (.ref A1) (.ref A2) = some false)
    (vk_NotAllowed_TooLarge : (Value.ref A1 == Value.ref A2) = false)
    (s_NotAllowed_NotAllowed : PySem.W.subIn K (.ref A1) (.ref A1) = some true)
    (s_TooLarge_NotAllowed : PySem.W.subIn K (.ref A2) (.ref A1) = some false)
    : ∃ fd : FuncData, (∀ (s : Shared) (v : Value), BindsTo s fd ⟨[v], []⟩ [("_law_script", v)]) ∧ ∀ base : Heap, K.In base → base.Ns mainGlobals mg → FnOk l.prog w K mg base CX0 61 fa fd ["_law_script"] (spLaw 63 K) := by
  have e := hfa.symm.trans (PySem.W.mg_of X G a29)
  cases e
  have F0 := fun_mk (st := s0) l0 c0 k0
  have T0 : Txt K mg "size_of" "size_of" s0 p0 := ⟨_, _, F0, PySem.W.mg_of X G a0, F0.binds (ps := p0) fun _ _ _ _ _ _ us hl => match us, hl with | [_], _ => rfl⟩
  have F1 := fun_mk (st := s1) l1 c1 k1
  have T1 : Txt K mg "height_of" "height_of" s1 p1 := ⟨_, _, F1, PySem.W.mg_of X G a1, F1.binds (ps := p1) fun _ _ _ _ _ _ us hl => match us, hl with | [_], _ => rfl⟩
  have F2 := fun_mk (st := s2) l2 c2 k2
  have T2 : Txt K mg "compare" "compare" s2 p2 := ⟨_, _, F2, PySem.W.mg_of X G a2, F2.binds (ps := p2) fun _ _ _ _ _ _ us hl => match us, hl with | [_, _], _ => rfl⟩
  have F3 := fun_mk (st := s3) l3 c3 k3
  have T3 : Txt K mg "sign_of" "sign_of" s3 p3 := ⟨_, _, F3, PySem.W.mg_of X G a3, F3.binds (ps := p3) fun _ _ _ _ _ _ us hl => match us, hl with | [_], _ => rfl⟩
  have F4 := fun_mk (st := s4) l4 c4 k4
  have T4 : Txt K mg "from_int" "from_int" s4 p4 := ⟨_, _, F4, PySem.W.mg_of X G a4, F4.binds (ps := p4) fun _ _ _ _ _ _ us hl => match us, hl with | [_], _ => rfl⟩
  have F5 := fun_mk (st := s5) l5 c5 k5
  have T5 : Txt K mg "is_allowed" "is_allowed" s5 p5 := ⟨_, _, F5, PySem.W.mg_of X G a5, F5.binds (ps := p5) fun _ _ _ _ _ _ us hl => match us, hl with | [_], _ => rfl⟩
  have F6 := fun_mk (st := s6) l6 c6 k6
  have T6 : Txt K mg "allowed" "allowed" s6 p6 := ⟨_, _, F6, PySem.W.mg_of X G a6, F6.binds (ps := p6) fun _ _ _ _ _ _ us hl => match us, hl with | [_], _ => rfl⟩
  have F7 := fun_mk (st := s7) l7 c7 k7
  have T7 : Txt K mg "of_int" "of_int" s7 p7 := ⟨_, _, F7, PySem.W.mg_of X G a7, F7.binds (ps := p7) fun _ _ _ _ _ _ us hl => match us, hl with | [_], _ => rfl⟩
  have F8 := fun_mk (st := s8) l8 c8 k8
  have T8 : Txt K mg "power_of_two" "power_of_two" s8 p8 := ⟨_, _, F8, PySem.W.mg_of X G a8, F8.binds (ps := p8) fun _ _ _ _ _ _ us hl => match us, hl with | [_], _ => rfl⟩
  have F9 := fun_mk (st := s9) l9 c9 k9
  have T9 : Txt K mg "to_int" "to_int" s9 p9 := ⟨_, _, F9, PySem.W.mg_of X G a9, F9.binds (ps := p9) fun _ _ _ _ _ _ us hl => match us, hl with | [_], _ => rfl⟩
  have F10 := fun_mk (st := s10) l10 c10 k10
  have T10 : Txt K mg "check_modulus_remainders" "check_modulus" s10 p10 := ⟨_, _, F10, PySem.W.mg_of X G a10, F10.binds (ps := p10) fun _ _ _ _ _ _ us hl => match us, hl with | [_], _ => rfl⟩
  have F11 := fun_mk (st := s11) l11 c11 k11
  have T11 : Txt K mg "row_of_two" "row_of_two" s11 p11 := ⟨_, _, F11, PySem.W.mg_of X G a11, F11.binds (ps := p11) fun _ _ _ _ _ _ us hl => match us, hl with | [_], _ => rfl⟩
  have F12 := fun_mk (st := s12) l12 c12 k12
  have T12 : Txt K mg "remainder" "remainder" s12 p12 := ⟨_, _, F12, PySem.W.mg_of X G a12, F12.binds (ps := p12) fun _ _ _ _ _ _ us hl => match us, hl with | [_, _], _ => rfl⟩
  have F13 := fun_mk (st := s13) l13 c13 k13
  have T13 : Txt K mg "check_modulus_turns" "check_modulus" s13 p13 := ⟨_, _, F13, PySem.W.mg_of X G a13, F13.binds (ps := p13) fun _ _ _ _ _ _ us hl => match us, hl with | [_], _ => rfl⟩
  have F14 := fun_mk (st := s14) l14 c14 k14
  have T14 : Txt K mg "check_times" "check_times" s14 p14 := ⟨_, _, F14, PySem.W.mg_of X G a14, F14.binds (ps := p14) fun _ _ _ _ _ _ us hl => match us, hl with | [_], _ => rfl⟩
  have F15 := fun_mk (st := s15) l15 c15 k15
  have T15 : Txt K mg "turned" "turned" s15 p15 := ⟨_, _, F15, PySem.W.mg_of X G a15, F15.binds (ps := p15) fun _ _ _ _ _ _ us hl => match us, hl with | [_, _, _], _ => rfl⟩
  have F16 := fun_mk (st := s16) l16 c16 k16
  have T16 : Txt K mg "states_of" "states_of" s16 p16 := ⟨_, _, F16, PySem.W.mg_of X G a16, F16.binds (ps := p16) fun _ _ _ _ _ _ us hl => match us, hl with | [_, _, _], _ => rfl⟩
  have F17 := fun_mk (st := s17) l17 c17 k17
  have T17 : Txt K mg "cycle_of" "cycle_of" s17 p17 := ⟨_, _, F17, PySem.W.mg_of X G a17, F17.binds (ps := p17) fun _ _ _ _ _ _ us hl => match us, hl with | [_, _, _], _ => rfl⟩
  have F18 := fun_mk (st := s18) l18 c18 k18
  have T18 : Txt K mg "state_at" "state_at" s18 p18 := ⟨_, _, F18, PySem.W.mg_of X G a18, F18.binds (ps := p18) fun _ _ _ _ _ _ us hl => match us, hl with | [_, _, _, _], _ => rfl⟩
  have F19 := fun_mk (st := s19) l19 c19 k19
  have T19 : Txt K mg "state_behind" "state_behind" s19 p19 := ⟨_, _, F19, PySem.W.mg_of X G a19, F19.binds (ps := p19) fun _ _ _ _ _ _ us hl => match us, hl with | [_, _, _, _], _ => rfl⟩
  have F20 := fun_mk (st := s20) l20 c20 k20
  have T20 : Txt K mg "joined" "joined" s20 p20 := ⟨_, _, F20, PySem.W.mg_of X G a20, F20.binds (ps := p20) fun _ _ _ _ _ _ us hl => match us, hl with | [_, _, _], _ => rfl⟩
  have F21 := fun_mk (st := s21) l21 c21 k21
  have T21 : Txt K mg "table_behind" "table_behind" s21 p21 := ⟨_, _, F21, PySem.W.mg_of X G a21, F21.binds (ps := p21) fun _ _ _ _ _ _ us hl => match us, hl with | [_, _, _], _ => rfl⟩
  have F22 := fun_mk (st := s22) l22 c22 k22
  have T22 : Txt K mg "_law_cell" "_law_cell" s22 p22 := ⟨_, _, F22, PySem.W.mg_of X G a22, F22.binds (ps := p22) fun _ _ _ _ _ _ us hl => match us, hl with | [_, _], _ => rfl⟩
  have F23 := fun_mk (st := s23) l23 c23 k23
  have T23 : Txt K mg "_law_numbers" "_law_numbers" s23 p23 := ⟨_, _, F23, PySem.W.mg_of X G a23, F23.binds (ps := p23) fun _ _ _ _ _ _ us hl => match us, hl with | [_, _, _], _ => rfl⟩
  have F24 := fun_mk (st := s24) l24 c24 k24
  have T24 : Txt K mg "_law_entry" "_law_entry" s24 p24 := ⟨_, _, F24, PySem.W.mg_of X G a24, F24.binds (ps := p24) fun _ _ _ _ _ _ us hl => match us, hl with | [_, _], _ => rfl⟩
  have F25 := fun_mk (st := s25) l25 c25 k25
  have T25 : Txt K mg "_law_table" "_law_table" s25 p25 := ⟨_, _, F25, PySem.W.mg_of X G a25, F25.binds (ps := p25) fun _ _ _ _ _ _ us hl => match us, hl with | [_, _], _ => rfl⟩
  have F26 := fun_mk (st := s26) l26 c26 k26
  have T26 : Txt K mg "_law_turned" "_law_turned" s26 p26 := ⟨_, _, F26, PySem.W.mg_of X G a26, F26.binds (ps := p26) fun _ _ _ _ _ _ us hl => match us, hl with | [_, _, _], _ => rfl⟩
  have F27 := fun_mk (st := s27) l27 c27 k27
  have T27 : Txt K mg "_law_cycle" "_law_cycle" s27 p27 := ⟨_, _, F27, PySem.W.mg_of X G a27, F27.binds (ps := p27) fun _ _ _ _ _ _ us hl => match us, hl with | [_, _, _], _ => rfl⟩
  have F28 := fun_mk (st := s28) l28 c28 k28
  have T28 : Txt K mg "_law_refused" "_law_refused" s28 p28 := ⟨_, _, F28, PySem.W.mg_of X G a28, F28.binds (ps := p28) fun _ _ _ _ _ _ us hl => match us, hl with | [_, _, _], _ => rfl⟩
  have FL := fun_mk (st := s29) l29 c29 k29
  refine ⟨PySem.W.fnOf "law" "law" (defArgs s29) (defBody s29) (defScope s29) .none kV29 dc29 pm29 an29 cd29 ct29, fun s v => .of_eq rfl, fun base _ _ => ?_⟩
  have hcl : Cls K Cl := ⟨cpg, chd, cpo, csa⟩
  have FI := fun_mk (st := sI) lI cI kI
  have FM30 := fun_mk (st := s30) l30 c30 k30
  have TM30 : TxtM K Cl "row" "Powers.row" s30 p30 := ⟨_, _, FM30, FM30.binds (ps := p30) fun _ _ _ _ _ _ us hl => match us, hl with | [_, _], _ => rfl, ⟨a30, i30, k30⟩⟩
  have FM31 := fun_mk (st := s31) l31 c31 k31
  have TM31 : TxtM K Cl "power" "Powers.power" s31 p31 := ⟨_, _, FM31, FM31.binds (ps := p31) fun _ _ _ _ _ _ us hl => match us, hl with | [_, _, _], _ => rfl, ⟨a31, i31, k31⟩⟩
  have FM32 := fun_mk (st := s32) l32 c32 k32
  have TM32 : TxtM K Cl "number" "Powers.number" s32 p32 := ⟨_, _, FM32, FM32.binds (ps := p32) fun _ _ _ _ _ _ us hl => match us, hl with | [_, _, _], _ => rfl, ⟨a32, i32, k32⟩⟩
  have TC : TxtC l.prog w K mg base Cl "Powers" := ⟨hcl, ⟨_, _, okInit FI hcl cnA, FI.binds (ps := ["self"]) fun _ _ _ _ _ _ us hl => match us, hl with | [_], _ => rfl, ⟨cmk, aI, iI, ckc⟩⟩, PySem.W.mg_of X G aC⟩
  obtain ⟨hf_size_of, hf_height_of, hf_compare, hf_sign_of, hf_from_int, hf_is_allowed, hf_allowed, hf_of_int, hf_power_of_two, hf_to_int, hf_check_modulus_remainders, hf_row_of_two, hf_remainder, hf_check_modulus_turns, hf_check_times, hf_turned, hf_states_of, hf_cycle_of, hf_state_at, hf_state_behind, hf_joined, hf_table_behind, hf__law_cell, hf__law_numbers, hf__law_entry, hf__law_table, hf__law_turned, hf__law_cycle, hf__law_refused, m_row, hm_power, hm_number⟩ := all_good (pr := l.prog) (w := w) (K := K) (mg := mg) (base := base) (ca := fun i => [A0, A1, A2, A3].getD i 0) (Cl := Cl) (rv := rowD) (F := 20000) (PySem.W.mg_none_of X G z_abs) (PySem.W.mg_none_of X G z_int) (PySem.W.mg_none_of X G z_isinstance) (PySem.W.mg_none_of X G z_len) (PySem.W.mg_none_of X G z_max) (PySem.W.mg_none_of X G z_min) (PySem.W.mg_none_of X G z_range) (PySem.W.mg_none_of X G z_sum) (PySem.W.mg_none_of X G z_tuple) (PySem.W.mg_none_of X G z_zip) (PySem.W.mg_of X G y_MAX_BINARY) (PySem.W.mg_of X G y_MAX_DIGITS) (PySem.W.mg_of X G y_MAX_HEIGHT) (PySem.W.mg_of X G y_MAX_MODULUS) (PySem.W.mg_of X G y_MAX_SIZE) (PySem.W.mg_of X G y_MAX_TURN_MODULUS) ⟨⟨PySem.W.mg_of X G xa3, xe3, xk3, xb3, xt3⟩, xd3, ⟨xg3, xh3, xb3, xd3, xc3, xn, xo, xm3⟩⟩ ⟨⟨PySem.W.mg_of X G xa1, xe1, xk1, xb1, xt1⟩, xd1, ⟨xg1, xh1, xb1, xd1, xc1, xn, xo, xm1⟩⟩ ⟨⟨PySem.W.mg_of X G xa0, xe0, xk0, xb0, xt0⟩, xd0, ⟨xg0, xh0, xb0, xd0, xc0, xn, xo, xm0⟩⟩ ⟨⟨PySem.W.mg_of X G xa2, xe2, xk2, xb2, xt2⟩, xd2, ⟨xg2, xh2, xb2, xd2, xc2, xn, xo, xm2⟩⟩ (kit_f xd3 xt3 uk_NotAllowed_Missing vk_NotAllowed_Missing) (kit_t xd0 xt0 uk_NotAllowed_ReckonError) (kit_f xd2 xt2 uk_NotAllowed_TooLarge vk_NotAllowed_TooLarge) s_NotAllowed_NotAllowed s_TooLarge_NotAllowed T0 T1 T2 T3 T4 T5 T6 T7 T8 T9 T10 T11 T12 T13 T14 T15 T16 T17 T18 T19 T20 T21 T22 T23 T24 T25 T26 T27 T28 hcl cnA TC TM30 TM31 TM32 row_law rowD_flat 60
  exact law_ok FL sc29 rfl rfl rfl (by decide) (w29 (PySem.W.mg_of X G y_MAX_TURN_MODULUS) hf__law_cell hf__law_cycle hf__law_entry hf__law_numbers hf__law_refused hf__law_table hf_cycle_of hf_of_int hf_state_behind (PySem.W.mg_none_of X G z_int) (PySem.W.mg_none_of X G z_isinstance) (PySem.W.mg_none_of X G z_len) (PySem.W.mg_none_of X G z_max) (PySem.W.mg_none_of X G z_min) (PySem.W.mg_none_of X G z_range) (PySem.W.mg_none_of X G z_tuple)) pure_law
end My
open PySem PySem.W PyProof.Rows
set_option maxHeartbeats 0 in
theorem PySem.Challenge.cw_sandreckoner_k36_cycles_of_states_holds : PySem.Challenge.rw_sandreckoner_k36_cycles_of_states.Holds := by
  w_on; o_law; k_head; (case hw => w_witness2)
  k_fill
  refine L2.walk_of (l := PySem.Challenge.rw_sandreckoner_k36_cycles_of_states) (n := 63) (k := 61) (x := "_law_script") (CX := fun _ => L2.CX0) (sp := fun w => Rf.spLaw 63 _) rfl (by decide) rfl ⟨rfl, by decide, by decide⟩ (fun w h Y => PySem.W.kIn_of Y) ?F (fun _ _ a ns hl _ hS => ⟨a, ns, rfl, hS, hl, fun _ => rfl⟩) (fun _ _ _ _ _ h => h)
  case F =>
    intro w mg fa h KX G hmg
    refine' My.all_mk KX G hmg ?a0 ?l0 ?c0 ?k0 ?a1 ?l1 ?c1 ?k1 ?a2 ?l2 ?c2 ?k2 ?a3 ?l3 ?c3 ?k3 ?a4 ?l4 ?c4 ?k4 ?a5 ?l5 ?c5 ?k5 ?a6 ?l6 ?c6 ?k6 ?a7 ?l7 ?c7 ?k7 ?a8 ?l8 ?c8 ?k8 ?a9 ?l9 ?c9 ?k9 ?a10 ?l10 ?c10 ?k10 ?a11 ?l11 ?c11 ?k11 ?a12 ?l12 ?c12 ?k12 ?a13 ?l13 ?c13 ?k13 ?a14 ?l14 ?c14 ?k14 ?a15 ?l15 ?c15 ?k15 ?a16 ?l16 ?c16 ?k16 ?a17 ?l17 ?c17 ?k17 ?a18 ?l18 ?c18 ?k18 ?a19 ?l19 ?c19 ?k19 ?a20 ?l20 ?c20 ?k20 ?a21 ?l21 ?c21 ?k21 ?a22 ?l22 ?c22 ?k22 ?a23 ?l23 ?c23 ?k23 ?a24 ?l24 ?c24 ?k24 ?a25 ?l25 ?c25 ?k25 ?a26 ?l26 ?c26 ?k26 ?a27 ?l27 ?c27 ?k27 ?a28 ?l28 ?c28 ?k28 ?a29 ?l29 ?c29 ?k29 ?z_abs ?z_int ?z_isinstance ?z_len ?z_max ?z_min ?z_range ?z_sum ?z_tuple ?z_zip ?aC ?cpg ?chd ?cpo ?csa ?cmk ?ckc ?cnA ?aI ?iI ?lI ?cI ?kI ?a30 ?i30 ?l30 ?c30 ?k30 ?a31 ?i31 ?l31 ?c31 ?k31 ?a32 ?i32 ?l32 ?c32 ?k32 ?y_MAX_BINARY ?y_MAX_DIGITS ?y_MAX_HEIGHT ?y_MAX_MODULUS ?y_MAX_SIZE ?y_MAX_TURN_MODULUS ?xa0 ?xe0 ?xk0 ?xb0 ?xt0 ?xd0 ?xg0 ?xh0 ?xc0 ?xm0 ?xa1 ?xe1 ?xk1 ?xb1 ?xt1 ?xd1 ?xg1 ?xh1 ?xc1 ?xm1 ?xa2 ?xe2 ?xk2 ?xb2 ?xt2 ?xd2 ?xg2 ?xh2 ?xc2 ?xm2 ?xa3 ?xe3 ?xk3 ?xb3 ?xt3 ?xd3 ?xg3 ?xh3 ?xc3 ?xm3 ?xn ?xo ?uk_NotAllowed_Missing ?vk_NotAllowed_Missing ?uk_NotAllowed_ReckonError ?uk_NotAllowed_TooLarge ?vk_NotAllowed_TooLarge ?s_NotAllowed_NotAllowed ?s_TooLarge_NotAllowed
    (case a0 => k_is); (case l0 => k_is); (case c0 => k_is); (case k0 => k_is); (case a1 => k_is); (case l1 => k_is); (case c1 => k_is); (case k1 => k_is); (case a2 => k_is); (case l2 => k_is); (case c2 => k_is); (case k2 => k_is); (case a3 => k_is); (case l3 => k_is); (case c3 => k_is); (case k3 => k_is); (case a4 => k_is); (case l4 => k_is); (case c4 => k_is); (case k4 => k_is); (case a5 => k_is); (case l5 => k_is); (case c5 => k_is); (case k5 => k_is); (case a6 => k_is); (case l6 => k_is); (case c6 => k_is); (case k6 => k_is); (case a7 => k_is); (case l7 => k_is); (case c7 => k_is); (case k7 => k_is); (case a8 => k_is); (case l8 => k_is); (case c8 => k_is); (case k8 => k_is); (case a9 => k_is); (case l9 => k_is); (case c9 => k_is); (case k9 => k_is); (case a10 => k_is); (case l10 => k_is); (case c10 => k_is); (case k10 => k_is); (case a11 => k_is); (case l11 => k_is); (case c11 => k_is); (case k11 => k_is); (case a12 => k_is); (case l12 => k_is); (case c12 => k_is); (case k12 => k_is); (case a13 => k_is); (case l13 => k_is); (case c13 => k_is); (case k13 => k_is); (case a14 => k_is); (case l14 => k_is); (case c14 => k_is); (case k14 => k_is); (case a15 => k_is); (case l15 => k_is); (case c15 => k_is); (case k15 => k_is); (case a16 => k_is); (case l16 => k_is); (case c16 => k_is); (case k16 => k_is); (case a17 => k_is); (case l17 => k_is); (case c17 => k_is); (case k17 => k_is); (case a18 => k_is); (case l18 => k_is); (case c18 => k_is); (case k18 => k_is); (case a19 => k_is); (case l19 => k_is); (case c19 => k_is); (case k19 => k_is); (case a20 => k_is); (case l20 => k_is); (case c20 => k_is); (case k20 => k_is); (case a21 => k_is); (case l21 => k_is); (case c21 => k_is); (case k21 => k_is); (case a22 => k_is); (case l22 => k_is); (case c22 => k_is); (case k22 => k_is); (case a23 => k_is); (case l23 => k_is); (case c23 => k_is); (case k23 => k_is); (case a24 => k_is); (case l24 => k_is); (case c24 => k_is); (case k24 => k_is); (case a25 => k_is); (case l25 => k_is); (case c25 => k_is); (case k25 => k_is); (case a26 => k_is); (case l26 => k_is); (case c26 => k_is); (case k26 => k_is); (case a27 => k_is); (case l27 => k_is); (case c27 => k_is); (case k27 => k_is); (case a28 => k_is); (case l28 => k_is); (case c28 => k_is); (case k28 => k_is); (case a29 => k_is); (case l29 => k_is); (case c29 => k_is); (case k29 => k_is); (case z_abs => k_is); (case z_int => k_is); (case z_isinstance => k_is); (case z_len => k_is); (case z_max => k_is); (case z_min => k_is); (case z_range => k_is); (case z_sum => k_is); (case z_tuple => k_is); (case z_zip => k_is); (case aC => k_is); (case cpg => k_is); (case chd => k_is); (case cpo => k_is); (case csa => k_is); (case cmk => k_is); (case ckc => k_is); (case cnA => k_is); (case aI => k_is); (case iI => k_is); (case lI => k_is); (case cI => k_is); (case kI => k_is); (case a30 => k_is); (case i30 => k_is); (case l30 => k_is); (case c30 => k_is); (case k30 => k_is); (case a31 => k_is); (case i31 => k_is); (case l31 => k_is); (case c31 => k_is); (case k31 => k_is); (case a32 => k_is); (case i32 => k_is); (case l32 => k_is); (case c32 => k_is); (case k32 => k_is); (case y_MAX_BINARY => k_is); (case y_MAX_DIGITS => k_is); (case y_MAX_HEIGHT => k_is); (case y_MAX_MODULUS => k_is); (case y_MAX_SIZE => k_is); (case y_MAX_TURN_MODULUS => k_is); (case xa0 => k_is); (case xe0 => k_exc); (case xk0 => k_is); (case xb0 => k_is); (case xt0 => k_is); (case xd0 => k_is); (case xg0 => k_is); (case xh0 => k_is); (case xc0 => k_is); (case xm0 => k_is); (case xa1 => k_is); (case xe1 => k_exc); (case xk1 => k_is); (case xb1 => k_is); (case xt1 => k_is); (case xd1 => k_is); (case xg1 => k_is); (case xh1 => k_is); (case xc1 => k_is); (case xm1 => k_is); (case xa2 => k_is); (case xe2 => k_exc); (case xk2 => k_is); (case xb2 => k_is); (case xt2 => k_is); (case xd2 => k_is); (case xg2 => k_is); (case xh2 => k_is); (case xc2 => k_is); (case xm2 => k_is); (case xa3 => k_is); (case xe3 => k_exc); (case xk3 => k_is); (case xb3 => k_is); (case xt3 => k_is); (case xd3 => k_is); (case xg3 => k_is); (case xh3 => k_is); (case xc3 => k_is); (case xm3 => k_is); (case xn => k_is); (case xo => k_is); (case uk_NotAllowed_Missing => k_is); (case vk_NotAllowed_Missing => rfl); (case uk_NotAllowed_ReckonError => k_is); (case uk_NotAllowed_TooLarge => k_is); (case vk_NotAllowed_TooLarge => rfl); (case s_NotAllowed_NotAllowed => k_is); (case s_TooLarge_NotAllowed => k_is)
